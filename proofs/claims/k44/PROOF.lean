import PyProof.Rows.All
import Wide.All
import OpenK.AllK
import Wide.FinOn
import HandS.Iter
import HandS.Walk
import KE.GoesMore
import KE.KDictZip
import PyProof.ListNew
import KE.SortData
import HandS.SortInts
import PyProof.ListCopy
import HandS.ForMost
import HandS.Exc
import HandS.ExcOwn
import HandS.WordsExc
import HandS.IsInst
import HandS.Wide
import HandS.EndBits
import HandS.Zip
import HandS.Style
import HandS.Text
import HandS.BoundList
import HandS.Slots
import HandS.SlotsOwn
import HandS.Property
import HandS.TupAny
import HandS.Star
import KE.DataMinMax
import HandS.Flow
import KE.DataCmp
import HandS.SetFor
import HandS.Strs
import HandS.Conv
import HandS.SortKw
import PySem.Challenge.RW_maskedprints_k44_codes_there_and_back
set_option Elab.async false
set_option Elab.async false
set_option linter.all false
set_option autoImplicit false
set_option maxRecDepth 100000
set_option maxHeartbeats 4000000
/-! enumerate(t), t a tuple -/
namespace PI
open PySem PySem.Spec PyProof.Rows L2
/-- what enumerate(v) lays down: the cell of v's iterator, its own cell -/
def enC (h : Heap) (o : Obj) : Heap := (h.push o).push ⟨.type "enumerate", none, .fields #[.none, .bool false, .ref h.objs.size, rawInt 0, .none, .none], #[]⟩
theorem en_new {v : Value} {o : Obj} {J : Heap → Prop} (B : Begins v o J) :
    Meets (Builtin.«enumerate.__new__» ⟨[.type "enumerate", v], []⟩)
      (fun _ R z => J z.heap ∧ R (.ok (.ret (.ref (z.heap.push o).objs.size))) { z with heap := enC z.heap o }) :=
  .of_wp fun pr wo Ar R z hz => by
    obtain ⟨hp, gg, dd, tt, oo⟩ := z
    obtain ⟨j1, hz⟩ := hz
    have hsub := sub_enumerate
    have go : ∀ {A' : Around} {E : Value → Shared → Prop} {Q : Value → Shared → Prop}, Q (.ref hp.objs.size) ⟨hp.push o, gg, dd, tt, oo⟩ → wpAny (model pr wo) A' (pyIter v) Q E ⟨hp, gg, dd, tt, oo⟩ :=
      fun q => B.iter pr wo _ _ ⟨hp, gg, dd, tt, oo⟩ _ j1 q
    wp_walk using go
    refine wpAny_stack_any fun _ => wpAny_pure ?_
    split
    · rename_i cc _ _ _ _ _
      cases (cc == Value.type "enumerate") <;> (wp_walk using go; exact ⟨_, rfl, hz⟩)
    · wp_walk using go
      exact ⟨_, rfl, hz⟩
section
variable {pr : Program} {wo : World} {Ar : Around} {E : Value → Shared → Prop} {z : Shared}
theorem en_call {t : Addr} {its : Array Value} {Q : Value → Shared → Prop} (ht : z.heap.IsTuple t its)
    (k : ∀ h', IsEnum h' (z.heap.objs.size + 1) z.heap.objs.size 0 .none → h'.IsTupleIter z.heap.objs.size t 0 → (∀ b o, z.heap.get? b = some o → h'.get? b = some o) → Q (.ref (z.heap.objs.size + 1)) { z with heap := h' }) :
    wpAny (model pr wo) Ar (call (.type "enumerate") [.ref t]) Q E z := by
  refine callType_new F.called_enumerate (by decide) (F.typeCall_enumerate_1 _) (F.newCall_enumerate_1 _) (fun ob => F.args_object_init_2 ob _) F.entry_enumerate_new (en_new (begins_tuple t its)) ⟨ht, ?_⟩
  generalize hO : ({ cls := .type "tuple_iterator", data := .fields #[.ref t, .int 0 0] } : Obj) = ob
  have sz : (z.heap.push ob).objs.size = z.heap.objs.size + 1 := Heap.size_push ..
  show _ ∧ _
  rw [sz]
  have he : IsEnum (enC z.heap ob) (z.heap.objs.size + 1) z.heap.objs.size 0 .none := by
    unfold enC
    have g := Heap.get?_push_size (z.heap.push ob) (o := ⟨.type "enumerate", none, .fields #[.none, .bool false, .ref z.heap.objs.size, rawInt 0, .none, .none], #[]⟩) rfl
    rw [sz] at g
    exact g
  refine ⟨⟨_, he, rfl⟩, k _ he ⟨_, Heap.get?_push_of_some _ (Heap.get?_push_size _ ?_), ?_, ?_⟩ fun b o g => Heap.get?_push_of_some _ (Heap.get?_push_of_some _ g)⟩
  all_goals (subst hO; rfl)
end
/-- the tuple at a, each item in a new pair with its place -/
def IteT (K : PySem.W.Frag) (a : Addr) : It where
  go := fun i H => ∃ (xs : List V) (x : V), SqT K H a xs ∧ xs[i]? = some x
  yld := fun i H v H' => ∃ T x, v = .ref T ∧ H T = none ∧ H' = upd H T (.tup [.int (i : Nat), x]) ∧ ∀ xs, SqT K H a xs → xs[i]? = some x
  stop := fun i H => ∃ xs : List V, SqT K H a xs ∧ xs.length = i
theorem walk_enumT {K : PySem.W.Frag} {a : Addr} {xs : List V} : Walk (IteT K a) xs.length (fun H => SqT K H a xs) (YPair (fun i => some (.int (i : Nat))) (fun i => xs[i]?)) :=
  ⟨fun i _ hi q => ⟨xs, xs[i], q, by simp [hi]⟩, fun _ q => ⟨xs, q, rfl⟩, fun i H v H' _ q y => by
    obtain ⟨T, x, y1, y2, y3, y4⟩ := y
    exact ⟨T, .int (i : Nat), x, y1, y2, y3, rfl, y4 xs q⟩⟩
theorem turn_enumT {P : Program} {w : World} {K : PySem.W.Frag} {elts : List Expr} {kk : Nat} {tpos : Pos} (a e it : Addr) :
    Turn P w K (.Tuple elts kk tpos) (IteT K a) [e, it] e (fun i h => (∃ old, IsEnum h e it ((i : Nat) : Int) old) ∧ h.IsTupleIter it a i ∧ e ≠ it ∧ a ≠ it ∧ e ≠ a) where
  mem := by simp
  obj := fun i h st b hb => by
    obtain ⟨⟨old, he⟩, ⟨o, ho, hc, hd⟩, _⟩ := st
    rcases (show b = e ∨ b = it by simpa using hb) with rfl | rfl
    · exact ⟨_, he, fun v q => nomatch q⟩
    · exact ⟨o, ho, fun v q => by rw [hd] at q; cases q⟩
  keep := fun i h h' st k => ⟨⟨st.1.choose, k e (by simp) _ st.1.choose_spec⟩, st.2.1.at fun o q => k it (by simp) o q, st.2.2⟩
  item := by
    intro X hP hw hK hc i pins s σ H E I hf st hg
    subst hP hw hK
    obtain ⟨⟨old, he⟩, hit, hne, hai, hea⟩ := st
    obtain ⟨xs, x, hq, hx⟩ := hg
    obtain ⟨its, rv, p, hz⟩ := I.tuple hq
    obtain ⟨u, hu, ru⟩ := rv.get hx
    have hlen := rv.length
    have hil : i < xs.length := (List.getElem?_eq_some_iff.mp hx).1
    have Dr := Draws.tuple (prog := X.prog) (w := X.w) (A := X.A.in1) (by simpa using I.ok.hd hc) it a hai its.toArray
    refine wpAny_pyNext_enum_itemD Dr he ⟨hit, p⟩ (by simpa using (by omega : i < its.length)) hne (by simp [hne, hea]) fun x' h' tk hP' ho hit' hT hsz hk => ?_
    have ex : x' = u := by
      have hP' : its.toArray[i]? = some x' := hP'
      have hu' : its.toArray[i]? = some u := by simpa using hu
      rw [hu'] at hP'
      exact (Option.some.inj hP').symm
    subst ex
    have e_lt : e < s.heap.objs.size := Heap.lt_size he
    have it_lt : it < s.heap.objs.size := Heap.lt_size hit.choose_spec.1
    have both : ∀ b, b ∈ [e, it] → b < s.heap.objs.size := fun b hb => by
      rcases (show b = e ∨ b = it by simpa using hb) with rfl | rfl
      · exact e_lt
      · exact it_lt
    refine ⟨_, rfl, ?_⟩
    refine wpAny_letOwnedTupleGo_enum (s := { s with heap := h', toks := tk + 1 }) ho fun h2 he2 sb => ?_
    have pair : h2.get? s.heap.objs.size = some ⟨.type "tuple", none, .seq #[.int i tk, x'] 0, #[]⟩ := (sb.2 _ (Nat.ne_of_gt e_lt)).trans hT
    have ok2 : ObjOk X.prog X.w (upd H s.heap.objs.size (.tup [.int (i : Nat), x])) h2 s.heap.objs.size (.tup [.int (i : Nat), x]) :=
      ⟨by show 2 ≤ sizeLine; decide, [.int i tk, x'], .cons ⟨_, rfl⟩ (.cons ru .nil), ⟨_, pair, rfl, _, rfl⟩⟩
    have I2 : Inv X pins σ (upd H s.heap.objs.size (.tup [.int (i : Nat), x])) { s with heap := h2, toks := tk + 1 } :=
      I.turnedNew (ch := [e, it]) (fun b o hb g => (sb.2 b fun q => hb (by simp [q])).trans (hk b o (fun q => hb (by simp [q])) (fun q => hb (by simp [q])) g)) hf (Nat.le_refl _) ok2
    refine ⟨.ref s.heap.objs.size, _, I2, rfl, ⟨_, x, rfl, I.hok.fresh (Nat.le_refl _), rfl, fun ys hy => by rw [I.tuple_inj hy hq]; exact hx⟩, ⟨⟨x', ?_⟩, ?_, hne, hai, hea⟩, fun b hb => ?_⟩
    · rw [show ((i + 1 : Nat) : Int) = (i : Int) + 1 by omega]
      exact he2
    · exact hit'.1.at fun o q => (sb.2 it (Ne.symm hne)).trans q
    · rw [upd_ne (Nat.ne_of_lt (both b hb))]
      exact (hf b hb).1
  done := by
    intro X hP hw hK hc i pins s σ H E I hf st hg
    subst hP hw hK
    obtain ⟨⟨old, he⟩, hit, hne, hai, hea⟩ := st
    obtain ⟨xs, hq, hx⟩ := hg
    obtain ⟨its, rv, p, hz⟩ := I.tuple hq
    obtain ⟨g0, g1, g2, g3, g4, g5⟩ := hf it (by simp)
    have hlen := rv.length
    have Dr := Draws.tuple (prog := X.prog) (w := X.w) (A := X.A.in1) (by simpa using I.ok.hd hc) it a hai its.toArray
    have ei : i = its.toArray.size := by simp; omega
    rw [ei] at hit
    exact wpAny_pyNext_enum_endD Dr he ⟨hit, p⟩ fun h' eb => ⟨rfl, I.turned (t' := s.toks) (fun b o hb q => eb b o hb q) g0 g1 g3 g4 g5⟩
  self := fun A i s Q E st h => let ⟨⟨_, he⟩, _⟩ := st; wpAny_pyIter_enum he h
def iEnumT (K : PySem.W.Frag) (ta : TA) : TI := fun σ H R => ta σ H fun vs H1 => ∃ a xs, vs = [.ref a] ∧ ((SqL K H1 a xs ∧ R (Ite K a) H1) ∨ (SqT K H1 a xs ∧ R (IteT K a) H1))
theorem pi_enumT {X : Cx} {e : Expr} {ta : TA} {p pos tpos : Pos} {elts : List Expr} {kk : Nat} (hg : Gl X "enumerate") (hm : X.mg "enumerate" = none) (ha : PA X [e] ta) (hs : starEach [e] X.env = [(false, eval e X.env)]) :
    L2.PI X (.Tuple elts kk tpos) (.Call (.Name "enumerate" p) [e] [] pos) (iEnumT X.K ta) := by
  refine ⟨fun pins s σ H R I h => ?_⟩
  refine Call_ (ld_blt I hg hm boot_enumerate (PyProof.Rows.callWith_type1 (thn (ha.run pos pins s σ H _ I h) ?_) hs rfl))
  rintro us s1 ⟨vs, H1, I1, r1, a, xs, rfl, q1⟩
  cases r1 with
  | cons r rr =>
    cases rr
    cases r
    have fresh2 : ∀ b, b ∈ [s1.heap.objs.size + 1, s1.heap.objs.size] → FpOk X pins H1 b := fun b hb => by
      have le : s1.heap.objs.size ≤ b := by
        rcases (show b = s1.heap.objs.size + 1 ∨ b = s1.heap.objs.size by simpa using hb) with rfl | rfl
        · exact Nat.le_succ _
        · exact Nat.le_refl _
      exact I1.fpOk le (I1.hok.fresh le)
    rcases q1 with ⟨hq, q⟩ | ⟨hq, q⟩
    · obtain ⟨its, rv, p', hz⟩ := I1.list hq
      refine call_enumerate_list p'.isList fun h' he hit hsz hk => wpAny_pyIter_enum he ?_
      exact ⟨s1.heap.objs.size + 1, [s1.heap.objs.size + 1, s1.heap.objs.size], _, _, H1, rfl, I1.kept (t' := s1.toks) hk, turn_enum a (s1.heap.objs.size + 1) s1.heap.objs.size, ⟨⟨.none, he⟩, hit, Nat.succ_ne_self _⟩, fresh2, q⟩
    · obtain ⟨its, rv, p', hz⟩ := I1.tuple hq
      have la : a < s1.heap.objs.size := by
        obtain ⟨o, ho, _⟩ := p'
        exact Heap.lt_size ho
      refine en_call (show s1.heap.IsTuple a its.toArray from p') fun h' he hit hk => wpAny_pyIter_enum he ?_
      exact ⟨s1.heap.objs.size + 1, [s1.heap.objs.size + 1, s1.heap.objs.size], _, _, H1, rfl, I1.kept (t' := s1.toks) hk, turn_enumT a (s1.heap.objs.size + 1) s1.heap.objs.size, ⟨⟨.none, he⟩, hit, Nat.succ_ne_self _, Nat.ne_of_lt la, Nat.ne_of_gt (Nat.lt_succ_of_lt la)⟩, fresh2, q⟩
end PI

set_option Elab.async false
set_option linter.all false
set_option autoImplicit false
set_option maxRecDepth 100000
set_option maxHeartbeats 4000000
/-! zip(x, y): lists, tuples, texts -/
namespace PI
open PySem PySem.Spec PyProof.Rows L2
inductive Zs where
  | L (a : Addr) | T (a : Addr) | S (z : Str) (t : Tok)
def Zs.as : Zs → List Addr
  | .L a => [a]
  | .T a => [a]
  | .S _ _ => []
def Zs.val : Zs → Value
  | .L a => .ref a
  | .T a => .ref a
  | .S z t => .str z t
def sgs (z : Str) : List V := z.cps.toList.map fun c => V.str ⟨#[c]⟩
def Zs.Ok (K : PySem.W.Frag) (H : Hp) (p : Zs) (xs : List V) : Prop := match p with
  | .L a => SqL K H a xs
  | .T a => SqT K H a xs
  | .S z _ => xs = sgs z
def Zs.St (p : Zs) (it : Addr) (i : Nat) (h : Heap) : Prop := match p with
  | .L a => h.IsListIter it a i
  | .T a => h.IsTupleIter it a i
  | .S z t => h.IsStrIter it (strIterType z) z t i
theorem sgs_get {z : Str} {i c : Nat} (h : z.cps[i]? = some c) : (sgs z)[i]? = some (V.str ⟨#[c]⟩) := by
  unfold sgs
  rw [List.getElem?_map, Array.getElem?_toList, h]; rfl
theorem Zs.live {p : Zs} {it : Addr} {i : Nat} {h : Heap} (st : p.St it i h) : ∃ o, h.get? it = some o ∧ ∀ v, o.data ≠ .cell v := by
  cases p with
  | L a => obtain ⟨o, ho, hc, hd⟩ := st; exact ⟨o, ho, fun v q => by rw [hd] at q; cases q⟩
  | T a => obtain ⟨o, ho, hc, hd⟩ := st; exact ⟨o, ho, fun v q => by rw [hd] at q; cases q⟩
  | S z t => obtain ⟨o, ho, hc, hd⟩ := st; exact ⟨o, ho, fun v q => by rw [hd] at q; cases q⟩
theorem Zs.kept {p : Zs} {it : Addr} {i : Nat} {h h' : Heap} (st : p.St it i h) (k : ∀ o, h.get? it = some o → h'.get? it = some o) : p.St it i h' := by
  cases p with
  | L a => obtain ⟨o, ho, r⟩ := st; exact ⟨o, k o ho, r⟩
  | T a => obtain ⟨o, ho, r⟩ := st; exact ⟨o, k o ho, r⟩
  | S z t => obtain ⟨o, ho, r⟩ := st; exact ⟨o, k o ho, r⟩
theorem Zs.draws {X : Cx} {pins : List (Addr × Obj)} {σ : L2.St} {H : Hp} {s : Shared} (I : Inv X pins σ H s) (hc : X.calm = true) (p : Zs) {it : Addr} {i : Nat} {xs : List V} (ok : p.Ok X.K H xs) (st : p.St it i s.heap) (ne : it ∉ p.as) :
    ∃ (P : Nat → Value → Prop) (St : Nat → Heap → Prop), Draws X.prog X.w X.A.in1 it (it :: p.as) xs.length P St ∧ St i s.heap ∧ (∀ j u, P j u → ∃ v, xs[j]? = some v ∧ RelV v u) ∧ ∀ j h, St j h → p.St it j h := by
  have hh : X.A.in1.handled = none := by simpa using I.ok.hd hc
  cases p with
  | L a =>
    obtain ⟨its, rv, pl, hz⟩ := I.list ok
    have e : xs.length = its.toArray.size := rv.length.trans (by simp)
    rw [e]
    refine ⟨_, _, Draws.list hh it a (fun z => ne (by rw [← z]; exact List.mem_cons_self)) its.toArray, ⟨st, pl.isList⟩, fun j u h => ?_, fun j h q => q.1⟩
    have h : its[j]? = some u := by simpa using h
    have hj : j < xs.length := by rw [rv.length]; exact (List.getElem?_eq_some_iff.mp h).1
    obtain ⟨u', h1, h2⟩ := rv.get (List.getElem?_eq_getElem hj)
    rw [h] at h1
    cases h1
    exact ⟨xs[j], by simp [hj], h2⟩
  | T a =>
    obtain ⟨its, rv, pl, hz⟩ := I.tuple ok
    have e : xs.length = its.toArray.size := rv.length.trans (by simp)
    rw [e]
    refine ⟨_, _, Draws.tuple hh it a (fun z => ne (by rw [← z]; exact List.mem_cons_self)) its.toArray, ⟨st, pl⟩, fun j u h => ?_, fun j h q => q.1⟩
    have h : its[j]? = some u := by simpa using h
    have hj : j < xs.length := by rw [rv.length]; exact (List.getElem?_eq_some_iff.mp h).1
    obtain ⟨u', h1, h2⟩ := rv.get (List.getElem?_eq_getElem hj)
    rw [h] at h1
    cases h1
    exact ⟨xs[j], by simp [hj], h2⟩
  | S z t =>
    have ok : xs = sgs z := ok
    subst ok
    have e : (sgs z).length = z.cps.size := by simp [sgs]
    rw [e]
    exact ⟨_, _, Draws.text hh it z t, st, fun j u ⟨c, v, h1, h2⟩ => ⟨_, sgs_get h1, v, h2⟩, fun j h q => q⟩
def ItzX (K : PySem.W.Frag) (p q : Zs) : It where
  go := fun i H => ∃ (xs ys : List V) (x y : V), p.Ok K H xs ∧ q.Ok K H ys ∧ xs[i]? = some x ∧ ys[i]? = some y
  yld := fun i H v H' => ∃ T x y, v = .ref T ∧ H T = none ∧ H' = upd H T (.tup [x, y]) ∧ (∀ xs, p.Ok K H xs → xs[i]? = some x) ∧ ∀ ys, q.Ok K H ys → ys[i]? = some y
  stop := fun i H => ∃ xs ys : List V, p.Ok K H xs ∧ q.Ok K H ys ∧ i ≤ xs.length ∧ i ≤ ys.length ∧ (i = xs.length ∨ i = ys.length)
structure Apart5 (z TI TO i1 i2 : Addr) (as bs : List Addr) : Prop where
  sep : ZipSep2 z TI TO i1 i2 (i1 :: as) (i2 :: bs)
  n1 : i1 ∉ as
  n2 : i2 ∉ bs
theorem Zs.uniq {X : Cx} {pins : List (Addr × Obj)} {σ : L2.St} {H : Hp} {s : Shared} (I : Inv X pins σ H s) {p : Zs} {xs ys : List V} (h1 : p.Ok X.K H xs) (h2 : p.Ok X.K H ys) : xs = ys := by
  cases p with
  | L a => exact I.list_inj h1 h2
  | T a => exact I.tuple_inj h1 h2
  | S z t => exact h1.trans h2.symm
theorem turn_zipX {P : Program} {w : World} {K : PySem.W.Frag} {elts : List Expr} {kk : Nat} {tpos : Pos} {p q : Zs} {z TI TO i1 i2 : Addr} (D : Apart5 z TI TO i1 i2 p.as q.as) :
    Turn P w K (.Tuple elts kk tpos) (ItzX K p q) [z, TI, TO, i1, i2] z (fun i h => IsZip h z TI TO .none ∧ IsTupOf2 h TI (.ref i1) (.ref i2) ∧ (∃ x y, IsTupOf2 h TO x y) ∧ p.St i1 i h ∧ q.St i2 i h) where
  mem := by simp
  obj := fun i h st c hc => by
    obtain ⟨hz, hTI, ⟨x, y, hTO⟩, st1, st2⟩ := st
    obtain ⟨o1, e1, d1⟩ := Zs.live (p := p) st1
    obtain ⟨o2, e2, d2⟩ := Zs.live (p := q) st2
    rcases (show c = z ∨ c = TI ∨ c = TO ∨ c = i1 ∨ c = i2 by simpa using hc) with rfl | rfl | rfl | rfl | rfl
    · exact ⟨_, hz, fun v e => nomatch e⟩
    · exact ⟨_, hTI, fun v e => nomatch e⟩
    · exact ⟨_, hTO, fun v e => nomatch e⟩
    · exact ⟨o1, e1, d1⟩
    · exact ⟨o2, e2, d2⟩
  keep := fun i h h' st k => by
    obtain ⟨hz, hTI, ⟨x, y, hTO⟩, st1, st2⟩ := st
    exact ⟨k z (by simp) _ hz, k TI (by simp) _ hTI, ⟨x, y, k TO (by simp) _ hTO⟩, Zs.kept (p := p) st1 fun o e => k i1 (by simp) o e, Zs.kept (p := q) st2 fun o e => k i2 (by simp) o e⟩
  item := by
    intro X hP hw hK hc i pins s σ H E I hf st hg
    subst hP hw hK
    obtain ⟨hz, hTI, ⟨x0, y0, hTO⟩, st1, st2⟩ := st
    obtain ⟨xs, ys, x, y, hqx, hqy, hx, hy⟩ := hg
    obtain ⟨P1, S1, D1, a1, b1, c1⟩ := p.draws I hc hqx st1 D.n1
    obtain ⟨P2, S2, D2, a2, b2, c2⟩ := q.draws I hc hqy st2 D.n2
    have hl1 : i < xs.length := (List.getElem?_eq_some_iff.mp hx).1
    have hl2 : i < ys.length := (List.getElem?_eq_some_iff.mp hy).1
    have zlt : z < s.heap.objs.size := Heap.lt_size hz
    refine wpAny_pyNext_zipD2_item D.sep D1 D2 hz hTI hTO a1 a2 hl1 hl2 fun u1 u2 h' tk y1 y2 z' TO' d1 d2 hT hsz hk => ?_
    obtain ⟨v1, w1, r1⟩ := b1 i u1 y1
    obtain ⟨v2, w2, r2⟩ := b2 i u2 y2
    rw [hx] at w1
    cases w1
    rw [hy] at w2
    cases w2
    refine ⟨_, rfl, wpAny_letOwnedTupleGo_zip (s := { s with heap := h', toks := tk }) z' fun h2 z2 sb => ?_⟩
    have hT2 : h2.get? s.heap.objs.size = some { cls := .type "tuple", data := .seq #[u1, u2] } := (sb.2 _ (Nat.ne_of_gt zlt)).trans hT
    have ok2 : ObjOk X.prog X.w (upd H s.heap.objs.size (.tup [x, y])) h2 s.heap.objs.size (.tup [x, y]) := ⟨by show 2 ≤ sizeLine; decide, [u1, u2], .cons r1 (.cons r2 .nil), ⟨_, hT2, rfl, _, rfl⟩⟩
    have I2 : Inv X pins σ (upd H s.heap.objs.size (.tup [x, y])) { s with heap := h2, toks := tk } :=
      I.turnedNew (t' := tk) (ch := [z, TI, TO, i1, i2]) (fun c o hb e => (sb.2 c fun e' => hb (by simp [e'])).trans (hk c o (fun e' => hb (by simp [e'])) (fun e' => hb (by simp [e'])) (fun e' => hb (by simp [e'])) (fun e' => hb (by simp [e'])) e)) hf (Nat.le_refl _) ok2
    refine ⟨.ref s.heap.objs.size, _, I2, rfl, ⟨_, x, y, rfl, I.hok.fresh (Nat.le_refl _), rfl, fun l hl => by rw [Zs.uniq I hl hqx]; exact hx, fun l hl => by rw [Zs.uniq I hl hqy]; exact hy⟩, ⟨z2, ?_, ⟨u1, u2, ?_⟩, ?_, ?_⟩, fun c hcm => ?_⟩
    · exact (sb.2 _ D.sep.TIz).trans (hk _ _ D.sep.TIz D.sep.TITO D.sep.TIi1 D.sep.TIi2 hTI)
    · exact (sb.2 _ D.sep.TOz).trans TO'
    · exact Zs.kept (p := p) (c1 _ _ d1) fun o e => (sb.2 _ (Ne.symm D.sep.zi1)).trans e
    · exact Zs.kept (p := q) (c2 _ _ d2) fun o e => (sb.2 _ (Ne.symm D.sep.zi2)).trans e
    · have hlt : c < s.heap.objs.size := by
        rcases (show c = z ∨ c = TI ∨ c = TO ∨ c = i1 ∨ c = i2 by simpa using hcm) with rfl | rfl | rfl | rfl | rfl
        · exact zlt
        · exact Heap.lt_size hTI
        · exact Heap.lt_size hTO
        · obtain ⟨_, e1, _⟩ := Zs.live (p := p) st1; exact Heap.lt_size e1
        · obtain ⟨_, e2, _⟩ := Zs.live (p := q) st2; exact Heap.lt_size e2
      rw [upd_ne (Nat.ne_of_lt hlt)]
      exact (hf c hcm).1
  done := by
    intro X hP hw hK hc i pins s σ H E I hf st hg
    subst hP hw hK
    obtain ⟨hz, hTI, ⟨x0, y0, hTO⟩, st1, st2⟩ := st
    obtain ⟨xs, ys, hqx, hqy, le1, le2, hend⟩ := hg
    obtain ⟨P1, S1, D1, a1, b1, c1⟩ := p.draws I hc hqx st1 D.n1
    obtain ⟨P2, S2, D2, a2, b2, c2⟩ := q.draws I hc hqy st2 D.n2
    exact wpAny_pyNext_zipD2_end D.sep D1 D2 hz hTI hTO a1 a2 le1 le2 hend fun h' tk hk => ⟨rfl, I.turnedL (t' := tk) (ch := [z, TI, TO, i1, i2]) (fun c o hb e =>
      hk c o (fun e' => hb (by simp [e'])) (fun e' => hb (by simp [e'])) (fun e' => hb (by simp [e'])) (fun e' => hb (by simp [e'])) e) hf⟩
  self := fun A i s Q E st h => wpAny_pyIter_zip st.1 h
theorem walk_zipX {K : PySem.W.Frag} {p q : Zs} {xs ys : List V} : Walk (ItzX K p q) (min xs.length ys.length) (fun H => p.Ok K H xs ∧ q.Ok K H ys) (YPair (fun i => xs[i]?) (fun i => ys[i]?)) := by
  refine ⟨fun i _ hi h => ?_, fun _ h => ⟨xs, ys, h.1, h.2, by omega, by omega, by omega⟩, fun i H v H' _ h y => ?_⟩
  · have h1 : i < xs.length := by omega
    have h2 : i < ys.length := by omega
    exact ⟨xs, ys, xs[i], ys[i], h.1, h.2, by simp [h1], by simp [h2]⟩
  · obtain ⟨T, x, z, h1, h2, h3, h4, h5⟩ := y
    exact ⟨T, x, z, h1, h2, h3, h4 xs h.1, h5 ys h.2⟩
/-- what v is, to be walked -/
inductive Zk where | L | T | S
def Rep (K : PySem.W.Frag) (H : Hp) (k : Zk) (v : V) (xs : List V) : Prop := match k with
  | .L => ∃ a, v = .ref a ∧ SqL K H a xs
  | .T => ∃ a, v = .ref a ∧ SqT K H a xs
  | .S => ∃ z, v = .str z ∧ xs = sgs z
def Zs.of (p : Zs) (k : Zk) (v : V) : Prop := match k with
  | .L => ∃ a, v = .ref a ∧ p = .L a
  | .T => ∃ a, v = .ref a ∧ p = .T a
  | .S => ∃ z t, v = .str z ∧ p = .S z t
def iZipX (K : PySem.W.Frag) (ta : TA) : TI := fun σ H R => ta σ H fun vs H1 => ∃ v w k1 k2 xs ys, vs = [v, w] ∧ Rep K H1 k1 v xs ∧ Rep K H1 k2 w ys ∧ ∀ p q : Zs, p.of k1 v → q.of k2 w → R (ItzX K p q) H1
theorem Rep.ok {K : PySem.W.Frag} {H : Hp} {k : Zk} {v : V} {xs : List V} {p : Zs} (h : Rep K H k v xs) (o : p.of k v) : p.Ok K H xs := by
  cases k with
  | L =>
    obtain ⟨a, rfl, h⟩ := h
    obtain ⟨b, e, rfl⟩ := o
    cases e
    exact h
  | T =>
    obtain ⟨a, rfl, h⟩ := h
    obtain ⟨b, e, rfl⟩ := o
    cases e
    exact h
  | S =>
    obtain ⟨z, rfl, h⟩ := h
    obtain ⟨b, t, e, rfl⟩ := o
    cases e
    exact h
theorem Rep.src {X : Cx} {pins : List (Addr × Obj)} {σ : L2.St} {H : Hp} {s : Shared} (I : Inv X pins σ H s) {k : Zk} {v : V} {u : Value} {xs : List V} (h : Rep X.K H k v xs) (r : RelV v u) :
    ∃ (p : Zs) (o : Obj) (G : Heap → Prop), p.of k v ∧ Begins u o G ∧ G s.heap ∧ (∀ it h, h.get? it = some o → p.St it 0 h) ∧ ∀ a ∈ p.as, a < s.heap.objs.size := by
  cases k with
  | L =>
    obtain ⟨a, rfl, h⟩ := h
    cases (show u = Value.ref a from r)
    obtain ⟨its, rv, pl, _⟩ := I.list h
    refine ⟨.L a, _, _, ⟨a, rfl, rfl⟩, begins_list a its.toArray, pl.isList, fun it h e => ⟨_, e, rfl, rfl⟩, fun b hb => ?_⟩
    rw [show b = a from List.mem_singleton.mp hb]; exact pl.lt
  | T =>
    obtain ⟨a, rfl, h⟩ := h
    cases (show u = Value.ref a from r)
    obtain ⟨its, rv, pl, _⟩ := I.tuple h
    refine ⟨.T a, _, _, ⟨a, rfl, rfl⟩, begins_tuple a its.toArray, pl, fun it h e => ⟨_, e, rfl, rfl⟩, fun b hb => ?_⟩
    rw [show b = a from List.mem_singleton.mp hb]
    obtain ⟨o, ho, _⟩ := pl
    exact Heap.lt_size ho
  | S =>
    obtain ⟨z, rfl, rfl⟩ := h
    obtain ⟨t, e⟩ := (show ∃ t, u = Value.str z t from r)
    subst e
    exact ⟨.S z t, _, _, ⟨z, t, rfl, rfl⟩, begins_text z t, trivial, fun it h e => ⟨_, e, rfl, rfl⟩, fun b hb => (by cases hb)⟩
theorem pi_zipX {X : Cx} {e e2 : Expr} {ta : TA} {p pos tpos : Pos} {elts : List Expr} {kk : Nat} (hg : Gl X "zip") (hm : X.mg "zip" = none) (ha : PA X [e, e2] ta) (hs : starEach [e, e2] X.env = (false, eval e X.env) :: starEach [e2] X.env) (hpl : (backTo pos (starEach [e2] X.env)).any (·.1) = false) :
    L2.PI X (.Tuple elts kk tpos) (.Call (.Name "zip" p) [e, e2] [] pos) (iZipX X.K ta) := by
  refine ⟨fun pins s σ H R I h => ?_⟩
  refine Call_ (ld_blt I hg hm PyProof.Rows.boot_zip (PyProof.Rows.callWith_type1 (thn (ha.run pos pins s σ H _ I h) fun us s1 ⟨vs, H1, I1, r1, q1⟩ => ?_) hs hpl))
  obtain ⟨v, w, k1, k2, xs, ys, rfl, rx, ry, q⟩ := q1
  obtain ⟨u1, u2, rfl, ru1, ru2⟩ := r1.two
  obtain ⟨p1, o1, G1, ok1, B1, g1, st1, lt1⟩ := rx.src I1 ru1
  obtain ⟨p2, o2, G2, ok2, B2, g2, st2, lt2⟩ := ry.src I1 ru2
  refine zip_begins2 B1 B2 g1 g2 fun h' hz hTI hTO h1 h2 hsz hk => wpAny_pyIter_zip hz ?_
  have I2 : Inv X pins σ H1 { s1 with heap := h' } := I1.kept (t' := s1.toks) hk
  have old1 : ∀ k, s1.heap.objs.size + k ∉ p1.as := fun k z => absurd (lt1 _ z) (Nat.not_lt.mpr (Nat.le_add_right _ _))
  have old2 : ∀ k, s1.heap.objs.size + k ∉ p2.as := fun k z => absurd (lt2 _ z) (Nat.not_lt.mpr (Nat.le_add_right _ _))
  have ne : ∀ {a b : Nat}, a ≠ b → s1.heap.objs.size + a ≠ s1.heap.objs.size + b := fun h z => h (Nat.add_left_cancel z)
  have D : Apart5 (s1.heap.objs.size + 4) (s1.heap.objs.size + 2) (s1.heap.objs.size + 3) (s1.heap.objs.size + 0) (s1.heap.objs.size + 1) p1.as p2.as := by
    refine ⟨⟨ne (by decide), ne (by decide), ne (by decide), ne (by decide), List.mem_cons_self, ?_, ?_, ne (by decide), List.mem_cons_self, ?_, ?_, ?_, ?_⟩, old1 0, old2 1⟩
    · exact fun z => (List.mem_cons.mp z).elim (ne (by decide)) (old1 4)
    · exact fun z => (List.mem_cons.mp z).elim (ne (by decide)) (old1 3)
    · exact fun z => (List.mem_cons.mp z).elim (ne (by decide)) (old2 4)
    · exact fun z => (List.mem_cons.mp z).elim (ne (by decide)) (old2 3)
    · exact fun z => (List.mem_cons.mp z).elim (ne (by decide)) (old2 0)
    · exact fun z => (List.mem_cons.mp z).elim (ne (by decide)) (old1 1)
  refine ⟨s1.heap.objs.size + 4, [s1.heap.objs.size + 4, s1.heap.objs.size + 2, s1.heap.objs.size + 3, s1.heap.objs.size, s1.heap.objs.size + 1], _, _, H1, rfl, I2, turn_zipX D, ⟨hz, hTI, ⟨_, _, hTO⟩, st1 _ _ h1, st2 _ _ h2⟩, fun c hcm => ?_, q p1 p2 ok1 ok2⟩
  have hle : s1.heap.objs.size ≤ c := by
    rcases (show c = s1.heap.objs.size + 4 ∨ c = s1.heap.objs.size + 2 ∨ c = s1.heap.objs.size + 3 ∨ c = s1.heap.objs.size ∨ c = s1.heap.objs.size + 1 by simpa using hcm) with z | z | z | z | z <;> rw [z] <;> first | exact Nat.le_add_right _ _ | exact Nat.le_refl _
  exact I1.fpOk hle (I1.hok.fresh hle)
end PI

set_option Elab.async false
set_option linter.all false
set_option autoImplicit false
set_option maxRecDepth 100000
set_option maxHeartbeats 4000000
/-! enumerate(z), z a text -/
namespace PI
open PySem PySem.Spec PyProof.Rows L2
section
variable {pr : Program} {wo : World} {Ar : Around} {E : Value → Shared → Prop} {z : Shared}
theorem en_callS {x : Str} {t : Tok} {Q : Value → Shared → Prop}
    (k : ∀ h', IsEnum h' (z.heap.objs.size + 1) z.heap.objs.size 0 .none → h'.IsStrIter z.heap.objs.size (strIterType x) x t 0 → (∀ b o, z.heap.get? b = some o → h'.get? b = some o) → Q (.ref (z.heap.objs.size + 1)) { z with heap := h' }) :
    wpAny (model pr wo) Ar (call (.type "enumerate") [.str x t]) Q E z := by
  refine callType_new F.called_enumerate (by decide) (F.typeCall_enumerate_1 _) (F.newCall_enumerate_1 _) (fun ob => F.args_object_init_2 ob _) F.entry_enumerate_new (en_new (begins_text x t)) ⟨trivial, ?_⟩
  generalize hO : ({ cls := .type (strIterType x), data := .fields #[.str x t, .int 0 0] } : Obj) = ob
  have sz : (z.heap.push ob).objs.size = z.heap.objs.size + 1 := Heap.size_push ..
  show _ ∧ _
  rw [sz]
  have he : IsEnum (enC z.heap ob) (z.heap.objs.size + 1) z.heap.objs.size 0 .none := by
    unfold enC
    have g := Heap.get?_push_size (z.heap.push ob) (o := ⟨.type "enumerate", none, .fields #[.none, .bool false, .ref z.heap.objs.size, rawInt 0, .none, .none], #[]⟩) rfl
    rw [sz] at g
    exact g
  refine ⟨⟨_, he, rfl⟩, k _ he ⟨_, Heap.get?_push_of_some _ (Heap.get?_push_size _ ?_), ?_, ?_⟩ fun b o g => Heap.get?_push_of_some _ (Heap.get?_push_of_some _ g)⟩
  all_goals (subst hO; rfl)
end
/-- the signs of a text, each in a new pair with its place -/
def IteS (x : Str) : It where
  go := fun i H => ∃ v : V, (sgs x)[i]? = some v
  yld := fun i H v H' => ∃ T u, v = .ref T ∧ H T = none ∧ H' = upd H T (.tup [.int (i : Nat), u]) ∧ (sgs x)[i]? = some u
  stop := fun i H => (sgs x).length = i
theorem walk_enumS {x : Str} : Walk (IteS x) (sgs x).length (fun _ => True) (YPair (fun i => some (.int (i : Nat))) (fun i => (sgs x)[i]?)) :=
  ⟨fun i _ hi q => ⟨(sgs x)[i], by simp [hi]⟩, fun _ q => rfl, fun i H v H' _ q y => by
    obtain ⟨T, u, y1, y2, y3, y4⟩ := y
    exact ⟨T, .int (i : Nat), u, y1, y2, y3, rfl, y4⟩⟩
theorem turn_enumS {P : Program} {w : World} {K : PySem.W.Frag} {elts : List Expr} {kk : Nat} {tpos : Pos} (x : Str) (t : Tok) (e it : Addr) :
    Turn P w K (.Tuple elts kk tpos) (IteS x) [e, it] e (fun i h => (∃ old, IsEnum h e it ((i : Nat) : Int) old) ∧ h.IsStrIter it (strIterType x) x t i ∧ e ≠ it) where
  mem := by simp
  obj := fun i h st b hb => by
    obtain ⟨⟨old, he⟩, ⟨o, ho, hc, hd⟩, _⟩ := st
    rcases (show b = e ∨ b = it by simpa using hb) with rfl | rfl
    · exact ⟨_, he, fun v q => nomatch q⟩
    · exact ⟨o, ho, fun v q => by rw [hd] at q; cases q⟩
  keep := fun i h h' st k => ⟨⟨st.1.choose, k e (by simp) _ st.1.choose_spec⟩, let ⟨o, ho, r⟩ := st.2.1; ⟨o, k it (by simp) o ho, r⟩, st.2.2⟩
  item := by
    intro X hP hw hK hc i pins s σ H E I hf st hg
    subst hP hw hK
    obtain ⟨⟨old, he⟩, hit, hne⟩ := st
    obtain ⟨v, hx⟩ := hg
    have hil : i < x.cps.size := by
      have := (List.getElem?_eq_some_iff.mp hx).1
      simpa [sgs] using this
    have Dr := Draws.text (prog := X.prog) (w := X.w) (A := X.A.in1) (by simpa using I.ok.hd hc) it x t
    refine wpAny_pyNext_enum_itemD Dr he hit hil hne (by simp [hne]) fun x' h' tk hP' ho hit' hT hsz hk => ?_
    obtain ⟨c, u, hc1, rfl⟩ := hP'
    have hv : v = .str ⟨#[c]⟩ := by
      rw [sgs_get hc1] at hx
      exact (Option.some.inj hx).symm
    subst hv
    have e_lt : e < s.heap.objs.size := Heap.lt_size he
    have it_lt : it < s.heap.objs.size := Heap.lt_size hit.choose_spec.1
    have both : ∀ b, b ∈ [e, it] → b < s.heap.objs.size := fun b hb => by
      rcases (show b = e ∨ b = it by simpa using hb) with rfl | rfl
      · exact e_lt
      · exact it_lt
    refine ⟨_, rfl, ?_⟩
    refine wpAny_letOwnedTupleGo_enum (s := { s with heap := h', toks := tk + 1 }) ho fun h2 he2 sb => ?_
    have pair : h2.get? s.heap.objs.size = some ⟨.type "tuple", none, .seq #[.int i tk, .str ⟨#[c]⟩ u] 0, #[]⟩ := (sb.2 _ (Nat.ne_of_gt e_lt)).trans hT
    have ok2 : ObjOk X.prog X.w (upd H s.heap.objs.size (.tup [.int (i : Nat), .str ⟨#[c]⟩])) h2 s.heap.objs.size (.tup [.int (i : Nat), .str ⟨#[c]⟩]) :=
      ⟨by show 2 ≤ sizeLine; decide, [.int i tk, .str ⟨#[c]⟩ u], .cons ⟨_, rfl⟩ (.cons ⟨_, rfl⟩ .nil), ⟨_, pair, rfl, _, rfl⟩⟩
    have I2 : Inv X pins σ (upd H s.heap.objs.size (.tup [.int (i : Nat), .str ⟨#[c]⟩])) { s with heap := h2, toks := tk + 1 } :=
      I.turnedNew (ch := [e, it]) (fun b o hb g => (sb.2 b fun q => hb (by simp [q])).trans (hk b o (fun q => hb (by simp [q])) (fun q => hb (by simp [q])) g)) hf (Nat.le_refl _) ok2
    refine ⟨.ref s.heap.objs.size, _, I2, rfl, ⟨_, _, rfl, I.hok.fresh (Nat.le_refl _), rfl, hx⟩, ⟨⟨.str ⟨#[c]⟩ u, ?_⟩, ?_, hne⟩, fun b hb => ?_⟩
    · rw [show ((i + 1 : Nat) : Int) = (i : Int) + 1 by omega]
      exact he2
    · obtain ⟨o, ho', r⟩ := hit'
      exact ⟨o, (sb.2 it (Ne.symm hne)).trans ho', r⟩
    · rw [upd_ne (Nat.ne_of_lt (both b hb))]
      exact (hf b hb).1
  done := by
    intro X hP hw hK hc i pins s σ H E I hf st hg
    subst hP hw hK
    obtain ⟨⟨old, he⟩, hit, hne⟩ := st
    obtain ⟨g0, g1, g2, g3, g4, g5⟩ := hf it (by simp)
    have Dr := Draws.text (prog := X.prog) (w := X.w) (A := X.A.in1) (by simpa using I.ok.hd hc) it x t
    have ei : i = x.cps.size := by
      have hg : (sgs x).length = i := hg
      simpa [sgs] using hg.symm
    rw [ei] at hit
    exact wpAny_pyNext_enum_endD Dr he hit fun h' eb => ⟨rfl, I.turned (t' := s.toks) (fun b o hb q => eb b o hb q) g0 g1 g3 g4 g5⟩
  self := fun A i s Q E st h => let ⟨⟨_, he⟩, _⟩ := st; wpAny_pyIter_enum he h
def iEnumX (K : PySem.W.Frag) (ta : TA) : TI := fun σ H R => ta σ H fun vs H1 => ∃ v, vs = [v] ∧ ((∃ a xs, v = .ref a ∧ ((SqL K H1 a xs ∧ R (Ite K a) H1) ∨ (SqT K H1 a xs ∧ R (IteT K a) H1))) ∨ ∃ x, v = .str x ∧ R (IteS x) H1)
theorem pi_enumX {X : Cx} {e : Expr} {ta : TA} {p pos tpos : Pos} {elts : List Expr} {kk : Nat} (hg : Gl X "enumerate") (hm : X.mg "enumerate" = none) (ha : PA X [e] ta) (hs : starEach [e] X.env = [(false, eval e X.env)]) :
    L2.PI X (.Tuple elts kk tpos) (.Call (.Name "enumerate" p) [e] [] pos) (iEnumX X.K ta) := by
  refine ⟨fun pins s σ H R I h => ?_⟩
  refine Call_ (ld_blt I hg hm boot_enumerate (PyProof.Rows.callWith_type1 (thn (ha.run pos pins s σ H _ I h) ?_) hs rfl))
  rintro us s1 ⟨vs, H1, I1, r1, v, rfl, q1⟩
  have fresh2 : ∀ b, b ∈ [s1.heap.objs.size + 1, s1.heap.objs.size] → FpOk X pins H1 b := fun b hb => by
    have le : s1.heap.objs.size ≤ b := by
      rcases (show b = s1.heap.objs.size + 1 ∨ b = s1.heap.objs.size by simpa using hb) with rfl | rfl
      · exact Nat.le_succ _
      · exact Nat.le_refl _
    exact I1.fpOk le (I1.hok.fresh le)
  rcases q1 with ⟨a, xs, rfl, q1⟩ | ⟨x, rfl, q⟩
  · cases r1 with
    | cons r rr =>
      cases rr
      cases r
      rcases q1 with ⟨hq, q⟩ | ⟨hq, q⟩
      · obtain ⟨its, rv, p', hz⟩ := I1.list hq
        refine call_enumerate_list p'.isList fun h' he hit hsz hk => wpAny_pyIter_enum he ?_
        exact ⟨s1.heap.objs.size + 1, [s1.heap.objs.size + 1, s1.heap.objs.size], _, _, H1, rfl, I1.kept (t' := s1.toks) hk, turn_enum a (s1.heap.objs.size + 1) s1.heap.objs.size, ⟨⟨.none, he⟩, hit, Nat.succ_ne_self _⟩, fresh2, q⟩
      · obtain ⟨its, rv, p', hz⟩ := I1.tuple hq
        have la : a < s1.heap.objs.size := by
          obtain ⟨o, ho, _⟩ := p'
          exact Heap.lt_size ho
        refine en_call (show s1.heap.IsTuple a its.toArray from p') fun h' he hit hk => wpAny_pyIter_enum he ?_
        exact ⟨s1.heap.objs.size + 1, [s1.heap.objs.size + 1, s1.heap.objs.size], _, _, H1, rfl, I1.kept (t' := s1.toks) hk, turn_enumT a (s1.heap.objs.size + 1) s1.heap.objs.size, ⟨⟨.none, he⟩, hit, Nat.succ_ne_self _, Nat.ne_of_lt la, Nat.ne_of_gt (Nat.lt_succ_of_lt la)⟩, fresh2, q⟩
  · cases r1 with
    | cons r rr =>
      cases rr
      obtain ⟨t, rfl⟩ := r
      refine en_callS fun h' he hit hk => wpAny_pyIter_enum he ?_
      exact ⟨s1.heap.objs.size + 1, [s1.heap.objs.size + 1, s1.heap.objs.size], _, _, H1, rfl, I1.kept (t' := s1.toks) hk, turn_enumS x t (s1.heap.objs.size + 1) s1.heap.objs.size, ⟨⟨.none, he⟩, hit, Nat.succ_ne_self _⟩, fresh2, q⟩
end PI

set_option Elab.async false
set_option linter.all false
set_option autoImplicit false
set_option maxRecDepth 100000
set_option maxHeartbeats 4000000
/-! list(zip(x, y)): the zip whose tuple is still out, over iterators of any kind -/
namespace PI
open PySem PySem.Spec PyProof.Rows L2
section
variable {prog : Program} {w : World} {A : Around} {E : Value → Shared → Prop} {s : Shared} {z TI TO i1 i2 T : Addr} {fp1 fp2 : List Addr} {n1 n2 i : Nat} {P1 P2 : Nat → Value → Prop} {St1 St2 : Nat → Heap → Prop} {f : Bool} {oT : Obj}
theorem zipH_next_item {Q : Value → Shared → Prop} (S : ZipSep2 z TI TO i1 i2 fp1 fp2) (D1 : Draws prog w A i1 fp1 n1 P1 St1) (D2 : Draws prog w A i2 fp2 n2 P2 St2)
    (hz : IsZipHeld s.heap z TI TO T f) (hT : s.heap.get? T = some oT) (hTI : IsTupOf2 s.heap TI (.ref i1) (.ref i2)) (st1 : St1 i s.heap) (st2 : St2 i s.heap) (hlt1 : i < n1) (hlt2 : i < n2)
    (hQ : ∀ x1 x2 h' tk, P1 i x1 → P2 i x2 → IsZipHeld h' z TI TO T true → St1 (i + 1) h' → St2 (i + 1) h' → IsTupOf2 h' s.heap.objs.size x1 x2 → h'.objs.size = s.heap.objs.size + 1 →
      (∀ c o, c ≠ z → c ≠ i1 → c ≠ i2 → s.heap.get? c = some o → h'.get? c = some o) → Q (.ref s.heap.objs.size) { s with heap := h', toks := tk }) :
    wpAny (model prog w) A (Builtin.«zip.__next__» ⟨[.ref z], []⟩) (fun fin s' => ∃ v, fin = .done (.ret v) ∧ Q v s') E s := by
  obtain ⟨hp, g, d, tk0, os⟩ := s
  show wpAny _ _ (field (.ref z) 2 >>= _) _ _ _
  refine wpAny_bind (wpAny_field hz rfl (x := .bool false) rfl ?_)
  show wpAny _ _ (field (.ref z) 3 >>= _) _ _ _
  refine wpAny_bind (wpAny_field hz rfl (x := .ref TI) rfl ?_)
  refine wpAny_bind (wpAny_seqItems hTI rfl ?_)
  show wpAny _ _ (Builtin.SmallTypes.ownedTupleIsFree (.ref z) >>= _) _ _ _
  refine wpAny_bind (wpAny_tupleHeld_zip hz hT fun g0 hz0 hs0 => ?_)
  replace hs0 : Heap.SameBut z hp g0 := hs0
  simp only [Bool.false_eq_true, if_false]
  refine wpAny_bind ?_
  rw [← Array.forIn_toList]
  simp only [List.forIn_cons, List.forIn_nil]
  refine wpAny_bind (wpAny_bind (wpAny_holding ?_))
  show wpAny _ _ (Builtin.SmallTypes.nextOf (.ref i1) >>= _) _ _ ⟨g0, g, d, tk0, os⟩
  refine wpAny_bind (D1.item i _ _ _ hlt1 (D1.over st1 hs0 S.zf1) fun x1 p1 tk1 hx1 sn1 hp1 => wpAny_pure ?_)
  replace hp1 : Heap.SameBut i1 g0 p1 := hp1
  refine wpAny_pure ?_
  refine wpAny_bind (wpAny_bind (wpAny_holding ?_))
  show wpAny _ _ (Builtin.SmallTypes.nextOf (.ref i2) >>= _) _ _ ⟨p1, g, d, tk1, os⟩
  refine wpAny_bind (D2.item i _ _ _ hlt2 (D2.over (D2.over st2 hs0 S.zf2) hp1 S.sep1_2) fun x2 p2 tk2 hx2 sn2 hp2 => wpAny_pure ?_)
  replace hp2 : Heap.SameBut i2 p1 p2 := hp2
  refine wpAny_pure (wpAny_pure ?_)
  show wpAny _ _ (newTuple [x1, x2] >>= _) _ _ ⟨p2, g, d, tk2, os⟩
  refine wpAny_bind (wpAny_newTuple ?_)
  have hsz : p2.objs.size = hp.objs.size := by rw [hp2.1, hp1.1, hs0.1]
  have hzz : IsZipHeld p2 z TI TO T true := hp2.extBut _ _ S.zi2 (hp1.extBut _ _ S.zi1 hz0)
  have hkk : ∀ c o, c ≠ z → c ≠ i1 → c ≠ i2 → hp.get? c = some o → p2.get? c = some o := fun c o cz c1 c2 e => hp2.extBut _ _ c2 (hp1.extBut _ _ c1 (hs0.extBut _ _ cz e))
  have hj1 : St1 (i + 1) p2 := D1.over sn1 hp2 S.sep2_1
  refine wpAny_pure ⟨_, rfl, ?_⟩
  show Q (.ref p2.objs.size) ⟨p2.push { cls := .type "tuple", data := .seq #[x1, x2] }, g, d, tk2, os⟩
  have hpr : IsTupOf2 (p2.push { cls := .type "tuple", data := .seq #[x1, x2] }) p2.objs.size x1 x2 := Heap.get?_push_size _ rfl
  have hz4 : (p2.push { cls := .type "tuple", data := .seq #[x1, x2] }).objs.size = p2.objs.size + 1 := Heap.size_push ..
  rw [hsz] at hpr hz4 ⊢
  exact hQ x1 x2 _ tk2 hx1 hx2 (Heap.get?_push_of_some _ hzz) (D1.frame _ _ _ hj1 fun b _ o e => Heap.get?_push_of_some _ e) (D2.frame _ _ _ sn2 fun b _ o e => Heap.get?_push_of_some _ e) hpr hz4 fun c o cz c1 c2 e => Heap.get?_push_of_some _ (hkk c o cz c1 c2 e)
theorem zipH_next_end {Q : Fin → Shared → Prop} (S : ZipSep2 z TI TO i1 i2 fp1 fp2) (D1 : Draws prog w A i1 fp1 n1 P1 St1)
    (hz : IsZipHeld s.heap z TI TO T f) (hT : s.heap.get? T = some oT) (hTI : IsTupOf2 s.heap TI (.ref i1) (.ref i2)) (st1 : St1 n1 s.heap)
    (hE : ∀ h' tk e, (∀ c o, c ≠ z → c ≠ i1 → s.heap.get? c = some o → h'.get? c = some o) → (∃ o, h'.get? e = some o ∧ o.cls = .type "StopIteration") → E (.ref e) { s with heap := h', toks := tk }) :
    wpAny (model prog w) A (Builtin.«zip.__next__» ⟨[.ref z], []⟩) Q E s := by
  obtain ⟨hp, g, d, tk0, os⟩ := s
  show wpAny _ _ (field (.ref z) 2 >>= _) _ _ _
  refine wpAny_bind (wpAny_field hz rfl (x := .bool false) rfl ?_)
  show wpAny _ _ (field (.ref z) 3 >>= _) _ _ _
  refine wpAny_bind (wpAny_field hz rfl (x := .ref TI) rfl ?_)
  refine wpAny_bind (wpAny_seqItems hTI rfl ?_)
  show wpAny _ _ (Builtin.SmallTypes.ownedTupleIsFree (.ref z) >>= _) _ _ _
  refine wpAny_bind (wpAny_tupleHeld_zip hz hT fun g0 hz0 hs0 => ?_)
  replace hs0 : Heap.SameBut z hp g0 := hs0
  simp only [Bool.false_eq_true, if_false]
  refine wpAny_bind ?_
  rw [← Array.forIn_toList]
  simp only [List.forIn_cons, List.forIn_nil]
  refine wpAny_bind (wpAny_bind (wpAny_holding ?_))
  show wpAny _ _ (Builtin.SmallTypes.nextOf (.ref i1) >>= _) _ _ ⟨g0, g, d, tk0, os⟩
  refine wpAny_bind (D1.done ⟨g0, g, d, tk0, os⟩ _ _ (D1.over st1 hs0 S.zf1) fun q e hq he => ?_)
  replace hq : Heap.ExtBut i1 g0 q := hq
  exact hE q tk0 e (fun c o cz c1 x => hq _ _ c1 (hs0.extBut _ _ cz x)) he
theorem pyNext_zipH_item {Q : Option Value → Shared → Prop} (S : ZipSep2 z TI TO i1 i2 fp1 fp2) (D1 : Draws prog w A.in1 i1 fp1 n1 P1 St1) (D2 : Draws prog w A.in1 i2 fp2 n2 P2 St2)
    (hz : IsZipHeld s.heap z TI TO T f) (hT : s.heap.get? T = some oT) (hTI : IsTupOf2 s.heap TI (.ref i1) (.ref i2)) (st1 : St1 i s.heap) (st2 : St2 i s.heap) (hlt1 : i < n1) (hlt2 : i < n2)
    (hQ : ∀ x1 x2 h' tk, P1 i x1 → P2 i x2 → IsZipHeld h' z TI TO T true → St1 (i + 1) h' → St2 (i + 1) h' → IsTupOf2 h' s.heap.objs.size x1 x2 → h'.objs.size = s.heap.objs.size + 1 →
      (∀ c o, c ≠ z → c ≠ i1 → c ≠ i2 → s.heap.get? c = some o → h'.get? c = some o) → Q (some (.ref s.heap.objs.size)) { s with heap := h', toks := tk }) :
    wpAny (model prog w) A (pyNext (.ref z)) Q E s := by
  have hTy : s.TypeIs (.ref z) "zip" := ⟨_, hz, rfl⟩
  unfold pyNext
  exact wpAny_bind (wpAny_attempt (wpAny_callSpecial?_slot (name := Str.ofString "__next__") hTy F.slot_zip_next
    (wpAny_call_entry F.slot_zip_next hTy F.entry_zip_next
      (zipH_next_item S D1 D2 hz hT hTI st1 st2 hlt1 hlt2 fun x1 x2 h' tk y1 y2 b1 d1 d2 b5 b6 b7 => wpAny_pure (hQ x1 x2 h' tk y1 y2 b1 d1 d2 b5 b6 b7)) (F.args_zip_next_1 _))))
theorem pyNext_zipH_end {Q : Option Value → Shared → Prop} (S : ZipSep2 z TI TO i1 i2 fp1 fp2) (D1 : Draws prog w A.in1 i1 fp1 n1 P1 St1)
    (hz : IsZipHeld s.heap z TI TO T f) (hT : s.heap.get? T = some oT) (hTI : IsTupOf2 s.heap TI (.ref i1) (.ref i2)) (st1 : St1 n1 s.heap)
    (hQ : ∀ h' tk, (∀ c o, c ≠ z → c ≠ i1 → s.heap.get? c = some o → h'.get? c = some o) → Q none { s with heap := h', toks := tk }) : wpAny (model prog w) A (pyNext (.ref z)) Q E s := by
  have hTy : s.TypeIs (.ref z) "zip" := ⟨_, hz, rfl⟩
  unfold pyNext
  refine wpAny_bind (wpAny_attempt (wpAny_callSpecial?_slot (name := Str.ofString "__next__") hTy F.slot_zip_next
    (wpAny_call_entry F.slot_zip_next hTy F.entry_zip_next (zipH_next_end S D1 hz hT hTI st1 fun h' tk e hk he => ?_) (F.args_zip_next_1 _))))
  obtain ⟨o, ho, hc⟩ := he
  refine wpAny_bind (wpAny_isInstance (T := "StopIteration") (b := true) ⟨o, ho, hc⟩ isSubtype_stop ?_)
  exact wpAny_pure (hQ _ _ hk)
end
/-- the pairs made so far -/
structure Prs (lo : Nat) (P1 P2 : Nat → Value → Prop) (h : Heap) (Ts : List Addr) : Prop where
  lt : ∀ t ∈ Ts, lo ≤ t ∧ t < h.objs.size
  asc : Ts.Pairwise (· < ·)
  at_ : ∀ (j : Nat) (T : Addr), Ts[j]? = some T → ∃ x1 x2, IsTupOf2 h T x1 x2 ∧ P1 j x1 ∧ P2 j x2
abbrev IsLstO (h : Heap) (S : Addr) (Ts : List Addr) (c : Nat) : Prop := h.get? S = some { cls := .type "list", dict := none, data := .seq (Ts.map Value.ref).toArray c, slots := #[] }
theorem Prs.kept {lo : Nat} {P1 P2 : Nat → Value → Prop} {h h' : Heap} {Ts : List Addr} (p : Prs lo P1 P2 h Ts) (hs : h.objs.size ≤ h'.objs.size) (k : ∀ c o, lo ≤ c → h.get? c = some o → h'.get? c = some o) : Prs lo P1 P2 h' Ts :=
  ⟨fun t ht => ⟨(p.lt t ht).1, Nat.lt_of_lt_of_le (p.lt t ht).2 hs⟩, p.asc, fun j T e => by
    obtain ⟨x1, x2, a, b, c⟩ := p.at_ j T e
    exact ⟨x1, x2, k _ _ (p.lt T (List.mem_of_getElem? e)).1 a, b, c⟩⟩
theorem Prs.snoc {lo : Nat} {P1 P2 : Nat → Value → Prop} {h h' : Heap} {Ts : List Addr} (p : Prs lo P1 P2 h Ts) (hlo : lo ≤ h.objs.size) (hs : h'.objs.size = h.objs.size + 1) (k : ∀ c o, lo ≤ c → h.get? c = some o → h'.get? c = some o) {x1 x2 : Value}
    (hT : IsTupOf2 h' h.objs.size x1 x2) (h1 : P1 Ts.length x1) (h2 : P2 Ts.length x2) : Prs lo P1 P2 h' (Ts ++ [h.objs.size]) := by
  have q := p.kept (by omega) k
  refine ⟨fun t ht => ?_, ?_, fun j T e => ?_⟩
  · rcases List.mem_append.mp ht with z | z
    · exact q.lt t z
    · have : t = h.objs.size := by simpa using z
      rw [this, hs]
      exact ⟨hlo, Nat.lt_succ_self _⟩
  · rw [List.pairwise_append]
    refine ⟨p.asc, by simp, fun a ha b hb => ?_⟩
    have e : b = h.objs.size := by simpa using hb
    rw [e]
    exact (p.lt a ha).2
  · by_cases hj : j < Ts.length
    · rw [List.getElem?_append_left hj] at e
      exact q.at_ j T e
    · rw [List.getElem?_append_right (by omega)] at e
      cases hz : j - Ts.length with
      | zero =>
        rw [hz] at e
        have e : h.objs.size = T := by simpa using e
        have : j = Ts.length := by omega
        rw [this, ← e]
        exact ⟨x1, x2, hT, h1, h2⟩
      | succ m =>
        rw [hz] at e
        simp at e
section
variable {prog : Program} {w : World} {A : Around} {R : Result → Shared → Prop} {z TI TO i1 i2 : Addr} {fp1 fp2 : List Addr} {n : Nat} {P1 P2 : Nat → Value → Prop} {St1 St2 : Nat → Heap → Prop}
/-- what must lie below the pairs -/
structure Low (z TI TO i1 i2 S : Addr) (fp1 fp2 : List Addr) (lo : Nat) : Prop where
  lz : z < lo
  lTI : TI < lo
  lTO : TO < lo
  l1 : i1 < lo
  l2 : i2 < lo
  lS : S < lo
  Sz : S ≠ z
  STI : S ≠ TI
  STO : S ≠ TO
  Si1 : S ≠ i1
  Si2 : S ≠ i2
  S1 : S ∉ fp1
  S2 : S ∉ fp2
theorem push_list (Ts : List Addr) (T : Addr) : ((Ts.map Value.ref).toArray).push (.ref T) = ((Ts ++ [T]).map Value.ref).toArray := by simp
theorem zip_loop_held (Sp : ZipSep2 z TI TO i1 i2 fp1 fp2) (D1 : Draws prog w A.in1.in1 i1 fp1 n P1 St1) (D2 : Draws prog w A.in1.in1 i2 fp2 n P2 St2) (hn : n ≤ sizeLine) {S : Addr} {lo : Nat} (L : Low z TI TO i1 i2 S fp1 fp2 lo) (res : Value) :
    ∀ (k i : Nat) (s : Shared) (Ts : List Addr) (c : Nat) (T : Addr) (f : Bool), n - i = k → i ≤ n → Ts.length = i → lo ≤ s.heap.objs.size → IsZipHeld s.heap z TI TO T f → (∃ oT, s.heap.get? T = some oT) → lo ≤ T → IsTupOf2 s.heap TI (.ref i1) (.ref i2) → St1 i s.heap → St2 i s.heap →
      IsLstO s.heap S Ts c → Prs lo P1 P2 s.heap Ts →
    (∀ h' tk Ts' c', (∀ b o, b < lo → b ≠ z → b ≠ TO → b ≠ i1 → b ≠ i2 → b ≠ S → s.heap.get? b = some o → h'.get? b = some o) → IsLstO h' S Ts' c' → Prs lo P1 P2 h' Ts' → Ts'.length = n → R (.ok (.ret res)) { s with heap := h', toks := tk }) →
    codeAny (model prog w) A (.builtin "list.extend.loop" ⟨[.ref S, .ref z, res], []⟩) R s := by
  intro k
  induction k with
  | zero =>
    intro i s Ts c T f hk hi hlen hlo hz hT hTlo hTI st1 st2 hS hp hR
    have hin : i = n := by omega
    subst hin
    obtain ⟨oT, hT⟩ := hT
    refine codeAny_builtin F.entry_extend_loop ?_
    rw [Around.under_plainId F.plain_extend_loop _]
    show wpAny _ A.in1 (pyNext (.ref z) >>= _) _ _ s
    refine wpAny_bind (pyNext_zipH_end Sp D1 hz hT hTI st1 fun h' tk hkp => ?_)
    refine wpAny_pure (hR h' tk Ts c (fun b o _ b1 _ b3 _ _ e => hkp b o b1 b3 e) (hkp _ _ L.Sz L.Si1 hS) ?_ hlen)
    have hk2 : ∀ c o, lo ≤ c → s.heap.get? c = some o → h'.get? c = some o := fun c o hc e => hkp c o (fun q => absurd (q ▸ hc) (Nat.not_le.mpr L.lz)) (fun q => absurd (q ▸ hc) (Nat.not_le.mpr L.l1)) e
    refine ⟨fun t ht => ⟨(hp.lt t ht).1, ?_⟩, hp.asc, fun j U e => ?_⟩
    · obtain ⟨j, hj⟩ := List.getElem?_of_mem ht
      obtain ⟨x1, x2, a, _, _⟩ := hp.at_ j t hj
      exact Heap.lt_size (hk2 _ _ (hp.lt t ht).1 a)
    · obtain ⟨x1, x2, a, b, d⟩ := hp.at_ j U e
      exact ⟨x1, x2, hk2 _ _ (hp.lt U (List.mem_of_getElem? e)).1 a, b, d⟩
  | succ k ih =>
    intro i s Ts c T f hk hi hlen hlo hz hT hTlo hTI st1 st2 hS hp hR
    have hlt : i < n := by omega
    obtain ⟨oT, hT⟩ := hT
    refine codeAny_builtin F.entry_extend_loop ?_
    rw [Around.under_plainId F.plain_extend_loop _]
    show wpAny _ A.in1 (pyNext (.ref z) >>= _) _ _ s
    refine wpAny_bind (pyNext_zipH_item Sp D1 D2 hz hT hTI st1 st2 hlt hlt fun x1 x2 h' tk y1 y2 hz' d1 d2 hN hsz hkp => ?_)
    have hS' : IsLstO h' S Ts c := hkp _ _ L.Sz L.Si1 L.Si2 hS
    have hk2 : ∀ c o, lo ≤ c → s.heap.get? c = some o → h'.get? c = some o := fun c o hc e => hkp c o (fun q => absurd (q ▸ hc) (Nat.not_le.mpr L.lz)) (fun q => absurd (q ▸ hc) (Nat.not_le.mpr L.l1)) (fun q => absurd (q ▸ hc) (Nat.not_le.mpr L.l2)) e
    have hp' := hp.snoc hlo hsz hk2 hN (by rw [hlen]; exact y1) (by rw [hlen]; exact y2)
    show wpAny _ A.in1 (updateSeq S (·.push (.ref s.heap.objs.size)) >>= _) _ _ _
    refine wpAny_bind ?_
    have oth : ∀ b o, b ≠ S → h'.get? b = some o → (h'.update S (Obj.mapSeq (·.push (.ref s.heap.objs.size)))).get? b = some o := fun b o hb e => (Heap.get?_update_other _ _ (Ne.symm hb)).trans e
    have loS : ∀ c, lo ≤ c → c ≠ S := fun c hc q => absurd (q ▸ hc) (Nat.not_le.mpr L.lS)
    have hup := Heap.get?_update_self (Obj.mapSeq (·.push (Value.ref s.heap.objs.size))) hS' rfl
    obtain ⟨c2, hS2⟩ : ∃ c2, IsLstO (h'.update S (Obj.mapSeq (·.push (Value.ref s.heap.objs.size)))) S (Ts ++ [s.heap.objs.size]) c2 := ⟨_, by
      rw [IsLstO, hup, ← push_list]
      rfl⟩
    refine wpAny_updateSeq (s := { s with heap := h', toks := tk }) hS' rfl (wpAny_pure ⟨plainId_quiet F.plain_extend_loop _, ih (i + 1) _ (Ts ++ [s.heap.objs.size]) c2 T true (by omega) hlt (by simp [hlen]) ?_ (oth _ _ (Ne.symm L.Sz) hz') ⟨oT, oth _ _ (loS T hTlo) (hk2 _ _ hTlo hT)⟩ hTlo
      (oth _ _ (Ne.symm L.STI) (hkp _ _ Sp.TIz Sp.TIi1 Sp.TIi2 hTI)) (D1.frame _ _ _ d1 fun b hb o e => oth b o (fun q => L.S1 (q ▸ hb)) e) (D2.frame _ _ _ d2 fun b hb o e => oth b o (fun q => L.S2 (q ▸ hb)) e) hS2 ?_ fun h'' tk' Ts' c' hkk hS'' hp'' hl'' => ?_⟩) ?_ ?_
    · show lo ≤ (h'.update S _).objs.size
      rw [(Heap.SameBut.update (h := h') (a := S) _).1, hsz]
      omega
    · exact hp'.kept (by rw [(Heap.SameBut.update (h := h') (a := S) _).1]; exact Nat.le_refl _) fun c o hc e => oth c o (loS c hc) e
    · exact hR h'' tk' Ts' c' (fun b o b0 b1 b2 b3 b4 b5 e => hkk b o b0 b1 b2 b3 b4 b5 (oth b o b5 (hkp b o b1 b3 b4 e))) hS'' hp'' hl''
    · simp [hlen]; omega
    · simp [hlen]; omega
theorem zip_loop (Sp : ZipSep2 z TI TO i1 i2 fp1 fp2) (D1 : Draws prog w A.in1.in1 i1 fp1 n P1 St1) (D2 : Draws prog w A.in1.in1 i2 fp2 n P2 St2) (hn : n ≤ sizeLine) {S : Addr} {lo : Nat} (L : Low z TI TO i1 i2 S fp1 fp2 lo) (res : Value)
    {s : Shared} {c : Nat} {a1 a2 : Value} (hlo : lo ≤ s.heap.objs.size) (hz : IsZip s.heap z TI TO .none) (hTI : IsTupOf2 s.heap TI (.ref i1) (.ref i2)) (hTO : IsTupOf2 s.heap TO a1 a2) (st1 : St1 0 s.heap) (st2 : St2 0 s.heap) (hS : IsLstO s.heap S [] c)
    (hR : ∀ h' tk Ts' c', (∀ b o, b < lo → b ≠ z → b ≠ TO → b ≠ i1 → b ≠ i2 → b ≠ S → s.heap.get? b = some o → h'.get? b = some o) → IsLstO h' S Ts' c' → Prs lo P1 P2 h' Ts' → Ts'.length = n → R (.ok (.ret res)) { s with heap := h', toks := tk }) :
    codeAny (model prog w) A (.builtin "list.extend.loop" ⟨[.ref S, .ref z, res], []⟩) R s := by
  have p0 : ∀ h : Heap, Prs lo P1 P2 h [] := fun h => ⟨fun t ht => (by simp at ht), by simp, fun j T e => (by simp at e)⟩
  cases hn0 : n with
  | zero =>
    rw [hn0] at D1 D2
    refine codeAny_builtin F.entry_extend_loop ?_
    rw [Around.under_plainId F.plain_extend_loop _]
    show wpAny _ A.in1 (pyNext (.ref z) >>= _) _ _ s
    refine wpAny_bind (wpAny_pyNext_zipD2_end Sp D1 D2 hz hTI hTO st1 st2 (Nat.le_refl _) (Nat.le_refl _) (.inl rfl) fun h' tk hkp => ?_)
    exact wpAny_pure (hR h' tk [] c (fun b o _ b1 b2 b3 b4 _ e => hkp b o b1 b2 b3 b4 e) (hkp _ _ L.Sz L.STO L.Si1 L.Si2 hS) (p0 _) hn0.symm)
  | succ m =>
    have hlt : 0 < n := by omega
    refine codeAny_builtin F.entry_extend_loop ?_
    rw [Around.under_plainId F.plain_extend_loop _]
    show wpAny _ A.in1 (pyNext (.ref z) >>= _) _ _ s
    refine wpAny_bind (wpAny_pyNext_zipD2_item Sp D1 D2 hz hTI hTO st1 st2 hlt hlt fun x1 x2 h' tk y1 y2 hz' hTO' d1 d2 hN hsz hkp => ?_)
    have hS' : IsLstO h' S [] c := hkp _ _ L.Sz L.STO L.Si1 L.Si2 hS
    have hk2 : ∀ c o, lo ≤ c → s.heap.get? c = some o → h'.get? c = some o := fun c o hc e => hkp c o (fun q => absurd (q ▸ hc) (Nat.not_le.mpr L.lz)) (fun q => absurd (q ▸ hc) (Nat.not_le.mpr L.lTO)) (fun q => absurd (q ▸ hc) (Nat.not_le.mpr L.l1)) (fun q => absurd (q ▸ hc) (Nat.not_le.mpr L.l2)) e
    have hp' := (p0 s.heap).snoc hlo hsz hk2 hN y1 y2
    show wpAny _ A.in1 (updateSeq S (·.push (.ref s.heap.objs.size)) >>= _) _ _ _
    refine wpAny_bind ?_
    have oth : ∀ b o, b ≠ S → h'.get? b = some o → (h'.update S (Obj.mapSeq (·.push (.ref s.heap.objs.size)))).get? b = some o := fun b o hb e => (Heap.get?_update_other _ _ (Ne.symm hb)).trans e
    have loS : ∀ c, lo ≤ c → c ≠ S := fun c hc q => absurd (q ▸ hc) (Nat.not_le.mpr L.lS)
    have hup := Heap.get?_update_self (Obj.mapSeq (·.push (Value.ref s.heap.objs.size))) hS' rfl
    obtain ⟨c2, hS2⟩ : ∃ c2, IsLstO (h'.update S (Obj.mapSeq (·.push (Value.ref s.heap.objs.size)))) S ([] ++ [s.heap.objs.size]) c2 := ⟨_, by
      rw [IsLstO, hup, ← push_list]
      rfl⟩
    refine wpAny_updateSeq (s := { s with heap := h', toks := tk }) hS' rfl (wpAny_pure ⟨plainId_quiet F.plain_extend_loop _, zip_loop_held Sp D1 D2 hn L res (n - 1) 1 _ ([] ++ [s.heap.objs.size]) c2 s.heap.objs.size false rfl hlt rfl ?_ (oth _ _ (Ne.symm L.Sz) hz') ⟨_, oth _ _ (loS _ hlo) hN⟩ hlo
      (oth _ _ (Ne.symm L.STI) (hkp _ _ Sp.TIz Sp.TITO Sp.TIi1 Sp.TIi2 hTI)) (D1.frame _ _ _ d1 fun b hb o e => oth b o (fun q => L.S1 (q ▸ hb)) e) (D2.frame _ _ _ d2 fun b hb o e => oth b o (fun q => L.S2 (q ▸ hb)) e) hS2 ?_ fun h'' tk' Ts' c' hkk hS'' hp'' hl'' => ?_⟩) ?_ ?_
    · show lo ≤ (h'.update S _).objs.size
      rw [(Heap.SameBut.update (h := h') (a := S) _).1, hsz]
      omega
    · exact hp'.kept (by rw [(Heap.SameBut.update (h := h') (a := S) _).1]; exact Nat.le_refl _) fun c o hc e => oth c o (loS c hc) e
    · exact hR h'' tk' Ts' c' (fun b o b0 b1 b2 b3 b4 b5 e => hkk b o b0 b1 b2 b3 b4 b5 (oth b o b5 (hkp b o b1 b2 b3 b4 e))) hS'' hp'' hl''
    · simp
    · simp
theorem zip_no_len : typeLookup (.type "zip") "__len__" = pure none := am_miss_of_fast (by decide +kernel)
theorem zip_no_hint : typeLookup (.type "zip") "__length_hint__" = pure none := am_miss_of_fast (by decide +kernel)
theorem list_extend_zip (Sp : ZipSep2 z TI TO i1 i2 fp1 fp2) (D1 : Draws prog w A.in1.in1 i1 fp1 n P1 St1) (D2 : Draws prog w A.in1.in1 i2 fp2 n P2 St2) (hn : n ≤ sizeLine) {S : Addr} {lo : Nat} (L : Low z TI TO i1 i2 S fp1 fp2 lo) (res : Value)
    {s : Shared} {c : Nat} {a1 a2 : Value} (hlo : lo ≤ s.heap.objs.size) (hz : IsZip s.heap z TI TO .none) (hTI : IsTupOf2 s.heap TI (.ref i1) (.ref i2)) (hTO : IsTupOf2 s.heap TO a1 a2) (st1 : St1 0 s.heap) (st2 : St2 0 s.heap) (hS : IsLstO s.heap S [] c)
    (hR : ∀ h' tk Ts' c', (∀ b o, b < lo → b ≠ z → b ≠ TO → b ≠ i1 → b ≠ i2 → b ≠ S → s.heap.get? b = some o → h'.get? b = some o) → IsLstO h' S Ts' c' → Prs lo P1 P2 h' Ts' → Ts'.length = n → R (.ok (.ret res)) { s with heap := h', toks := tk }) :
    wpAny (model prog w) A.in1 (Builtin.List.listExtendWith (.ref S) (.ref z) res)
      (fun fin s' => match fin with | .done f => R (.ok f) s' | .again c' => c'.quiet = true ∧ codeAny (model prog w) A c' R s') (fun e s' => R (.error e) s') s := by
  have hTy : s.TypeIs (.ref z) "zip" := ⟨_, hz, rfl⟩
  unfold Builtin.List.listExtendWith
  refine wpAny_bind (wpAny_typeOf hTy ?_)
  have h1 : Builtin.List.listSameRef (.ref S) (.ref z) = false := by simp [Builtin.List.listSameRef, L.Sz]
  have h2 : (Value.type "zip" == Value.type "list") = false := by decide
  have h3 : (Value.type "zip" == Value.type "tuple") = false := by decide
  simp only [h1, h2, h3, Bool.or_false, Bool.false_eq_true, if_false]
  refine wpAny_bind (wpAny_pyIter_zip hz ?_)
  refine wpAny_bind (wpAny_holding ?_)
  unfold Builtin.List.listLengthHint
  refine wpAny_bind (wpAny_specialOf hTy zip_no_len ?_)
  show wpAny _ A.in1 (specialOf (Value.ref z) (Str.ofString "__length_hint__") >>= _) _ _ _
  refine wpAny_bind (wpAny_specialOf hTy zip_no_hint ?_)
  refine wpAny_pure ?_
  show wpAny _ A.in1 (rule "list.extend.makes-room" >>= fun _ => Builtin.List.listTouch (.ref S) >>= fun _ =>
    again (.builtin "list.extend.loop" ⟨[.ref S, .ref z, res], []⟩)) _ _ _
  refine wpAny_bind (wpAny_rule ?_)
  refine wpAny_bind ?_
  show wpAny _ A.in1 (updateSeq S (·.push .none) >>= fun _ => updateSeq S (·.pop)) _ _ _
  refine wpAny_bind (wpAny_updateSeq hS rfl ?_)
  have hS₂ := Heap.get?_update_self (Obj.mapSeq (·.push Value.none)) hS rfl
  refine wpAny_updateSeq (hz := by seq_fits) hS₂ rfl ?_
  have hS₃ := Heap.get?_update_self (Obj.mapSeq (·.pop)) hS₂ rfl
  have oth : ∀ b o, b ≠ S → s.heap.get? b = some o → ((s.heap.update S (Obj.mapSeq (·.push Value.none))).update S (Obj.mapSeq (·.pop))).get? b = some o :=
    fun b o hb e => (Heap.get?_update_other _ _ (Ne.symm hb)).trans ((Heap.get?_update_other _ _ (Ne.symm hb)).trans e)
  refine wpAny_pure ⟨plainId_quiet F.plain_extend_loop _, zip_loop (c := _) Sp D1 D2 hn L res ?_ (oth _ _ (Ne.symm L.Sz) hz) (oth _ _ (Ne.symm L.STI) hTI) (oth _ _ (Ne.symm L.STO) hTO) (D1.frame _ _ _ st1 fun b hb o e => oth b o (fun q => L.S1 (q ▸ hb)) e) (D2.frame _ _ _ st2 fun b hb o e => oth b o (fun q => L.S2 (q ▸ hb)) e) hS₃
    fun h' tk Ts' c' hk hS' hp hl => ?_⟩
  · show lo ≤ ((s.heap.update S _).update S _).objs.size
    rw [(Heap.SameBut.update (h := s.heap.update S _) (a := S) _).1, (Heap.SameBut.update (h := s.heap) (a := S) _).1]
    exact hlo
  · exact hR h' tk Ts' c' (fun b o b0 b1 b2 b3 b4 b5 e => hk b o b0 b1 b2 b3 b4 b5 (oth b o b5 e)) hS' hp hl
theorem list_init_zip (Sp : ZipSep2 z TI TO i1 i2 fp1 fp2) (D1 : Draws prog w A.in1.in1 i1 fp1 n P1 St1) (D2 : Draws prog w A.in1.in1 i2 fp2 n P2 St2) (hn : n ≤ sizeLine) {S : Addr} {lo : Nat} (L : Low z TI TO i1 i2 S fp1 fp2 lo)
    {s : Shared} {a1 a2 : Value} (hlo : lo ≤ s.heap.objs.size) (hz : IsZip s.heap z TI TO .none) (hTI : IsTupOf2 s.heap TI (.ref i1) (.ref i2)) (hTO : IsTupOf2 s.heap TO a1 a2) (st1 : St1 0 s.heap) (st2 : St2 0 s.heap)
    (hS : s.heap.get? S = some { cls := .type "list", data := .seq #[] })
    (hR : ∀ h' tk Ts' c', (∀ b o, b < lo → b ≠ z → b ≠ TO → b ≠ i1 → b ≠ i2 → b ≠ S → s.heap.get? b = some o → h'.get? b = some o) → IsLstO h' S Ts' c' → Prs lo P1 P2 h' Ts' → Ts'.length = n → R (.ok (.ret .none)) { s with heap := h', toks := tk }) :
    wpAny (model prog w) A.in1 (Builtin.«list.__init__» ⟨[.ref S, .ref z], []⟩)
      (fun fin s' => match fin with | .done f => R (.ok f) s' | .again c' => c'.quiet = true ∧ codeAny (model prog w) A c' R s') (fun e s' => R (.error e) s') s := by
  show wpAny _ A.in1 (do let old ← Builtin.List.listItems (.ref S); Builtin.List.listUpdate (.ref S) (fun _ => #[]); letGo old.toList.reverse; Builtin.List.listExtendWith (.ref S) (.ref z) .none) _ _ s
  refine wpAny_bind ?_
  unfold Builtin.List.listItems
  refine wpAny_bind (wpAny_seqItems hS rfl (wpAny_pure ?_))
  show wpAny _ A.in1 (updateSeq S (fun _ => #[]) >>= fun _ => letGo (#[] : Array Value).toList.reverse >>= fun _ => Builtin.List.listExtendWith (.ref S) (.ref z) .none) _ _ s
  refine wpAny_bind (wpAny_updateSeq hS rfl ?_)
  have hS₂ := Heap.get?_update_self (Obj.mapSeq (fun _ => (#[] : Array Value))) hS rfl
  have oth : ∀ b o, b ≠ S → s.heap.get? b = some o → (s.heap.update S (Obj.mapSeq (fun _ => (#[] : Array Value)))).get? b = some o :=
    fun b o hb e => (Heap.get?_update_other _ _ (Ne.symm hb)).trans e
  refine wpAny_bind (wpAny_letGo ?_)
  refine list_extend_zip (c := _) Sp D1 D2 hn L .none ?_ (oth _ _ (Ne.symm L.Sz) hz) (oth _ _ (Ne.symm L.STI) hTI) (oth _ _ (Ne.symm L.STO) hTO) (D1.frame _ _ _ st1 fun b hb o e => oth b o (fun q => L.S1 (q ▸ hb)) e) (D2.frame _ _ _ st2 fun b hb o e => oth b o (fun q => L.S2 (q ▸ hb)) e) hS₂ fun h' tk Ts' c' hk hS' hp hl => ?_
  · show lo ≤ (s.heap.update S _).objs.size
    rw [(Heap.SameBut.update (h := s.heap) (a := S) _).1]
    exact hlo
  · exact hR h' tk Ts' c' (fun b o b0 b1 b2 b3 b4 b5 e => hk b o b0 b1 b2 b3 b4 b5 (oth b o b5 e)) hS' hp hl
end
section
variable {prog : Program} {w : World} {A : Around} {E : Value → Shared → Prop} {z TI TO i1 i2 : Addr} {fp1 fp2 : List Addr} {n : Nat} {P1 P2 : Nat → Value → Prop} {St1 St2 : Nat → Heap → Prop}
/-- list(z) of a zip that nothing was taken from -/
theorem call_list_zip {Q : Value → Shared → Prop} (Sp : ZipSep2 z TI TO i1 i2 fp1 fp2) (D1 : Draws prog w A.in1.in1.in1 i1 fp1 n P1 St1) (D2 : Draws prog w A.in1.in1.in1 i2 fp2 n P2 St2) (hn : n ≤ sizeLine) {s : Shared} {a1 a2 : Value}
    (hf1 : ∀ b ∈ fp1, b < s.heap.objs.size) (hf2 : ∀ b ∈ fp2, b < s.heap.objs.size)
    (hz : IsZip s.heap z TI TO .none) (hTI : IsTupOf2 s.heap TI (.ref i1) (.ref i2)) (hTO : IsTupOf2 s.heap TO a1 a2) (st1 : St1 0 s.heap) (st2 : St2 0 s.heap)
    (hQ : ∀ h' tk Ts c, (∀ b o, b ≠ z → b ≠ TO → b ≠ i1 → b ≠ i2 → s.heap.get? b = some o → h'.get? b = some o) → IsLstO h' s.heap.objs.size Ts c → Prs (s.heap.objs.size + 1) P1 P2 h' Ts → Ts.length = n → Q (.ref s.heap.objs.size) { s with heap := h', toks := tk }) :
    wpAny (model prog w) A (call (.type "list") [.ref z]) Q E s := by
  have lt : ∀ {c o}, s.heap.get? c = some o → c < s.heap.objs.size := fun e => Heap.lt_size e
  have ne : ∀ {c : Addr}, c < s.heap.objs.size → s.heap.objs.size ≠ c := fun h => Nat.ne_of_gt h
  have b1 : i1 < s.heap.objs.size := hf1 _ Sp.mem1
  have b2 : i2 < s.heap.objs.size := hf2 _ Sp.mem2
  have L : Low z TI TO i1 i2 s.heap.objs.size fp1 fp2 (s.heap.objs.size + 1) :=
    ⟨Nat.lt_succ_of_lt (lt hz), Nat.lt_succ_of_lt (lt hTI), Nat.lt_succ_of_lt (lt hTO), Nat.lt_succ_of_lt b1, Nat.lt_succ_of_lt b2, Nat.lt_succ_self _, ne (lt hz), ne (lt hTI), ne (lt hTO), ne b1, ne b2, fun q => Nat.lt_irrefl _ (hf1 _ q), fun q => Nat.lt_irrefl _ (hf2 _ q)⟩
  refine callType_codes (Q₁ := fun obj s₁ => obj = .ref s.heap.objs.size ∧ s₁ = { s with heap := s.heap.push { cls := .type "list", data := .seq #[] } }) F.called_list (F.typeCall_list_1 _) F.entry_list_init
    (code_list_new _ ⟨rfl, rfl⟩) fun obj s₁ h₁ => ?_
  obtain ⟨rfl, rfl⟩ := h₁
  have hS : (s.heap.push { cls := .type "list", data := .seq #[] }).get? s.heap.objs.size = some { cls := .type "list", data := .seq #[] } := Heap.get?_push_size _ rfl
  have up : ∀ b o, s.heap.get? b = some o → (s.heap.push { cls := .type "list", data := .seq #[] }).get? b = some o := fun b o e => Heap.get?_push_of_some _ e
  refine ⟨⟨_, hS, rfl⟩, F.args_list_init_2 _ _, list_init_zip Sp D1 D2 hn L ?_ (up _ _ hz) (up _ _ hTI) (up _ _ hTO) (D1.frame _ _ _ st1 fun b _ o e => up b o e) (D2.frame _ _ _ st2 fun b _ o e => up b o e) hS fun h' tk Ts' c' hk hS' hp hl => ?_⟩
  · show _ ≤ (s.heap.push _).objs.size
    rw [Heap.size_push]
    exact Nat.le_refl _
  · exact ⟨rfl, hQ h' tk Ts' c' (fun b o b1 b2 b3 b4 e => hk b o (Nat.lt_succ_of_lt (lt e)) b1 b2 b3 b4 (fun q => Nat.lt_irrefl _ (q ▸ lt e)) (up b o e)) hS' hp hl⟩
end
end PI

set_option Elab.async false
set_option linter.all false
set_option autoImplicit false
set_option maxRecDepth 100000
set_option maxHeartbeats 4000000
/-! list(zip(x, y)) of two tuples -/
namespace PI
open PySem PySem.Spec PyProof.Rows L2
/-- pairs tracked -/
def addP (H : Hp) : List (Addr × V × V) → Hp
  | [] => H
  | p :: L => upd (addP H L) p.1 (.tup [p.2.1, p.2.2])
theorem addP_none {H : Hp} {b : Addr} : ∀ {L : List (Addr × V × V)}, (∀ p ∈ L, p.1 ≠ b) → addP H L b = H b
  | [], _ => rfl
  | p :: L, h => by
    rw [addP, upd_ne (Ne.symm (h p (by simp)))]
    exact addP_none fun q hq => h q (List.mem_cons_of_mem _ hq)
theorem addP_some {H : Hp} {b : Addr} {u : HO} : ∀ {L : List (Addr × V × V)}, addP H L b = some u → (∃ p ∈ L, p.1 = b ∧ u = .tup [p.2.1, p.2.2]) ∨ H b = some u
  | [], h => .inr h
  | p :: L, h => by
    rw [addP] at h
    by_cases e : b = p.1
    · rw [e, upd_same] at h
      exact .inl ⟨p, by simp, e.symm, (Option.some.inj h).symm⟩
    · rw [upd_ne e] at h
      rcases addP_some h with ⟨q, hq, e1, e2⟩ | h
      · exact .inl ⟨q, List.mem_cons_of_mem _ hq, e1, e2⟩
      · exact .inr h
theorem Inv.laidAll {X : Cx} {pins : List (Addr × Obj)} {σ : L2.St} {H H' : Hp} {s : Shared} {h' : Heap} {t' : Nat} (I : Inv X pins σ H s) (k : ∀ b u, s.heap.get? b = some u → h'.get? b = some u) (low : ∀ b, b < s.heap.objs.size → H' b = H b) (up : ∀ b u, H b = some u → H' b = some u)
    (hok : HOk X.prog X.w H' h') : Inv X pins σ H' { s with heap := h', toks := t' } :=
  I.un ⟨fun b o e _ _ _ => k b o e, fun b o e _ _ _ => ⟨o.slots, k b o e⟩, fun b o e n _ => (low b (Heap.lt_size e)).trans n, fun b o e _ => ⟨o, k b o e⟩, fun b xs e => up _ _ e, fun b o u e => up _ _ e, fun b ps e => ⟨#[], by rw [up _ _ e]; simp⟩⟩ hok
def rLz (K : PySem.W.Frag) : List V → Hp → VK → Prop := fun vs H Q => ∃ (a b : Addr) (xs ys : List V), vs = [.ref a, .ref b] ∧ SqT K H a xs ∧ SqT K H b ys ∧ xs.length = ys.length ∧
  ∀ (L : List (Addr × V × V)) (q : Addr), (L.map (·.1)).Nodup → L.map (·.2) = xs.zip ys → (∀ p ∈ L, H p.1 = none) → H q = none → (∀ p ∈ L, p.1 ≠ q) → Q (.ref q) (upd (addP H L) q (.lst (L.map fun p => V.ref p.1)))
theorem zip_get {Ts : List Addr} {ps : List (V × V)} {p : Addr × V × V} (h : p ∈ Ts.zip ps) : ∃ j : Nat, Ts[j]? = some p.1 ∧ ps[j]? = some p.2 := by
  obtain ⟨j, hj⟩ := List.getElem?_of_mem h
  rw [List.getElem?_zip_eq_some] at hj
  exact ⟨j, hj⟩
theorem vals_refs : ∀ Ts : List Addr, Vals (Ts.map V.ref) (Ts.map Value.ref)
  | [] => .nil
  | t :: Ts => .cons rfl (vals_refs Ts)
section
variable {X : Cx}
theorem pe_lstZ {x : Expr} {es : List Expr} {ta : TA} {p p2 q2 pos : Pos} (hc : X.calm = true) (hg : Gl X "list") (hm : X.mg "list" = none) (hg2 : Gl X "zip") (hm2 : X.mg "zip" = none) (ha : PA X (x :: es) ta)
    (hs : starEach (x :: es) X.env = (false, eval x X.env) :: starEach es X.env) (hpl : (backTo q2 (starEach es X.env)).any (·.1) = false) :
    PE X (.Call (.Name "list" p) [.Call (.Name "zip" p2) (x :: es) [] q2] [] pos) (tCB (rLz X.K) ta) := by
  have na : starEach [.Call (.Name "zip" p2) (x :: es) [] q2] X.env = (false, eval (.Call (.Name "zip" p2) (x :: es) [] q2) X.env) :: starEach [] X.env := rfl
  refine ⟨fun pins s σ H Q I h => ?_⟩
  have inner : wpAny (model X.prog X.w) X.A (eval (.Call (.Name "zip" p2) (x :: es) [] q2) X.env) (fun v s' => ∃ (s1 : Shared) (H1 : Hp) (a b : Addr) (xs ys : List V) (h1 : Heap), Inv X pins σ H1 s1 ∧ s' = { s1 with heap := h1 } ∧ v = .ref (s1.heap.objs.size + 4) ∧ SqT X.K H1 a xs ∧ SqT X.K H1 b ys ∧ xs.length = ys.length ∧
      (∀ (L : List (Addr × V × V)) (q : Addr), (L.map (·.1)).Nodup → L.map (·.2) = xs.zip ys → (∀ p ∈ L, H1 p.1 = none) → H1 q = none → (∀ p ∈ L, p.1 ≠ q) → Q (.ref q) (upd (addP H1 L) q (.lst (L.map fun p => V.ref p.1)))) ∧
      IsZip h1 (s1.heap.objs.size + 4) (s1.heap.objs.size + 2) (s1.heap.objs.size + 3) .none ∧ IsTupOf2 h1 (s1.heap.objs.size + 2) (.ref s1.heap.objs.size) (.ref (s1.heap.objs.size + 1)) ∧ IsTupOf2 h1 (s1.heap.objs.size + 3) .none .none ∧
      h1.IsTupleIter s1.heap.objs.size a 0 ∧ h1.IsTupleIter (s1.heap.objs.size + 1) b 0 ∧ h1.objs.size = s1.heap.objs.size + 5 ∧ (∀ c o, s1.heap.get? c = some o → h1.get? c = some o)) X.xe s := by
    refine Call_ (ld_blt I hg2 hm2 PyProof.Rows.boot_zip (PyProof.Rows.callWith_type1 (thn (ha.run q2 pins s σ H _ I h) fun us s1 ⟨vs, H1, I1, r1, q1⟩ => ?_) hs hpl))
    obtain ⟨a, b, xs, ys, rfl, sx, sy, hl, q⟩ := q1
    obtain ⟨u1, u2, rfl, ru1, ru2⟩ := r1.two
    cases (show u1 = Value.ref a from ru1)
    cases (show u2 = Value.ref b from ru2)
    obtain ⟨its1, rv1, pl1, _⟩ := I1.tuple sx
    obtain ⟨its2, rv2, pl2, _⟩ := I1.tuple sy
    exact zip_begins2 (begins_tuple a its1.toArray) (begins_tuple b its2.toArray) pl1 pl2 fun h1 hz hTI hTO g1 g2 hsz hk => ⟨s1, H1, a, b, xs, ys, h1, I1, rfl, rfl, sx, sy, hl, q, hz, hTI, hTO, ⟨_, g1, rfl, rfl⟩, ⟨_, g2, rfl, rfl⟩, hsz, hk⟩
  refine Call_ (ld_blt I hg hm boot_list (PyProof.Rows.callWith_type1 (args_cons (thn inner fun v s' ⟨s1, H1, a, b, xs, ys, h1, I1, es, ev, sx, sy, hl, q, hz, hTI, hTO, t1, t2, hsz, hk⟩ => args_nil ?_) na) na))
  subst es ev
  obtain ⟨its1, rv1, pl1, hz1⟩ := I1.tuple sx
  obtain ⟨its2, rv2, pl2, hz2⟩ := I1.tuple sy
  have alt : a < s1.heap.objs.size := by obtain ⟨o, ho, _⟩ := pl1; exact Heap.lt_size ho
  have blt : b < s1.heap.objs.size := by obtain ⟨o, ho, _⟩ := pl2; exact Heap.lt_size ho
  have e1 : its1.toArray.size = xs.length := by rw [rv1.length]; simp
  have e2 : its2.toArray.size = xs.length := by rw [hl, rv2.length]; simp
  have pk1 : h1.IsTuple a its1.toArray := let ⟨o, ho, r⟩ := pl1; ⟨o, hk _ _ ho, r⟩
  have pk2 : h1.IsTuple b its2.toArray := let ⟨o, ho, r⟩ := pl2; ⟨o, hk _ _ ho, r⟩
  have hh : X.A.in1.in1.in1.handled = none := by simpa using I1.ok.hd hc
  have ne : ∀ {x y : Nat}, x ≠ y → s1.heap.objs.size + x ≠ s1.heap.objs.size + y := fun h z => h (Nat.add_left_cancel z)
  have na' : ∀ k, a ≠ s1.heap.objs.size + k := fun k z => by rw [z] at alt; exact absurd alt (Nat.not_lt.mpr (Nat.le_add_right _ _))
  have nb' : ∀ k, b ≠ s1.heap.objs.size + k := fun k z => by rw [z] at blt; exact absurd blt (Nat.not_lt.mpr (Nat.le_add_right _ _))
  have D1 := Draws.tuple (prog := X.prog) (w := X.w) hh s1.heap.objs.size a (na' 0) its1.toArray
  have D2 := Draws.tuple (prog := X.prog) (w := X.w) hh (s1.heap.objs.size + 1) b (nb' 1) its2.toArray
  rw [e1] at D1
  rw [e2] at D2
  have Sp : ZipSep2 (s1.heap.objs.size + 4) (s1.heap.objs.size + 2) (s1.heap.objs.size + 3) s1.heap.objs.size (s1.heap.objs.size + 1) [s1.heap.objs.size, a] [s1.heap.objs.size + 1, b] := by
    refine ⟨ne (by decide), ne (by decide), ne (by decide), ne (x := 2) (y := 0) (by decide), List.mem_cons_self, ?_, ?_, ne (by decide), List.mem_cons_self, ?_, ?_, ?_, ?_⟩
    · exact fun z => (List.mem_cons.mp z).elim (ne (x := 4) (y := 0) (by decide)) fun z => na' 4 (List.mem_singleton.mp z).symm
    · exact fun z => (List.mem_cons.mp z).elim (ne (x := 3) (y := 0) (by decide)) fun z => na' 3 (List.mem_singleton.mp z).symm
    · exact fun z => (List.mem_cons.mp z).elim (ne (by decide)) fun z => nb' 4 (List.mem_singleton.mp z).symm
    · exact fun z => (List.mem_cons.mp z).elim (ne (by decide)) fun z => nb' 3 (List.mem_singleton.mp z).symm
    · exact fun z => (List.mem_cons.mp z).elim (ne (x := 0) (y := 1) (by decide)) fun z => nb' 0 (List.mem_singleton.mp z).symm
    · exact fun z => (List.mem_cons.mp z).elim (ne (x := 1) (y := 0) (by decide)) fun z => na' 1 (List.mem_singleton.mp z).symm
  have lt5 : ∀ k, k < 5 → s1.heap.objs.size + k < h1.objs.size := fun k hk5 => by rw [hsz]; exact Nat.add_lt_add_left hk5 _
  have hnl : xs.length ≤ sizeLine := hz1
  refine call_list_zip (s := { s1 with heap := h1 }) Sp D1 D2 hnl (fun c hcm => ?_) (fun c hcm => ?_) hz hTI hTO ⟨t1, pk1⟩ ⟨t2, pk2⟩ fun h' tk Ts c hkp hS hp hl2 => ?_
  · rcases List.mem_cons.mp hcm with rfl | z
    · exact lt5 0 (by decide)
    · rw [List.mem_singleton.mp z]
      exact Nat.lt_of_lt_of_le alt (by show _ ≤ h1.objs.size; rw [hsz]; exact Nat.le_add_right _ _)
  · rcases List.mem_cons.mp hcm with rfl | z
    · exact lt5 1 (by decide)
    · rw [List.mem_singleton.mp z]
      exact Nat.lt_of_lt_of_le blt (by show _ ≤ h1.objs.size; rw [hsz]; exact Nat.le_add_right _ _)
  have hS : IsLstO h' h1.objs.size Ts c := hS
  have hp : Prs (h1.objs.size + 1) _ _ h' Ts := hp
  have hlo : s1.heap.objs.size ≤ h1.objs.size := by rw [hsz]; exact Nat.le_add_right _ _
  have keep : ∀ b o, s1.heap.get? b = some o → h'.get? b = some o := fun c o e => by
    have hc' := Heap.lt_size e
    have nk : ∀ k, c ≠ s1.heap.objs.size + k := fun k z => by rw [z] at hc'; exact absurd hc' (Nat.not_lt.mpr (Nat.le_add_right _ _))
    exact hkp c o (nk 4) (nk 3) (nk 0) (nk 1) (hk c o e)
  let L : List (Addr × V × V) := Ts.zip (xs.zip ys)
  have hzl : (xs.zip ys).length = xs.length := by rw [List.length_zip, ← hl, Nat.min_self]
  have hm1 : L.map (·.1) = Ts := List.map_fst_zip (by rw [hzl, hl2]; exact Nat.le_refl _)
  have hm2' : L.map (·.2) = xs.zip ys := List.map_snd_zip (by rw [hzl, hl2]; exact Nat.le_refl _)
  have hmem : ∀ p ∈ L, p.1 ∈ Ts := fun p hpm => by rw [← hm1]; exact List.mem_map.mpr ⟨p, hpm, rfl⟩
  have hfr : ∀ t, s1.heap.objs.size ≤ t → H1 t = none := fun t ht => I1.hok.fresh ht
  have hTn : ∀ p ∈ L, H1 p.1 = none := fun p hpm => hfr _ (Nat.le_trans hlo (Nat.le_of_succ_le (hp.lt _ (hmem p hpm)).1))
  have hSn : H1 h1.objs.size = none := hfr _ hlo
  have hTS : ∀ p ∈ L, p.1 ≠ h1.objs.size := fun p hpm z => by
    have := (hp.lt _ (hmem p hpm)).1
    rw [z] at this
    exact absurd this (Nat.not_succ_le_self _)
  have hnd : (L.map (·.1)).Nodup := by
    rw [hm1]
    exact hp.asc.imp fun h => Nat.ne_of_lt h
  have hq := q L h1.objs.size hnd hm2' hTn hSn hTS
  have hlr : (L.map fun p => V.ref p.1) = Ts.map V.ref := by rw [← hm1, List.map_map]; rfl
  have upF : ∀ c u, H1 c = some u → upd (addP H1 L) h1.objs.size (.lst (L.map fun p => V.ref p.1)) c = some u := fun c u e => by
    rw [upd_ne (ne_of_none e hSn)]
    rw [addP_none fun p hpm z => ne_of_none e (hTn p hpm) z.symm]
    exact e
  have I3 : Inv X pins σ (upd (addP H1 L) h1.objs.size (.lst (L.map fun p => V.ref p.1))) { s1 with heap := h', toks := tk } := by
    refine Inv.laidAll (s := s1) (t' := tk) I1 keep (fun c hc' => ?_) upF (fun c u e => ?_)
    · rw [upd_ne (fun z => by rw [z] at hc'; exact absurd hlo (Nat.not_le.mpr hc'))]
      exact addP_none fun p hpm z => by
        have := Nat.le_trans hlo (Nat.le_of_succ_le (hp.lt _ (hmem p hpm)).1)
        rw [z] at this
        exact absurd this (Nat.not_le.mpr hc')
    · by_cases hcS : c = h1.objs.size
      · rw [hcS, upd_same] at e
        have e := (Option.some.inj e).symm
        subst e
        rw [hcS, hlr]
        exact ⟨by rw [List.length_map, hl2]; exact hnl, Ts.map Value.ref, _, vals_refs Ts, hS⟩
      · have e' := e
        rw [upd_ne hcS] at e'
        rcases addP_some e' with ⟨p, hpm, rfl, rfl⟩ | e0
        · obtain ⟨j, j1, j2⟩ := zip_get hpm
          obtain ⟨x1, x2, hT, y1, y2⟩ := hp.at_ j p.1 j1
          rw [List.getElem?_zip_eq_some] at j2
          obtain ⟨v1, w1, r1⟩ := rv1.get j2.1
          obtain ⟨v2, w2, r2⟩ := rv2.get j2.2
          have y1 : its1[j]? = some x1 := by simpa using y1
          have y2 : its2[j]? = some x2 := by simpa using y2
          rw [y1] at w1
          rw [y2] at w2
          cases w1
          cases w2
          exact ⟨by show 2 ≤ sizeLine; decide, [x1, x2], .cons r1 (.cons r2 .nil), ⟨_, hT, rfl, _, rfl⟩⟩
        · exact (I1.hok c u e0).stay (fun c v _ q => keep c v q) (fun c q => upF _ _ q) fun c xs q => upF _ _ q
  exact ⟨.ref h1.objs.size, _, I3, rfl, hq⟩
end
end PI

set_option Elab.async false
set_option linter.all false
set_option autoImplicit false
set_option maxRecDepth 100000
set_option maxHeartbeats 4000000
/-! sorted(..) of tuples of which the first is empty. -/
namespace PI
open PySem PySem.W PySem.Calls PyProof.Rows PySem.SeqAt
section
variable {prog : Program} {w : World} {A : Around} {E : Value → Shared → Prop} {s : Shared}
theorem tup_less {l b : Addr} {us vs : Array Value} {e r : Nat → Bool} {Q : Value → Shared → Prop} (hl : s.heap.IsTuple l us) (hb : s.heap.IsTuple b vs)
    (he : ∀ j (h1 : j < us.size) (h2 : j < vs.size), EqAt A.in1 s us[j] vs[j] (e j)) (hr : ∀ j (h1 : j < us.size) (h2 : j < vs.size), e j = false → RcLt A.in1 s us[j] vs[j] (r j))
    (h : Q (.bool (firstLt e r (decide (us.size < vs.size)) (List.range (min us.size vs.size)))) s) : wpAny (model prog w) A (call (.builtin "tuple.__lt__") [.ref l, .ref b]) Q E s := by
  obtain ⟨⟨c1, d1, t1, s1⟩, ho, hc, n, hd⟩ := id hl
  obtain ⟨⟨c2, d2, t2, s2⟩, ho2, hc2, n2, hd2⟩ := id hb
  dsimp only at hc hd hc2 hd2
  subst hc hd hc2 hd2
  exact call_meets F.slot_tuple_lt ⟨_, ho, rfl⟩ F.entry_tuple_lt (F.args_tuple_lt_2 _ _) (tuple_ltAt l b us vs n n2 d1 d2 s1 s2 e r) ⟨ho, ho2, he, hr, h⟩
theorem one_tups {xs ys : List PyData} {a b : Value} {as bs : List Addr} {Q : Bool → Shared → Prop} (ra : Reads s.heap a (.tuple xs) as) (rb : Reads s.heap b (.tuple ys) bs) (h : alike (.tuple xs) (.tuple ys) = true)
    (hu : A.units + min (PyData.tuple xs).depth (PyData.tuple ys).depth < cLine) (hq : Q (dataLt (.tuple xs) (.tuple ys)) s) : wpAny (model prog w) A (oneLt' true a b) Q E s := by
  have hal : alikeAll xs ys = true := by simpa [alike] using h
  cases ra with
  | @tuple l o us n _ as1 h1 h2 h3 h4 =>
    cases rb with
    | @tuple l2 o2 vs n2 _ bs1 k1 k2 k3 k4 =>
      have e1 : us.size = xs.length := by simpa using ReadsAll.length _ _ _ h4
      have e2 : vs.size = ys.length := by simpa using ReadsAll.length _ _ _ k4
      rw [dataLt_tuple, ← firstLt_toks xs ys hal, ← e1, ← e2] at hq
      rw [oneLt'_eq]
      simp only [if_true]
      refine wpAny_bind (wpAny_cRoomFor (room_here hu) ?_)
      refine wpAny_bind (wpAny_callSpecialIfBound?_slot (T := "tuple") ⟨_, h1, h2⟩ F.slot_tuple_lt (tup_less (e := pairEq xs ys) (r := fun j => dataLt (xs.getD j .none) (ys.getD j .none)) ⟨_, h1, h2, _, h3⟩ ⟨_, k1, k2, _, k3⟩ (fun j j1 j2 => ?_) (fun j j1 j2 hj => ?_) ?_))
      · have z1 := eqAt_alikeAll xs ys A.in1 s us.toList vs.toList _ _ h4 k4 hal (room_in hu) j (by simpa using j1) (by simpa using j2)
        simp only [Array.getElem_toList] at z1
        exact z1
      · have z1 := rcLt_alikeAll xs ys A.in1 s us.toList vs.toList _ _ h4 k4 hal (room_in hu) j (by simpa using j1) (by simpa using j2) hj
        simp only [Array.getElem_toList] at z1
        exact z1
      · exact wpAny_truthy_bool hq
theorem map_each {M : Model} {α β : Type} {f : α → Sem β} {P : α → β → Prop} : ∀ (l : List α) {Q : List β → Shared → Prop}, (∀ v ∈ l, ∃ r, P v r ∧ ∀ (Q' : β → Shared → Prop), Q' r s → wpAny M A (f v) Q' E s) → (∀ rs, EachIs P l rs → Q rs s) → wpAny M A (l.mapM f) Q E s
  | [], _, _, h => by rw [List.mapM_nil]; exact wpAny_pure (h [] .nil)
  | x :: l, Q, hf, h => by
    rw [List.mapM_cons]
    obtain ⟨r, h1, h2⟩ := hf x (List.mem_cons_self ..)
    exact wpAny_bind (h2 _ (wpAny_bind (map_each l (fun v hv => hf v (List.mem_cons_of_mem _ hv)) fun rs hrs => wpAny_pure (h (r :: rs) (.cons h1 hrs)))))
theorem sorts_tups {vs : List Value} {ds : List PyData} (e : EachIs (fun v d => ∃ as, Reads s.heap v d as) vs ds) (hal : AllAlike ds) (ht : ∀ d, d ∈ ds → ∃ xs, d = .tuple xs) (h0 : ds.head? = some (.tuple [])) (hu : ∀ d, d ∈ ds → A.units + d.depth < cLine) : SortsAt prog w A s (dataKind s.heap ds) vs := by
  refine ⟨fun v hv => ?_, oneType', ?_, fun h2 E Q hq => ?_⟩
  · obtain ⟨d, hd, as, r⟩ := e.left v hv
    exact ⟨_, dataKind_some hal hd r⟩
  · intro E x y a b Q ha hb hq
    obtain ⟨d, as, hd, ra, rfl⟩ := dataKind_inv ha
    obtain ⟨d', as', hd', rb, rfl⟩ := dataKind_inv hb
    have hdd := hal d hd d' hd'
    have hroom : A.units + min d.depth d'.depth < cLine := Nat.lt_of_le_of_lt (Nat.add_le_add_left (Nat.min_le_left _ _) _) (hu d hd)
    obtain ⟨xs, rfl⟩ := ht d hd
    obtain ⟨ys, rfl⟩ := ht d' hd'
    rw [keyLt'_oneType]
    exact one_tups ra rb hdd hroom hq
  · cases e with
    | nil => exact absurd h2 (by simp)
    | @cons v d vs ds ev er =>
      cases h0
      have er0 := er
      have key : ∀ u ∈ v :: vs, ∃ (l : Addr) (o : Obj) (us : Array Value) (n : Nat), u = .ref l ∧ s.heap.get? l = some o ∧ o.cls = .type "tuple" ∧ o.data = .seq us n ∧ (u = v → us[0]? = none) := by
        intro u hu'
        have full : EachIs (fun v d => ∃ as, Reads s.heap v d as) (v :: vs) (.tuple [] :: ds) := .cons ev er0
        obtain ⟨d, hd, as, r⟩ := full.left u hu'
        obtain ⟨xs, rfl⟩ := ht d hd
        cases r with
        | @tuple l o us n _ as1 k1 k2 k3 k4 =>
          refine ⟨l, o, us, n, rfl, k1, k2, k3, fun ez => ?_⟩
          obtain ⟨as', r'⟩ := ev
          rw [← ez] at r'
          cases r' with
          | @tuple _ o' us' n' _ _ m1 m2 m3 m4 =>
            rw [k1] at m1
            cases m1
            rw [k3] at m3
            cases m3
            have : us.size = 0 := by simpa using ReadsAll.length _ _ _ m4
            exact Array.getElem?_eq_none (by omega)
      rw [keyKind'_eq, List.mapM_toArray, map_eq_pure_bind]
      refine wpAny_bind (wpAny_bind (map_each (P := fun u (r : Option Value) => u = v → r = none) _ (fun u hu' => ?_) fun rs hrs => wpAny_pure ?_))
      · obtain ⟨l, o, us, n, rfl, k1, k2, k3, k4⟩ := key u hu'
        refine ⟨us[0]?, k4, fun Q' hq' => ?_⟩
        rw [kas_first_eq]
        refine wpAny_bind ((k2 ▸ (Looks.ld k1).andThen .now : Looks (model prog w) s.heap (typeOf (.ref l)) (.type "tuple")).here ?_)
        rw [if_neg (by decide)]
        exact wpAny_bind (listItems_at k1 k3 (wpAny_pure hq'))
      · cases hrs with
        | @cons _ r _ rs' hr hrs' =>
          have hn := hr rfl
          subst hn
          rw [if_neg (by simp), if_neg (by simp)]
          rw [oneTypeOnly'_eq, List.mapM_toArray, map_eq_pure_bind]
          refine wpAny_bind (wpAny_bind (wpAny_bind (kas_mapM (r := Value.type "tuple") _ (fun u hu' Q' hq' => ?_) (wpAny_pure ?_))))
          · obtain ⟨l, o, us, n, rfl, k1, k2, k3, k4⟩ := key u hu'
            exact (k2 ▸ (Looks.ld k1).andThen .now : Looks (model prog w) s.heap (typeOf (.ref l)) (.type "tuple")).here hq'
          · have hall : ((List.map (fun _ => Value.type "tuple") (v :: vs)).toArray.all fun x => x == Value.type "tuple") = true := by simp
            have h0' : (List.map (fun _ => Value.type "tuple") (v :: vs)).toArray[0]? = some (Value.type "tuple") := by simp
            rw [h0']
            simp only [hall, if_true]
            exact wpAny_pure (wpAny_pure hq)
/-- sorted(xs), xs tuples of which the first is empty -/
theorem sorted_tups {β : Type} {R : Value → β → Prop} {enc : β → PyData} {vs : List Value} {bs : List β} {l : Addr} {Q : Value → Shared → Prop} (hl : s.heap.IsList l vs.toArray) (e : EachIs R vs bs) (er : EachIs (fun v b => ∃ as, Reads s.heap v (enc b) as) vs bs) (hal : AllAlike (bs.map enc)) (ht : ∀ b ∈ bs, ∃ xs, enc b = .tuple xs) (h0 : (bs.map enc).head? = some (.tuple [])) (hL : bs.length ≤ sizeLine)
    (hu : ∀ b, b ∈ bs → A.units + 2 + (enc b).depth < cLine) (h : ∀ out, out.length = bs.length → EachIs R out (bs.mergeSort (dataLe false enc)) → Q (.ref (s.heap.objs.size + 1)) { s with heap := sortedAll s.heap vs (List.toArray out) }) :
    wpAny (model prog w) A (call (.builtin "sorted") [.ref l]) Q E s := by
  have er' : EachIs (fun v b => ∃ as, Reads (sortingHeap (copyHeap s.heap vs) (s.heap.objs.size + 1) vs) v (enc b) as) vs bs := er.mono fun _ _ ⟨as, r⟩ => ⟨as, PyProof.Rows.Reads.keeps (fun _ _ => sorting_copy_old) r⟩
  refine sorted_vals hl (sorts_tups (s := { s with heap := sortingHeap (copyHeap s.heap vs) (s.heap.objs.size + 1) vs }) (each_map (R := fun v d => ∃ as, Reads (sortingHeap (copyHeap s.heap vs) (s.heap.objs.size + 1) vs) v d as) enc er') hal (fun d hd => ?_) h0 (bound_map hu)) (by rw [e.length]; exact hL) (h _ (by rw [sortVals_length false rfl]; exact e.length) (sortVals_data false e er' hal))
  obtain ⟨b, hb, rfl⟩ := List.mem_map.mp hd
  exact ht b hb
end
end PI

set_option Elab.async false
set_option linter.all false
set_option autoImplicit false
set_option maxRecDepth 100000
set_option maxHeartbeats 4000000
/-! sorted(..) of a tuple of ints. -/
namespace PI
open PySem PySem.Calls PyProof.Rows
section
variable {prog : Program} {w : World} {A : Around} {E : Value → Shared → Prop} {s : Shared}
/-- what a tuple holds, taken into a new list -/
theorem col_tup {l : Addr} {vs : List Value} {o : Obj} {m : Nat} {Q : List Value → Shared → Prop} (ho : s.heap.get? l = some o) (hc : o.cls = .type "tuple") (hd : o.data = .seq vs.toArray m) (hz : vs.length ≤ sizeLine)
    (h : ∀ h' : Heap, (∀ b u, s.heap.get? b = some u → h'.get? b = some u) → s.heap.objs.size ≤ h'.objs.size → Q vs { s with heap := h' }) : wpAny (model prog w) A (collect (.ref l)) Q E s := by
  have new0 : (s.heap.push (seqObj "list" #[] 0)).get? s.heap.objs.size = some (seqObj "list" #[] 0) := Heap.get?_push_size _ rfl
  have hol := Heap.get?_push_of_some (seqObj "list" #[] 0) ho
  have hne : ∀ {b u}, s.heap.get? b = some u → b ≠ s.heap.objs.size := fun e z => Nat.lt_irrefl _ (z ▸ Heap.lt_size e)
  have old : ∀ b u, s.heap.get? b = some u → ((s.heap.push (seqObj "list" #[] 0)).update s.heap.objs.size (Obj.mapSeq (· ++ vs.toArray))).get? b = some u := fun b u e => by
    rw [Heap.get?_update_ne _ _ _ _ (hne e)]
    exact Heap.get?_push_of_some _ e
  unfold collect
  refine wpAny_bind (wpAny_runValue (codeAny_builtin entry_proto_collect' (wpAny_bind (wpAny_newList (wpAny_pure ⟨Code.quiet_builtin _ (by decide +kernel), codeAny_builtin entry_list_iadd' ?_⟩)))))
  have got := get?_update_seq new0 (· ++ vs.toArray)
  generalize hH : (s.heap.push (seqObj "list" #[] 0)).update s.heap.objs.size (Obj.mapSeq (· ++ vs.toArray)) = h1 at got old
  have hz1 : s.heap.objs.size ≤ h1.objs.size := by
    rw [← hH, Heap.size_update, size_push']
    exact Nat.le_succ _
  refine wpAny_mono (wpAny_extend_seq (prog := prog) (w := w) (A := A) (s := { s with heap := s.heap.push (seqObj "list" #[] 0) }) (R := fun r s' => r = .ok (.ret (.ref s.heap.objs.size)) ∧ s' = { s with heap := h1 }) (hsz := by simpa using hz) s.heap.objs.size l (.ref s.heap.objs.size) 0 (.inr rfl) new0 hol hc hd ⟨rfl, ?_⟩) (fun fin s' z => ?_) fun e s' z => ?_
  · rw [← hH]
  · cases fin with
    | done f =>
      obtain ⟨z1, rfl⟩ := z
      cases z1
      refine wpAny_bind (wpAny_load got (wpAny_pure ?_))
      have e0 : ((#[] : Array Value) ++ vs.toArray).toList = vs := by simp
      rw [e0]
      exact h h1 old hz1
    | again c =>
      refine ⟨z.1, codeAny_mono z.2 fun r s' z => ?_⟩
      obtain ⟨rfl, rfl⟩ := z
      refine wpAny_bind (wpAny_load got (wpAny_pure ?_))
      have e0 : ((#[] : Array Value) ++ vs.toArray).toList = vs := by simp
      rw [e0]
      exact h h1 old hz1
  · cases z.1
/-- sorted(t), t a tuple of ints -/
theorem sorted_tupI {l : Addr} {vs : List Value} {ns : List Int} {o : Obj} {m : Nat} {Q : Value → Shared → Prop} (ho : s.heap.get? l = some o) (hc : o.cls = .type "tuple") (hd : o.data = .seq vs.toArray m) (hI : IntsAre vs ns) (hz : vs.length ≤ sizeLine)
    (h : ∀ (h' : Heap) (p : Addr) (out : List Value) (ns' : List Int) (c : Nat), (∀ b u, s.heap.get? b = some u → h'.get? b = some u) → s.heap.objs.size ≤ p → h'.get? p = some (seqObj "list" out.toArray c) → IntsAre out ns' → ns'.Perm ns → ns'.Pairwise (· ≤ ·) → Q (.ref p) { s with heap := h' }) :
    wpAny (model prog w) A (call (.builtin "sorted") [.ref l]) Q E s := by
  refine Calls.call_function_entry kind_sorted plain_sorted entry_sorted (args_sorted1 _) ?_
  show wpAny (model prog w) A.in1 (Builtin.«sorted» ⟨[.ref l], []⟩) _ _ s
  unfold Builtin.«sorted»
  refine wpAny_bind (m := checkCount _ 1 1 _) (wpAny_pure (wpAny_bind (col_tup ho hc hd hz fun h1 old hz1 => wpAny_bind (wpAny_newList ?_ hz))))
  have gl : (h1.push (seqObj "list" vs.toArray 0)).get? h1.objs.size = some (seqObj "list" vs.toArray 0) := Heap.get?_push_size _ rfl
  refine wpAny_bind (wpAny_holding (wpAny_call_entry slot_list_sort ⟨_, gl, rfl⟩ entry_list_sort (SrtO.list_sort_ord SrtO.swo_int gl hz (fun h2 => SrtO.ints_sortable hI h2) fun out q1 q2 => ⟨.none, rfl, wpAny_pure ⟨_, rfl, ?_⟩⟩) (args_list_sort _)))
  obtain ⟨k1, k2, k3⟩ := SrtO.ints_out hI q1 q2
  obtain ⟨c, he⟩ := sortedHeap_at (vs := vs) (out := out.toArray) gl
  refine h _ _ out (out.map SrtO.iv) c (fun b u e => ?_) hz1 he k1 k2 k3
  have hlt := Heap.lt_size (old b u e)
  have := Heap.get?_push_of_some (seqObj "list" vs.toArray 0) (old b u e)
  rw [← this]
  exact sortedHeap_old (Nat.ne_of_lt hlt) (Heap.lt_size this)
end
end PI

set_option Elab.async false
set_option linter.all false
set_option autoImplicit false
set_option maxRecDepth 100000
set_option maxHeartbeats 4000000
/-! The pure interpreter: values, syntax, what it computes. -/
namespace PI
open PySem

/-- a value: tuples and lists by value; scr: the script; ref k: the k-th shared mutable object; rcd: an instance that no longer changes -/
inductive PV where
  | non | bl (b : Bool) | int (i : Int) | str (s : Str)
  | tup (xs : List PV) | lst (xs : List PV) | scr (ns : List Int) | ref (k : Nat)
  | rcd (c : Str) (fs : List PV)
  deriving Inhabited

/-- what a name holds: a value, or a list that it alone holds -/
inductive SV where
  | val (d : PV) | own (xs : List PV)
  deriving Inhabited
/-- a shared mutable object -/
inductive SO where
  | row (xs : List PV)
  | obj (c : Str) (fs : List (Option PV))
  | aux (b : Bool)
  | ins (c : Str) (fs : List (Str × PV))
  deriving Inhabited

abbrev Loc := List (Option SV)
abbrev Sto := List SO
structure Ps where
  loc : Loc
  sto : Sto

inductive R (α : Type) where
  | ok (a : α) (s : Ps)
  | exc (c : Str) (fs : List PV) (s : Ps)
  | stuck

@[simp] def R.bind {α β : Type} (r : R α) (f : α → Ps → R β) : R β :=
  match r with
  | .ok a s => f a s
  | .exc c fs s => .exc c fs s
  | .stuck => .stuck

/-- what a call gives -/
inductive C where
  | ok (a : SV) (s : Sto)
  | exc (c : Str) (fs : List PV) (s : Sto)
  | stuck

/-- an attribute of a class: a slot, a property, a method (by the name of its def); of a class whose instances have a dict: a field, a property, a method -/
inductive At where
  | slot (i : Nat)
  | prop (g : Str)
  | meth (g : Str) (ar : Nat)
  | fld
  | propI (g : Str)
  | methI (g : Str) (ar : Nat)
  | neO
  | isi

/-- targets -/
inductive T where
  | var (i : Nat)
  | tup (ts : List T)

inductive IK where | seq | rng | enm | zp
  deriving DecidableEq

/-- built-in functions and classes that are called -/
inductive Pm where
  | len | int | max2 | min2 | sum | all | tup | lst | maxL | minL | srt | str | lstR | tupR | srtS | lenS | lstZ
  deriving DecidableEq

inductive E where
  | var (i : Nat)
  | glob (x : Str)
  | cst (v : PV)
  | bin (op : Operator) (a b : E)
  | neg (a : E)
  | not (a : E)
  | and (a b : E)
  | or (a b : E)
  | cmp (op : CmpOp) (a b : E)
  | chain (op op' : CmpOp) (a b c : E)
  | ite (c a b : E)
  | tup (es : List E)
  | lst (es : List E)
  | dsp (t : Bool) (fl : List Bool) (es : List E)
  | call (f : Str) (es : List E)
  | prim (f : Pm) (es : List E)
  | isi (a : E) (t : String)
  | app (i : Nat) (e : E)
  | ext (i : Nat) (e : E)
  | pop (i : Nat) (e : E)
  | idx (a i : E)
  | slo (a i : E)
  | shi (a j : E)
  | sl2 (a i j : E)
  | sls (a i k : E)
  | mnd (mx : Bool) (a d : E)
  | join (sep : Str) (a : E)
  | attr (a : E) (f : Str)
  | mkR (c : Str) (es : List E)
  | lenX (a : E)
  | mkI (c : Str) (es : List E)
  | eqR (ne : Bool) (a b : E)
  | isC (a : E) (c : Str)
  | callT (f : Str) (es : List E)
  | mcl (a : E) (f : Str) (es : List E)
  | comp (own : List (Str × Nat)) (elt : E) (tg : T) (k : IK) (src : List E) (ifs : List E)
  | comp2 (own own1 : List (Str × Nat)) (elt : E) (tg : T) (k : IK) (src : List E) (tg1 : T) (k1 : IK) (src1 : List E) (ifs : List E)
  | cnt (i : Nat) (b : E)

inductive S where
  | expr (e : E)
  | asg (t : T) (e : E)
  | newRow (i : Nat) (es : List E)
  | par (i j : Nat) (a b : E)
  | par3 (i j l : Nat) (a b c : E)
  | setIdx (i : Nat) (k : E) (e : E)
  | aug (i : Nat) (op : Operator) (e : E)
  | setAttr (i : Nat) (f : Str) (e : E)
  | augAttr (i : Nat) (f : Str) (op : Operator) (e : E)
  | if_ (c : E) (a b : List S)
  | for_ (t : T) (k : IK) (src : List E) (body : List S)
  | while_ (n : Nat) (c : E) (body : List S)
  | ret (e : E)
  | never
  | pass

mutual
/-- no shared object in it -/
def noRef : PV → Bool
  | .tup xs => noRefs xs
  | .lst xs => noRefs xs
  | .rcd _ xs => noRefs xs
  | .ref _ => false
  | _ => true
def noRefs : List PV → Bool
  | [] => true
  | x :: xs => noRef x && noRefs xs
end
mutual
/-- shared objects in it: of the first n alone -/
def refLt (n : Nat) : PV → Bool
  | .tup xs => refsLt n xs
  | .lst xs => refsLt n xs
  | .rcd _ xs => refsLt n xs
  | .ref k => decide (k < n)
  | _ => true
def refsLt (n : Nat) : List PV → Bool
  | [] => true
  | x :: xs => refLt n x && refsLt n xs
end
/-! ### equality of data -/
mutual
def eqv : PV → PV → Bool
  | .non, .non => true
  | .bl a, .bl b => a == b
  | .bl a, .int j => (if a then 1 else 0) == j
  | .int i, .bl b => i == (if b then 1 else 0)
  | .int i, .int j => i == j
  | .str x, .str y => x == y
  | .lst xs, .lst ys => eqvAll xs ys
  | .tup xs, .tup ys => eqvAll xs ys
  | _, _ => false
def eqvAll : List PV → List PV → Bool
  | [], [] => true
  | x :: xs, y :: ys => eqv x y && eqvAll xs ys
  | _, _ => false
end
mutual
/-- plain data, nested less than n deep -/
def shal : Nat → PV → Bool
  | _, .non => true
  | _, .bl _ => true
  | _, .int _ => true
  | _, .str x => PyData.strOk x
  | n + 1, .tup xs => shalAll n xs
  | n + 1, .lst xs => shalAll n xs
  | _, _ => false
def shalAll : Nat → List PV → Bool
  | _, [] => true
  | n, x :: xs => shal n x && shalAll n xs
end
mutual
def toData : PV → PyData
  | .non => .none
  | .bl b => .bool b
  | .int i => .int i
  | .str x => .str x
  | .tup xs => .tuple (toDatas xs)
  | .lst xs => .list (toDatas xs)
  | _ => .none
def toDatas : List PV → List PyData
  | [] => []
  | x :: xs => toData x :: toDatas xs
end
end PI

set_option Elab.async false
set_option linter.all false
set_option autoImplicit false
set_option maxRecDepth 100000
set_option maxHeartbeats 4000000
namespace PI
open PySem

abbrev lim : Nat := 16777216
def SV.pv : SV → PV
  | .val d => d
  | .own xs => .lst xs

/-- a value, or a name that alone holds its list -/
inductive BV where
  | v (d : PV)
  | s (i : Nat)
def deref (s : Ps) : BV → Option PV
  | .v d => some d
  | .s i => match s.loc[i]? with
    | some (some (.own xs)) => some (.lst xs)
    | some (some (.val d)) => some d
    | _ => none
def derefs (s : Ps) : List BV → Option (List PV)
  | [] => some []
  | b :: bs => match deref s b, derefs s bs with
    | some d, some ds => some (d :: ds)
    | _, _ => none

/-! ### operators -/
def binP : Operator → PV → PV → Option SV
  | .Add, .int a, .int b => some (.val (.int (a + b)))
  | .Add, .str a, .str b => if a.length + b.length ≤ lim then some (.val (.str (a ++ b))) else none
  | .Add, .lst a, .lst b => if a.length + b.length ≤ lim then some (.own (a ++ b)) else none
  | .Add, .tup a, .tup b => if a.length + b.length ≤ lim then some (.val (.tup (a ++ b))) else none
  | .Sub, .int a, .int b => some (.val (.int (a - b)))
  | .Mult, .int a, .int b => if (-(2 ^ 64) < a ∧ a < 2 ^ 64) ∨ (-(2 ^ 64) < b ∧ b < 2 ^ 64) then some (.val (.int (a * b))) else none
  | .Mult, .lst xs, .int k => if -(2 ^ 63) ≤ k ∧ k < 2 ^ 63 ∧ xs.length * k.toNat ≤ lim then some (.own (List.replicate k.toNat xs).flatten) else none
  | .Mult, .str z, .int k => if z.length ≤ 1000 ∧ -1000 ≤ k ∧ k ≤ 1000 then some (.val (.str (PySem.Txt.mul z k))) else none
  | .FloorDiv, .int a, .int b => if 0 < b ∧ b.natAbs.log2 < 9000 then some (.val (.int (a / b))) else none
  | .Mod, .int a, .int b => if 0 < b then some (.val (.int (a % b))) else none
  | .Pow, .int a, .int b => if 0 ≤ b ∧ b ≤ 1000000 ∧ a.natAbs < 2 ^ 64 then some (.val (.int (a ^ b.toNat))) else none
  | _, _, _ => none
def flatD : PV → Bool
  | .non => true
  | .bl _ => true
  | .int _ => true
  | .str _ => true
  | _ => false
def inSign (x z : Str) : Option Bool := match x.cps.toList with
  | [c] => some (decide (c ∈ z.cps.toList))
  | _ => none
def notNon : PV → Bool
  | .non => false
  | _ => true
/-- data of one kind -/
def okD (xs : List PV) : Bool := (xs.all fun a => shal 60 a && notNon a) && xs.all fun a => xs.all fun b => PySem.W.alike (toData a) (toData b)
def inP (a : PV) (xs : List PV) : Option Bool := if flatD a && xs.all flatD then some (xs.any fun y => eqv y a) else if okD (a :: xs) then some (xs.any fun y => eqv y a) else if !notNon a && xs.all fun y => shal 60 y then some (xs.any fun y => !notNon y) else none
def inO (a : PV) : PV → Option Bool
  | .str z => match a with
    | .str x => inSign x z
    | _ => none
  | .lst xs => inP a xs
  | .tup xs => inP a xs
  | _ => none
def ltP (a b : PV) : Bool := PySem.W.dataLt (toData a) (toData b)
/-- what is told of two alike data by their order -/
def ordP (a b : PV) (r : Bool) : Option Bool := if shal 60 a && shal 60 b && notNon a && PySem.W.alike (toData a) (toData b) then some r else none
def cmpP : CmpOp → PV → PV → Option Bool
  | .Lt, .int a, .int b => some (decide (a < b))
  | .LtE, .int a, .int b => some (decide (a ≤ b))
  | .Gt, .int a, .int b => some (decide (b < a))
  | .GtE, .int a, .int b => some (decide (b ≤ a))
  | .Lt, a, b => ordP a b (ltP a b)
  | .LtE, a, b => ordP a b (!ltP b a)
  | .Gt, a, b => ordP a b (ltP b a)
  | .GtE, a, b => ordP a b (!ltP a b)
  | .Eq, .str a, .str b => some (a == b)
  | .Eq, a, b => if shal 60 a && shal 60 b then some (eqv a b) else none
  | .NotEq, .str a, .str b => some (!(a == b))
  | .NotEq, a, b => if shal 60 a && shal 60 b then some (!eqv a b) else none
  | .Is, a, .non => some (match a with | .non => true | _ => false)
  | .IsNot, a, .non => some (match a with | .non => false | _ => true)
  | .In, a, b => inO a b
  | .NotIn, a, b => (inO a b).map (!·)
  | _, _, _ => none
def truP : PV → Option Bool
  | .non => some false
  | .bl b => some b
  | .int i => some (i != 0)
  | .lst xs => some (!xs.isEmpty)
  | .tup xs => some (!xs.isEmpty)
  | _ => none
def atP {α : Type} (xs : List α) (i : Int) : Option α := L2.atI xs i
def idxP (st : Sto) : PV → PV → Option PV
  | .lst xs, .int i => atP xs i
  | .tup xs, .int i => atP xs i
  | .scr ns, .int i => (atP ns i).map .int
  | .str z, .int i => if z.length ≤ lim then (atP z.cps.toList i).map fun c => .str ⟨#[c]⟩ else none
  | .ref k, .int i => match st[k]? with
    | some (.row xs) => atP xs i
    | _ => none
  | _, _ => none
def cutP (xs : List PV) (lo hi : Option Int) : List PV := (xs.drop (HT.sIx xs.length 0 lo)).take (HT.sIx xs.length xs.length hi - HT.sIx xs.length 0 lo)
def sliceP (lo hi : Option Int) : PV → Option SV
  | .lst xs => some (.own (cutP xs lo hi))
  | .tup xs => some (.val (.tup (cutP xs lo hi)))
  | .str z => if z.length ≤ lim then some (.val (.str (L2.cutS z lo hi))) else none
  | _ => none
def sloP (a i : PV) : Option SV := match i with
  | .int i => sliceP (some i) none a
  | _ => none
def shiP (a j : PV) : Option SV := match j with
  | .int j => sliceP none (some j) a
  | _ => none
def shi2P (i : Int) (a j : PV) : Option SV := match j with
  | .int j => sliceP (some i) (some j) a
  | _ => none
/-- z[i::k] -/
def stpS (z : Str) (i k : Int) : Str := if (k == 1 && (Builtin.Str.strSliceIndices (some i) none k z.length).length == z.length) = true then z else ⟨((Builtin.Str.strSliceIndices (some i) none k z.length).filterMap (z.cps[·]?)).toArray⟩
def slstP (i : Int) (a k : PV) : Option SV := match a, k with
  | .str z, .int k => if z.length ≤ lim ∧ 0 < k ∧ (Builtin.Str.strSliceIndices (some i) none k z.length).length ≤ lim then some (.val (.str (stpS z i k))) else none
  | _, _ => none
def unStrs : List PV → Option (List Str)
  | [] => some []
  | .str i :: r => (unStrs r).map (i :: ·)
  | _ :: _ => none
def joinL (sep : Str) (xs : List PV) : Option SV := match unStrs xs with
  | some ys => if (ys.map (·.length)).sum + ys.length * sep.length ≤ 16777216 then some (.val (.str (Txt.join sep ys))) else none
  | none => none
def joinP (sep : Str) : PV → Option SV
  | .lst xs => joinL sep xs
  | .tup xs => joinL sep xs
  | _ => none
def isiP (t : String) : PV → Option Bool
  | .non => some false
  | .bl _ => some (t == "bool" || t == "int")
  | .int _ => some (t == "int")
  | .str _ => some (t == "str")
  | .tup _ => some (t == "tuple")
  | .lst _ => some (t == "list")
  | _ => none
def unInts : List PV → Option (List Int)
  | [] => some []
  | .int i :: r => (unInts r).map (i :: ·)
  | _ :: _ => none
def unBls : List PV → Option (List Bool)
  | [] => some []
  | .bl i :: r => (unBls r).map (i :: ·)
  | _ :: _ => none
def maxI : List Int → Option Int
  | [] => none
  | x :: xs => match maxI xs with
    | some m => some (if m ≤ x then x else m)
    | none => some x
def minI : List Int → Option Int
  | [] => none
  | x :: xs => match minI xs with
    | some m => some (if x ≤ m then x else m)
    | none => some x
def minDP : List PV → Option PV
  | [] => none
  | x :: xs => if okD (x :: xs) then some (xs.foldl (fun a y => if ltP y a then y else a) x) else none
def maxDP : List PV → Option PV
  | [] => none
  | x :: xs => if okD (x :: xs) then some (xs.foldl (fun a y => if ltP a y then y else a) x) else none
/-- min, max of a list, a number if there is nothing in it -/
def mdP (mx : Bool) (a d : PV) : Option SV := match a, d with
  | .lst [], .int i => some (.val (.int i))
  | .lst (x :: xs), .int _ => (if mx then maxDP (x :: xs) else minDP (x :: xs)).map .val
  | _, _ => none
def minPV (xs : List PV) : Option SV := match unInts xs with
  | some ns => (minI ns).map fun m => .val (.int m)
  | none => (minDP xs).map .val
def maxPV (xs : List PV) : Option SV := match unInts xs with
  | some ns => (maxI ns).map fun m => .val (.int m)
  | none => (maxDP xs).map .val
def insI (x : Int) : List Int → List Int
  | [] => [x]
  | y :: ys => if x ≤ y then x :: y :: ys else y :: insI x ys
def srtI : List Int → List Int
  | [] => []
  | x :: xs => insI x (srtI xs)
/-- whole numbers by steps -/
def stpI (a c : Int) (n : Nat) : List Int := (List.range n).map fun (k : Nat) => a + (k : Int) * c
def stpP (i j c : Int) : Option (List PV) := if 0 < c ∧ c < 1073741824 ∧ Builtin.Range.small i j c = true ∧ (Builtin.Range.rangeSize i j c).toNat ≤ 16777216 then some ((stpI i c (Builtin.Range.rangeSize i j c).toNat).map .int) else none
def rngL : List PV → Option (List PV)
  | [.int j] => stpP 0 j 1
  | [.int i, .int j] => stpP i j 1
  | [.int i, .int j, .int c] => stpP i j c
  | _ => none
/-- a call within a call: list(range(..)), tuple(range(..)), sorted(set(..)), len(set(..)), list(zip(..)) -/
def Pm.two : Pm → Bool
  | .lstR => true
  | .tupR => true
  | .srtS => true
  | .lenS => true
  | .lstZ => true
  | _ => false
def Pm.inn : Pm → Str
  | .srtS => "set"
  | .lenS => "set"
  | .lstZ => "zip"
  | _ => "range"
/-- the different ones, ascending -/
def inuI (x : Int) : List Int → List Int
  | [] => [x]
  | y :: ys => if x < y then x :: y :: ys else if x = y then y :: ys else y :: inuI x ys
def snuI : List Int → List Int
  | [] => []
  | x :: xs => inuI x (snuI xs)
/-- the first ones of their kind -/
def nubS (xs : List Str) : List Str := xs.foldl (fun acc x => if x ∈ acc then acc else acc ++ [x]) []
def tupNe : PV → Bool
  | .tup (_ :: _) => true
  | _ => false
def isTupP : PV → Bool
  | .tup _ => true
  | _ => false
/-- data that can be sorted -/
def tup0 : PV → Bool
  | .tup [] => true
  | _ => false
def sblP (xs : List PV) : Bool := (xs.all tupNe || xs.all fun a => !isTupP a) || (xs.all isTupP && (xs.head?.map tup0).getD false)
def srtDP (xs : List PV) : Option (List PV) := if okD xs && sblP xs && decide (xs.length ≤ lim) then some (xs.mergeSort fun a b => !ltP b a) else none
def seqO : PV → Option (List PV)
  | .lst xs => some xs
  | .tup xs => some xs
  | .str z => some (z.cps.toList.map fun c => .str ⟨#[c]⟩)
  | _ => none
def zipL : List PV → List PV → List PV
  | x :: xs, y :: ys => .tup [x, y] :: zipL xs ys
  | _, _ => []
def primP : Pm → List PV → Option SV
  | .len, [.lst xs] => some (.val (.int xs.length))
  | .len, [.tup xs] => some (.val (.int xs.length))
  | .len, [.scr ns] => some (.val (.int ns.length))
  | .len, [.str z] => if z.length ≤ lim then some (.val (.int z.length)) else none
  | .int, [.int i] => some (.val (.int i))
  | .int, [.bl b] => some (.val (.int (if b then 1 else 0)))
  | .max2, [.int i, .int j] => some (.val (.int (if j > i then j else i)))
  | .min2, [.int i, .int j] => some (.val (.int (if j < i then j else i)))
  | .sum, [.lst xs] => (unInts xs).map fun ns => .val (.int ns.sum)
  | .all, [.lst xs] => (unBls xs).map fun bs => .val (.bl (bs.all id))
  | .tup, [.lst xs] => some (.val (.tup xs))
  | .tup, [.tup xs] => some (.val (.tup xs))
  | .lst, [.lst xs] => some (.own xs)
  | .lst, [.tup xs] => some (.own xs)
  | .lst, [.str z] => if z.length ≤ lim then some (.own (z.cps.toList.map fun c => .str ⟨#[c]⟩)) else none
  | .maxL, [.lst xs] => maxPV xs
  | .minL, [.lst xs] => minPV xs
  | .srt, [.lst xs] => match unInts xs with
    | some ns => some (.own ((srtI ns).map .int))
    | none => (srtDP xs).map .own
  | .srt, [.tup xs] => (unInts xs).map fun ns => .own ((srtI ns).map .int)
  | .str, [.int i] => if i.natAbs.log2 < 1920 then some (.val (.str (toString i : String))) else none
  | .int, [.str a] => match PySem.intText? a with
    | some n => if a.length ≤ 640 then some (.val (.int n)) else none
    | none => none
  | .lstR, ds => (rngL ds).map .own
  | .tupR, ds => (rngL ds).map fun xs => .val (.tup xs)
  | .lstZ, [.tup xs, .tup ys] => if xs.length = ys.length then some (.own (zipL xs ys)) else none
  | .srtS, [.lst xs] => match unInts xs with
    | some ns => if ns.length ≤ 3000 ∧ (snuI ns).length < 64 then some (.own ((snuI ns).map .int)) else none
    | none => none
  | .lenS, [.lst xs] => match unInts xs with
    | some ns => if ns.length ≤ 3000 then some (.val (.int (snuI ns).length)) else none
    | none => match unStrs xs with
      | some zs => if zs.length ≤ 3000 then some (.val (.int (nubS zs).length)) else none
      | none => none
  | .lenS, [.tup xs] => match unInts xs with
    | some ns => if ns.length ≤ 3000 then some (.val (.int (snuI ns).length)) else none
    | none => none
  | _, _ => none

def liftO {α : Type} (o : Option α) (s : Ps) : R α := match o with
  | some a => .ok a s
  | none => .stuck

/-! ### targets, sources -/
mutual
def asgT : T → PV → Loc → Option Loc
  | .var i, d, l => some (l.set i (some (.val d)))
  | .tup ts, .tup ds, l => asgTs ts ds l
  | _, _, _ => none
def asgTs : List T → List PV → Loc → Option Loc
  | [], [], l => some l
  | t :: ts, d :: ds, l => match asgT t d l with
    | some l' => asgTs ts ds l'
    | none => none
  | _, _, _ => none
end
def intsFrom (a : Int) : Nat → List PV
  | 0 => []
  | n + 1 => .int a :: intsFrom (a + 1) n
def seqP : List PV → Option (List PV)
  | [.lst xs] => some xs
  | [.tup xs] => some xs
  | [.str z] => some (z.cps.toList.map fun c => .str ⟨#[c]⟩)
  | _ => none
def enmL (i : Nat) : List PV → List PV
  | [] => []
  | x :: xs => .tup [.int (i : Int), x] :: enmL (i + 1) xs
def enmP : List PV → Option (List PV)
  | [.lst xs] => some (enmL 0 xs)
  | [.tup xs] => some (enmL 0 xs)
  | [.str z] => some (enmL 0 (z.cps.toList.map fun c => .str ⟨#[c]⟩))
  | _ => none
def zipP : List PV → Option (List PV)
  | [a, b] => match seqP [a], seqP [b] with
    | some xs, some ys => some (zipL xs ys)
    | _, _ => none
  | _ => none
def rngP : List PV → Option (List PV)
  | [.int j] => if -(2 ^ 62) ≤ j ∧ j < 2 ^ 62 then some (intsFrom 0 j.toNat) else none
  | [.int i, .int j] => if -(2 ^ 62) ≤ i ∧ i < 2 ^ 62 ∧ -(2 ^ 62) ≤ j ∧ j < 2 ^ 62 then some (intsFrom i (j - i).toNat) else none
  | [.int i, .int j, .int c] => stpP i j c
  | _ => none
def itemsP : IK → List PV → Option (List PV)
  | .seq, ds => seqP ds
  | .rng, ds => rngP ds
  | .enm, ds => enmP ds
  | .zp, ds => zipP ds
def wipeL (l : Loc) : List Nat → Loc
  | [] => l
  | v :: vs => (wipeL l vs).set v none
/-- the slots vs as they were in l0 -/
def backL (l0 l : Loc) : List Nat → Loc
  | [] => l
  | v :: vs => (backL l0 l vs).set v (l0[v]?.getD none)

def compLoop (body : PV → Ps → R (Option PV)) : List PV → List PV → Ps → R (List PV)
  | [], acc, s => .ok acc s
  | x :: xs, acc, s => (body x s).bind fun o s1 => match o with
    | some y => if acc.length < lim then compLoop body xs (acc ++ [y]) s1 else .stuck
    | none => compLoop body xs acc s1

/-! ### denotations -/
structure En where
  cl : Str → List PV → Sto → C
  gl : Str → Option PV
  ca : Str → Str → Option At

/-- what an expression does: as a name (its slot), as a value, as a test -/
structure Den where
  vr : Option Nat
  v : Ps → R SV
  t : Ps → R Bool
/-- as an operand: a name that alone holds its list is not copied -/
def Den.b (d : Den) (b : Bool) (s : Ps) : R BV := match b, d.vr with
  | true, some i => match s.loc[i]? with
    | some (some (.val d)) => .ok (.v d) s
    | some (some (.own _)) => .ok (.s i) s
    | _ => .stuck
  | _, _ => (d.v s).bind fun x s1 => .ok (.v x.pv) s1
def Den.bs (b : Bool) : List Den → Ps → R (List BV)
  | [], s => .ok [] s
  | e :: es, s => (e.b b s).bind fun x s1 => (Den.bs b es s1).bind fun xs s2 => .ok (x :: xs) s2
/-- operands, then what is done with their values -/
def opnd1 {α : Type} (a : Den) (f : PV → Ps → R α) (s : Ps) : R α := (a.b true s).bind fun x s1 => match deref s1 x with
  | some dx => f dx s1
  | none => .stuck
def opnd2 {α : Type} (a b : Den) (f : PV → PV → Ps → R α) (s : Ps) : R α := (a.b true s).bind fun x s1 => (b.b true s1).bind fun y s2 => match deref s2 x, deref s2 y with
  | some dx, some dy => f dx dy s2
  | _, _ => .stuck
def sl2K (x : BV) (c : Den) (y : SV) (s2 : Ps) : R SV := match y with
  | .val (.int i) => (c.b true s2).bind fun z s3 => match deref s3 x, deref s3 z with
    | some dx, some dz => liftO (shi2P i dx dz) s3
    | _, _ => .stuck
  | _ => .stuck
def slsK (x : BV) (c : Den) (y : SV) (s2 : Ps) : R SV := match y with
  | .val (.int i) => (c.b true s2).bind fun z s3 => match deref s3 x, deref s3 z with
    | some dx, some dz => liftO (slstP i dx dz) s3
    | _, _ => .stuck
  | _ => .stuck
def opnds {α : Type} (b : Bool) (es : List Den) (f : List PV → Ps → R α) (s : Ps) : R α := (Den.bs b es s).bind fun xs s1 => match derefs s1 xs with
  | some ds => f ds s1
  | none => .stuck
def Den.ofV (v : Ps → R SV) : Den := ⟨none, v, fun s => (v s).bind fun x s1 => liftO (truP x.pv) s1⟩

def dVar (i : Nat) : Den := ⟨some i, fun s => match s.loc[i]? with
    | some (some (.val d)) => .ok (.val d) s
    | some (some (.own xs)) => .ok (.val (.lst xs)) { s with loc := s.loc.set i (some (.val (.lst xs))) }
    | _ => .stuck,
  fun s => match s.loc[i]? with
    | some (some (.val d)) => liftO (truP d) s
    | some (some (.own xs)) => liftO (truP (.lst xs)) s
    | _ => .stuck⟩
def dGlob (G : En) (x : Str) : Den := .ofV fun s => liftO ((G.gl x).map .val) s
def dCst (d : PV) : Den := .ofV fun s => .ok (.val d) s
def dBin (op : Operator) (a b : Den) : Den := .ofV (opnd2 a b fun dx dy s => liftO (binP op dx dy) s)
def dNeg (a : Den) : Den := .ofV (opnd1 a fun d s => match d with
    | .int i => .ok (.val (.int (-i))) s
    | _ => .stuck)
def tNotR (a : Den) (s : Ps) : R Bool := (a.t s).bind fun b s1 => .ok (!b) s1
def dNot (a : Den) : Den := ⟨none, opnd1 a fun d s => liftO ((truP d).map fun b => .val (.bl (!b))) s, tNotR a⟩
def dAnd (a b : Den) : Den := ⟨none, fun s => (a.v s).bind fun x s1 => match x with
    | .val (.bl true) => b.v s1
    | .val (.bl false) => .ok (.val (.bl false)) s1
    | _ => .stuck,
  fun s => (a.t s).bind fun x s1 => if x then b.t s1 else .ok false s1⟩
def dOr (a b : Den) : Den := ⟨none, fun s => (a.v s).bind fun x s1 => match x with
    | .val (.bl true) => .ok (.val (.bl true)) s1
    | .val (.bl false) => b.v s1
    | _ => .stuck,
  fun s => (a.t s).bind fun x s1 => if x then .ok true s1 else b.t s1⟩
def dCmp (op : CmpOp) (a b : Den) : Den := ⟨none, opnd2 a b fun dx dy s => liftO ((cmpP op dx dy).map fun b => .val (.bl b)) s,
  opnd2 a b fun dx dy s => liftO (cmpP op dx dy) s⟩
def chainR (op op' : CmpOp) (a b c : Den) (s : Ps) : R Bool := (a.b true s).bind fun x s1 => (b.b true s1).bind fun y s2 => match deref s2 x, deref s2 y with
    | some dx, some dy => match cmpP op dx dy with
      | some true => (c.b true s2).bind fun z s3 => match deref s3 y, deref s3 z with
        | some dy, some dz => liftO (cmpP op' dy dz) s3
        | _, _ => .stuck
      | some false => .ok false s2
      | none => .stuck
    | _, _ => .stuck
def dChain (op op' : CmpOp) (a b c : Den) : Den := ⟨none, fun s => (chainR op op' a b c s).bind fun b s1 => .ok (.val (.bl b)) s1, chainR op op' a b c⟩
def dIte (c a b : Den) : Den := ⟨none, fun s => (c.t s).bind fun k s1 => if k then a.v s1 else b.v s1, fun s => (c.t s).bind fun k s1 => if k then a.t s1 else b.t s1⟩
def dTup (es : List Den) : Den := .ofV (opnds false es fun ds s => .ok (.val (.tup ds)) s)
def dLst (es : List Den) : Den := .ofV (opnds false es fun ds s => .ok (.own ds) s)
def splP : Bool → PV → Option (List PV)
  | false, d => some [d]
  | true, .lst ys => some ys
  | true, .tup ys => some ys
  | _, _ => none
/-- the items of a display, starred ones spread -/
def spl : List Bool → List Den → Ps → R (List PV)
  | _, [], s => .ok [] s
  | fl, d :: ds, s => (d.v s).bind fun x s1 => match splP (fl.headD false) x.pv with
    | some ys => (spl fl.tail ds s1).bind fun xs s2 => .ok (ys ++ xs) s2
    | none => .stuck
def dDsp (t : Bool) (fl : List Bool) (ds : List Den) : Den := .ofV fun s => (spl fl ds s).bind fun xs s1 => if xs.length ≤ lim then .ok (if t then .val (.tup xs) else .own xs) s1 else .stuck
def dCall (G : En) (f : Str) (es : List Den) : Den := .ofV (opnds false es fun ds s => match G.cl f ds s.sto with
      | .ok v st => .ok v { s with sto := st }
      | .exc c fs st => .exc c fs { s with sto := st }
      | .stuck => .stuck)
def dPrim (f : Pm) (es : List Den) : Den := .ofV (opnds true es fun ds s => liftO (primP f ds) s)
def dIsi (a : Den) (t : String) : Den := .ofV (opnd1 a fun d s => liftO ((isiP t d).map fun b => .val (.bl b)) s)
def appP (i : Nat) (x : SV) (s1 : Ps) : R SV := match s1.loc[i]? with
    | some (some (.own xs)) => if xs.length < lim then .ok (.val .non) { s1 with loc := s1.loc.set i (some (.own (xs ++ [x.pv]))) } else .stuck
    | _ => .stuck
def extP (i : Nat) (x : SV) (s1 : Ps) : R SV := match s1.loc[i]?, x.pv with
    | some (some (.own xs)), .lst ys => if xs.length + ys.length ≤ lim then .ok (.val .non) { s1 with loc := s1.loc.set i (some (.own (xs ++ ys))) } else .stuck
    | _, _ => .stuck
def popP (i : Nat) (x : SV) (s1 : Ps) : R SV := match s1.loc[i]?, x.pv with
    | some (some (.own xs)), .int k => match L2.ixN xs.length k with
      | some j => match xs[j]? with
        | some y => if xs.length ≤ lim then .ok (.val y) { s1 with loc := s1.loc.set i (some (.own (xs.eraseIdx j))) } else .stuck
        | none => .stuck
      | none => .stuck
    | _, _ => .stuck
def isOwn (i : Nat) (s : Ps) : Bool := match s.loc[i]? with
  | some (some (.own _)) => true
  | _ => false
def dApp (i : Nat) (e : Den) : Den := .ofV fun s => if isOwn i s then (e.v s).bind (appP i) else .stuck
def dExt (i : Nat) (e : Den) : Den := .ofV fun s => if isOwn i s then (e.v s).bind (extP i) else .stuck
def dPop (i : Nat) (e : Den) : Den := .ofV fun s => if isOwn i s then (e.v s).bind (popP i) else .stuck
def dIdx (a i : Den) : Den := .ofV (opnd2 a i fun dx dy s => liftO ((idxP s.sto dx dy).map .val) s)
def dSlo (a i : Den) : Den := .ofV (opnd2 a i fun dx dy s => liftO (sloP dx dy) s)
def dShi (a i : Den) : Den := .ofV (opnd2 a i fun dx dy s => liftO (shiP dx dy) s)
def dSl2 (a i j : Den) : Den := .ofV fun s => (a.b true s).bind fun x s1 => (i.v s1).bind (sl2K x j)
def dSls (a i k : Den) : Den := .ofV fun s => (a.b true s).bind fun x s1 => (i.v s1).bind (slsK x k)
def dMd (mx : Bool) (a d : Den) : Den := .ofV (opnd2 a d fun dx dy s => liftO (mdP mx dx dy) s)
def dJoin (sep : Str) (a : Den) : Den := .ofV (opnd1 a fun d s => liftO (joinP sep d) s)
/-- what a getter gives: it does not raise -/
def propP (r : C) (s : Ps) : R SV := match r with
  | .ok v st => .ok v { s with sto := st }
  | _ => .stuck
def attrR (G : En) (f : Str) (c : Str) (fs : List (Option PV)) (d : PV) (s : Ps) : R SV := match G.ca c f with
  | some (.slot i) => liftO ((fs[i]?).join.map .val) s
  | some (.prop g) => propP (G.cl g [d] s.sto) s
  | _ => .stuck
/-- of an instance with a dict -/
def insR (G : En) (f : Str) (c : Str) (fs : List (Str × PV)) (d : PV) (s : Ps) : R SV := match G.ca c f with
  | some .fld => liftO ((fs.lookup f).map .val) s
  | some (.propI g) => propP (G.cl g [d] s.sto) s
  | _ => .stuck
def attrO (G : En) (f : Str) (d : PV) (o1 o2 : Option SO) (s : Ps) : R SV := match o1, o2 with
  | some (.obj c fs), some (.aux true) => attrR G f c fs d s
  | some (.ins c fs), _ => insR G f c fs d s
  | _, _ => .stuck
def attrP (G : En) (f : Str) (d : PV) (s : Ps) : R SV := match d with
  | .rcd c fs => attrR G f c (fs.map some) d s
  | .ref k => attrO G f d s.sto[k]? s.sto[k + 1]? s
  | _ => .stuck
def dAttr (G : En) (a : Den) (f : Str) : Den := .ofV (opnd1 a fun d s => attrP G f d s)
def allSome {α : Type} : List (Option α) → Option (List α)
  | [] => some []
  | some x :: xs => (allSome xs).map (x :: ·)
  | none :: _ => none
/-- a new instance that no one changes any more -/
def mkK (c : Str) (r : C) (s : Ps) : R SV := match r with
  | .ok (.val .non) [.obj c' fs, .aux true] => if c' = c then (match allSome fs with
    | some (x :: xs) => if noRefs (x :: xs) then .ok (.val (.rcd c (x :: xs))) s else .stuck
    | _ => .stuck) else .stuck
  | _ => .stuck
def mkP (G : En) (c : Str) (ds : List PV) (s : Ps) : R SV := match G.ca c "__init__" with
  | some (.meth g ar) => if ar = ds.length + 1 ∧ noRefs ds = true then mkK c (G.cl g (.ref 0 :: ds) [.obj c [], .aux false]) s else .stuck
  | _ => .stuck
def dMkR (G : En) (c : Str) (es : List Den) : Den := .ofV (opnds false es fun ds s => mkP G c ds s)
def soLt (n : Nat) : SO → Bool
  | .row xs => refsLt n xs
  | .ins _ fs => refsLt n (fs.map (·.2))
  | _ => false
/-- the store without what a call made and no one knows any more -/
def trimS (n : Nat) (x : SV) (st : Sto) : Sto := if refLt n x.pv && (st.take n).all (soLt n) then st.take n else st
def calT (r : C) (s : Ps) : R SV := match r with
  | .ok v st => .ok v { s with sto := trimS s.sto.length v st }
  | .exc c fs st => .exc c fs { s with sto := st }
  | .stuck => .stuck
def dCallT (G : En) (f : Str) (es : List Den) : Den := .ofV (opnds false es fun ds s => calT (G.cl f ds s.sto) s)
/-- isinstance(x, C) -/
def isCP (c : Str) (d : PV) (s : Ps) : R SV := match d with
  | .rcd c' _ => if c' = c then .ok (.val (.bl true)) s else .stuck
  | _ => .stuck
def dIsC (a : Den) (c : Str) : Den := .ofV (opnd1 a fun d s => isCP c d s)
/-- x == y, x != y by the class's own == -/
def eqrK (ne : Bool) (r : C) (s : Ps) : R SV := match r with
  | .ok (.val (.bl b)) st => .ok (.val (.bl (if ne then !b else b))) { s with sto := st }
  | _ => .stuck
def isNeO : Option At → Bool
  | some .neO => true
  | _ => false
def eqrC (G : En) (ne : Bool) (c : Str) (dx dy : PV) (s : Ps) : R SV := match G.ca c "__eq__" with
  | some (.meth g ar) => if ar = 2 ∧ (ne = false ∨ isNeO (G.ca c "__ne__") = true) then eqrK ne (G.cl g [dx, dy] s.sto) s else .stuck
  | _ => .stuck
def eqrP (G : En) (ne : Bool) (dx dy : PV) (s : Ps) : R SV := match dx, dy with
  | .rcd c fs, .rcd c' fs' => if c = c' then eqrC G ne c (.rcd c fs) (.rcd c' fs') s else .stuck
  | _, _ => .stuck
def eqrT (G : En) (ne : Bool) (dx dy : PV) (s : Ps) : R Bool := (eqrP G ne dx dy s).bind fun x s1 => liftO (truP x.pv) s1
def dEqR (G : En) (ne : Bool) (a b : Den) : Den := ⟨none, opnd2 a b (eqrP G ne), opnd2 a b (eqrT G ne)⟩
/-- a new instance with a dict -/
def mkIK (k : Nat) (r : C) (s : Ps) : R SV := match r with
  | .ok (.val .non) st => .ok (.val (.ref k)) { s with sto := st }
  | .exc c fs st => .exc c fs { s with sto := st }
  | _ => .stuck
def mkIP (G : En) (c : Str) (ds : List PV) (s : Ps) : R SV := match G.ca c "__init__" with
  | some (.methI g ar) => if ar = ds.length + 1 then mkIK s.sto.length (G.cl g (.ref s.sto.length :: ds) (s.sto ++ [.ins c []])) s else .stuck
  | _ => .stuck
def dMkI (G : En) (c : Str) (es : List Den) : Den := .ofV (opnds false es fun ds s => mkIP G c ds s)
def callK (r : C) (s : Ps) : R SV := match r with
  | .ok v st => .ok v { s with sto := st }
  | .exc c fs st => .exc c fs { s with sto := st }
  | .stuck => .stuck
/-- the call of a method, the object known -/
def mclG (G : En) (k : Nat) (g : Str) (ar : Nat) (ds : List PV) (s : Ps) : R SV := if ds.length + 1 = ar then callK (G.cl g (.ref k :: ds) s.sto) s else .stuck
def mclO (G : En) (f : Str) (k : Nat) (es : List Den) (o : Option SO) (s : Ps) : R SV := match o with
  | some (.ins c fs) => match G.ca c f, fs.lookup f with
    | some (.methI g ar), none => opnds false es (mclG G k g ar) s
    | _, _ => .stuck
  | _ => .stuck
def mclK (G : En) (f : Str) (es : List Den) (x : SV) (s : Ps) : R SV := match x with
  | .val (.ref k) => mclO G f k es s.sto[k]? s
  | _ => .stuck
def dMcl (G : En) (a : Den) (f : Str) (es : List Den) : Den := .ofV fun s => (a.v s).bind (mclK G f es)
def lenK (r : C) (s : Ps) : R SV := match r with
  | .ok (.val (.int n)) st => if 0 ≤ n ∧ n < 2 ^ 63 then .ok (.val (.int n)) { s with sto := st } else .stuck
  | _ => .stuck
def lenP (G : En) (d : PV) (s : Ps) : R SV := match d with
  | .rcd c fs => (match G.ca c "__len__" with
    | some (.meth g 1) => lenK (G.cl g [.rcd c fs] s.sto) s
    | _ => .stuck)
  | d => liftO (primP .len [d]) s
def dLenX (G : En) (a : Den) : Den := .ofV (opnd1 a fun d s => lenP G d s)
def tstsR : List Den → Ps → R Bool
  | [], s => .ok true s
  | [e], s => e.t s
  | _ :: _ :: _, _ => .stuck
def compBody (own : List Nat) (elt : Den) (tg : T) (ifs : List Den) (x : PV) (s2 : Ps) : R (Option PV) := match asgT tg x s2.loc with
  | some l => (tstsR ifs { s2 with loc := l }).bind fun b s3 =>
    if b then (elt.v s3).bind fun y s4 => .ok (some y.pv) { s4 with loc := wipeL s4.loc own }
    else .ok none { s3 with loc := wipeL s3.loc own }
  | none => .stuck
def compR (own : List Nat) (elt : Den) (tg : T) (ifs : List Den) (its : List PV) (s1 : Ps) : R SV :=
  match compLoop (compBody own elt tg ifs) its [] { s1 with loc := wipeL s1.loc own } with
  | .ok acc s5 => .ok (.own acc) { s5 with loc := backL s1.loc s5.loc own }
  | _ => .stuck
/-- two walks, one within the other -/
def comp2Loop (own own1 : List Nat) (elt : Den) (tg : T) (src1 : Ps → R (List PV)) (tg1 : T) (ifs : List Den) : List PV → List PV → Ps → R (List PV)
  | [], acc, s => .ok acc s
  | x :: xs, acc, s => match asgT tg x s.loc with
    | some l => (src1 { s with loc := l }).bind fun its s1 => (compLoop (compBody own1 elt tg1 ifs) its acc { s1 with loc := wipeL s1.loc own1 }).bind fun acc' s2 => comp2Loop own own1 elt tg src1 tg1 ifs xs acc' { s2 with loc := wipeL s2.loc own }
    | none => .stuck
def comp2R (own own1 : List Nat) (elt : Den) (tg : T) (src1 : Ps → R (List PV)) (tg1 : T) (ifs : List Den) (its : List PV) (s1 : Ps) : R SV :=
  match comp2Loop own own1 elt tg src1 tg1 ifs its [] { s1 with loc := wipeL s1.loc own } with
  | .ok acc s5 => .ok (.own acc) { s5 with loc := backL s1.loc s5.loc own }
  | _ => .stuck
def itR (k : IK) (src : List Den) : Ps → R (List PV) := opnds false src fun ds s => liftO (itemsP k ds) s
def dComp2 (own own1 : List Nat) (elt : Den) (tg : T) (k : IK) (src : List Den) (tg1 : T) (k1 : IK) (src1 : List Den) (ifs : List Den) : Den := .ofV (opnds false src fun ds s1 => match itemsP k ds with
      | some its => comp2R own own1 elt tg (itR k1 src1) tg1 ifs its s1
      | none => .stuck)
/-- l.count(x), l a name -/
def cntP (xs : List PV) (a : PV) : Option SV := if flatD a && xs.all flatD then some (.val (.int (xs.countP fun y => eqv y a : Nat))) else none
def lstAt (i : Nat) (s : Ps) : Option (List PV) := match s.loc[i]? with
  | some (some (.own xs)) => some xs
  | some (some (.val (.lst xs))) => some xs
  | _ => none
def cntK (i : Nat) (x : SV) (s1 : Ps) : R SV := match lstAt i s1 with
  | some xs => liftO (cntP xs x.pv) s1
  | none => .stuck
def dCnt (i : Nat) (e : Den) : Den := .ofV fun s => if (lstAt i s).isSome then (e.v s).bind (cntK i) else .stuck
def dComp (own : List Nat) (elt : Den) (tg : T) (k : IK) (src : List Den) (ifs : List Den) : Den := .ofV (opnds false src fun ds s1 => match itemsP k ds with
      | some its => compR own elt tg ifs its s1
      | none => .stuck)

mutual
def den (G : En) : E → Den
  | .var i => dVar i
  | .glob x => dGlob G x
  | .cst d => dCst d
  | .bin op a b => dBin op (den G a) (den G b)
  | .neg a => dNeg (den G a)
  | .not a => dNot (den G a)
  | .and a b => dAnd (den G a) (den G b)
  | .or a b => dOr (den G a) (den G b)
  | .cmp op a b => dCmp op (den G a) (den G b)
  | .chain op op' a b c => dChain op op' (den G a) (den G b) (den G c)
  | .ite c a b => dIte (den G c) (den G a) (den G b)
  | .tup es => dTup (dens G es)
  | .lst es => dLst (dens G es)
  | .dsp t fl es => dDsp t fl (dens G es)
  | .call f es => dCall G f (dens G es)
  | .prim f es => dPrim f (dens G es)
  | .isi a t => dIsi (den G a) t
  | .app i e => dApp i (den G e)
  | .ext i e => dExt i (den G e)
  | .pop i e => dPop i (den G e)
  | .idx a i => dIdx (den G a) (den G i)
  | .slo a i => dSlo (den G a) (den G i)
  | .shi a i => dShi (den G a) (den G i)
  | .sl2 a i j => dSl2 (den G a) (den G i) (den G j)
  | .sls a i k => dSls (den G a) (den G i) (den G k)
  | .mnd mx a d => dMd mx (den G a) (den G d)
  | .join sep a => dJoin sep (den G a)
  | .attr a f => dAttr G (den G a) f
  | .mkR c es => dMkR G c (dens G es)
  | .lenX a => dLenX G (den G a)
  | .mkI c es => dMkI G c (dens G es)
  | .callT f es => dCallT G f (dens G es)
  | .isC a c => dIsC (den G a) c
  | .eqR ne a b => dEqR G ne (den G a) (den G b)
  | .mcl a f es => dMcl G (den G a) f (dens G es)
  | .comp own elt tg k src ifs => dComp (own.map (·.2)) (den G elt) tg k (dens G src) (dens G ifs)
  | .comp2 own own1 elt tg k src tg1 k1 src1 ifs => dComp2 (own.map (·.2)) (own1.map (·.2)) (den G elt) tg k (dens G src) tg1 k1 (dens G src1) (dens G ifs)
  | .cnt i e => dCnt i (den G e)
def dens (G : En) : List E → List Den
  | [] => []
  | e :: es => den G e :: dens G es
end

/-! ### statements -/
inductive Fl where
  | next | ret (v : SV) | brk | cont
abbrev DS := Ps → R Fl
def sExpr (e : Den) : DS := fun s => (e.v s).bind fun _ s1 => .ok .next s1
def asgS (t : T) (x : SV) (s : Ps) : R Fl := match t, x with
  | .var i, x => .ok .next { s with loc := s.loc.set i (some x) }
  | t, .val d => match asgT t d s.loc with
    | some l => .ok .next { s with loc := l }
    | none => .stuck
  | _, _ => .stuck
def sAsg (t : T) (e : Den) : DS := fun s => (e.v s).bind fun x s1 => asgS t x s1
def sRow (i : Nat) (es : List Den) : DS := opnds false es fun ds s => .ok .next { loc := s.loc.set i (some (.val (.ref s.sto.length))), sto := s.sto ++ [.row ds] }
def sPar (i j : Nat) (a b : Den) : DS := fun s => (a.v s).bind fun x s1 => (b.v s1).bind fun y s2 => .ok .next { s2 with loc := (s2.loc.set i (some x)).set j (some y) }
def vsR : List Den → Ps → R (List SV)
  | [], s => .ok [] s
  | d :: ds, s => (d.v s).bind fun x s1 => (vsR ds s1).bind fun xs s2 => .ok (x :: xs) s2
def setMany : List Nat → List SV → Loc → Loc
  | i :: is, x :: xs, l => setMany is xs (l.set i (some x))
  | _, _, l => l
def sParN (is : List Nat) (es : List Den) : DS := fun s => (vsR es s).bind fun xs s1 => .ok .next { s1 with loc := setMany is xs s1.loc }
def setP (i : Nat) (k : PV) (x : PV) (s : Ps) : R Fl := match k, s.loc[i]? with
  | .int k, some (some (.own xs)) => match L2.ixN xs.length k with
    | some j => .ok .next { s with loc := s.loc.set i (some (.own (xs.set j x))) }
    | none => .stuck
  | .int k, some (some (.val (.ref a))) => match s.sto[a]? with
    | some (.row xs) => match L2.ixN xs.length k with
      | some j => .ok .next { s with sto := s.sto.set a (.row (xs.set j x)) }
      | none => .stuck
    | _ => .stuck
  | _, _ => .stuck
def putF {α : Type} (i : Nat) (x : α) (fs : List (Option α)) : List (Option α) := (fs ++ List.replicate (i + 1 - fs.length) none).set i (some x)
def putI (f : Str) (x : PV) : List (Str × PV) → List (Str × PV)
  | [] => [(f, x)]
  | (g, y) :: r => if g = f then (g, x) :: r else (g, y) :: putI f x r
def setFld (G : En) (k : Nat) (f : Str) (x : PV) (o1 o2 : Option SO) (s : Ps) : R Fl := match o1, o2 with
  | some (.obj c fs), some (.aux b) => match G.ca c f with
    | some (.slot j) => if !(fs.isEmpty || b) then .stuck else .ok .next { s with sto := (s.sto.set k (.obj c (putF j x fs))).set (k + 1) (.aux true) }
    | _ => .stuck
  | some (.ins c fs), _ => match G.ca c f with
    | some .fld => if fs.length < 1000 then .ok .next { s with sto := s.sto.set k (.ins c (putI f x fs)) } else .stuck
    | _ => .stuck
  | _, _ => .stuck
def setAt (G : En) (i : Nat) (f : Str) (x : PV) (s : Ps) : R Fl := match s.loc[i]? with
  | some (some (.val (.ref k))) => setFld G k f x s.sto[k]? s.sto[k + 1]? s
  | _ => .stuck
def augI : Operator → PV → PV → Option PV
  | .Add, .int a, .int b => some (.int (a + b))
  | .Sub, .int a, .int b => some (.int (a - b))
  | _, _, _ => none
def augO (k : Nat) (f c : Str) (z : PV) (o : Option SO) (s : Ps) : R Fl := match o with
  | some (.ins c' fs) => if c' = c ∧ fs.length < 1000 then .ok .next { s with sto := s.sto.set k (.ins c (putI f z fs)) } else .stuck
  | _ => .stuck
def augF (k : Nat) (f c : Str) (op : Operator) (x : PV) (y : SV) (s : Ps) : R Fl := match augI op x y.pv with
  | some z => augO k f c z s.sto[k]? s
  | none => .stuck
def augG (G : En) (k : Nat) (f : Str) (op : Operator) (e : Den) (o : Option SO) (s : Ps) : R Fl := match o with
  | some (.ins c fs) => match G.ca c f, fs.lookup f with
    | some .fld, some x => (e.v s).bind (augF k f c op x)
    | _, _ => .stuck
  | _ => .stuck
def sAugAt (G : En) (i : Nat) (f : Str) (op : Operator) (e : Den) : DS := fun s => match s.loc[i]? with
  | some (some (.val (.ref k))) => augG G k f op e s.sto[k]? s
  | _ => .stuck
def sSetAt (G : En) (i : Nat) (f : Str) (e : Den) : DS := fun s => (e.v s).bind fun x s1 => setAt G i f x.pv s1
def filled (i : Nat) (s : Ps) : Bool := match s.loc[i]? with
  | some (some _) => true
  | _ => false
def sSet (i : Nat) (k e : Den) : DS := fun s => if filled i s then (e.v s).bind fun x s1 => (k.v s1).bind fun y s2 => setP i y.pv x.pv s2 else .stuck
def augP (op : Operator) (x y : PV) : Option SV := match op, x, y with
  | .Add, .int a, .int b => some (.val (.int (a + b)))
  | .Sub, .int a, .int b => some (.val (.int (a - b)))
  | .Mult, .int a, .int b => if (-(2 ^ 64) < a ∧ a < 2 ^ 64) ∨ (-(2 ^ 64) < b ∧ b < 2 ^ 64) then some (.val (.int (a * b))) else none
  | .Add, .str a, .str b => if a.length + b.length ≤ lim then some (.val (.str (a ++ b))) else none
  | _, _, _ => none
def sAug (i : Nat) (op : Operator) (e : Den) : DS := fun s => match s.loc[i]? with
  | some (some (.val x)) => (e.v s).bind fun y s1 => match augP op x y.pv with
    | some z => .ok .next { s1 with loc := s1.loc.set i (some z) }
    | none => .stuck
  | _ => .stuck
def sIf (c : Den) (a b : DS) : DS := fun s => (c.t s).bind fun k s1 => if k then a s1 else b s1
def forLoop (body : PV → DS) : List PV → DS
  | [], s => .ok .next s
  | x :: xs, s => match body x s with
    | .ok .next s1 => forLoop body xs s1
    | .ok .cont s1 => forLoop body xs s1
    | .ok .brk s1 => .ok .next s1
    | .ok (.ret v) s1 => .ok (.ret v) s1
    | .exc c fs s1 => .exc c fs s1
    | .stuck => .stuck
def forBody (t : T) (body : DS) (x : PV) : DS := fun s => match asgT t x s.loc with
  | some l => body { s with loc := l }
  | none => .stuck
def sFor (t : T) (k : IK) (src : List Den) (body : DS) : DS := opnds false src fun ds s => match itemsP k ds with
  | some its => forLoop (forBody t body) its s
  | none => .stuck
def whl (c : Den) (body : DS) : Nat → DS
  | 0, _ => .stuck
  | n + 1, s => (c.t s).bind fun k s1 => if k then (match body s1 with
    | .ok .next s2 => whl c body n s2
    | .ok .cont s2 => whl c body n s2
    | .ok .brk s2 => .ok .next s2
    | .ok (.ret v) s2 => .ok (.ret v) s2
    | .exc c fs s2 => .exc c fs s2
    | .stuck => .stuck) else .ok .next s1
def sRet (e : Den) : DS := fun s => match e.vr.bind (fun i => s.loc[i]?) with
  | some (some (.own xs)) => .ok (.ret (.own xs)) s
  | _ => (e.v s).bind fun x s1 => .ok (.ret x) s1
def sSeq (a b : DS) : DS := fun s => match a s with
  | .ok .next s1 => b s1
  | r => r
def sNext : DS := fun s => .ok .next s
mutual
def dst (G : En) : S → DS
  | .expr e => sExpr (den G e)
  | .asg t e => sAsg t (den G e)
  | .newRow i es => sRow i (dens G es)
  | .par i j a b => sPar i j (den G a) (den G b)
  | .par3 i j l a b c => sParN [i, j, l] [den G a, den G b, den G c]
  | .setIdx i k e => sSet i (den G k) (den G e)
  | .aug i op e => sAug i op (den G e)
  | .setAttr i f e => sSetAt G i f (den G e)
  | .augAttr i f op e => sAugAt G i f op (den G e)
  | .if_ c a b => sIf (den G c) (dsts G a) (dsts G b)
  | .for_ t k src body => sFor t k (dens G src) (dsts G body)
  | .while_ n c body => whl (den G c) (dsts G body) n
  | .ret e => sRet (den G e)
  | .never => fun _ => .stuck
  | .pass => sNext
def dsts (G : En) : List S → DS
  | [] => sNext
  | s :: ss => sSeq (dst G s) (dsts G ss)
end

/-! ### defs -/
structure Fn where
  ps : Nat
  n : Nat
  body : List S
def runFn (G : En) (f : Fn) (ds : List PV) (st : Sto) : C :=
  if ds.length = f.ps then
    match dsts G f.body ⟨ds.map (fun d => some (.val d)) ++ List.replicate (f.n - f.ps) none, st⟩ with
    | .ok .next s => .ok (.val .non) s.sto
    | .ok (.ret v) s => .ok v s.sto
    | .exc c fs s => .exc c fs s.sto
    | _ => .stuck
  else .stuck
/-- a text: its defs, its constants, its classes -/
structure Pg where
  fs : Str → Option Fn
  gl : Str → Option PV
  ca : Str → Str → Option At
def callP (P : Pg) : Nat → Str → List PV → Sto → C
  | 0, _, _, _ => .stuck
  | n + 1, f, ds, st => match P.fs f with
    | some fn => runFn ⟨callP P n, P.gl, P.ca⟩ fn ds st
    | none => .stuck
end PI

set_option Elab.async false
set_option linter.all false
set_option autoImplicit false
set_option maxRecDepth 100000
set_option maxHeartbeats 4000000
/-! What a value of the machine denotes; the state; what follows. -/
namespace PI
open PySem L2

mutual
inductive Dn (K : PySem.W.Frag) (F : Hp) (M : List Addr) : V → PV → Prop
  | non : Dn K F M .non .non
  | bl (b : Bool) : Dn K F M (.bl b) (.bl b)
  | int (i : Int) : Dn K F M (.int i) (.int i)
  | str (x : Str) : Dn K F M (.str x) (.str x)
  | tup {p : Addr} {vs : List V} {ds : List PV} : SqT K F p vs → Dns K F M vs ds → Dn K F M (.ref p) (.tup ds)
  | lst {p : Addr} {vs : List V} {ds : List PV} : F p = some (.lst vs) → Dns K F M vs ds → Dn K F M (.ref p) (.lst ds)
  | scr {p : Addr} {ns : List Int} : SqL K F p (ns.map V.int) → Dn K F M (.ref p) (.scr ns)
  | ref {a : Addr} {k : Nat} : M[k]? = some a → Dn K F M (.ref a) (.ref k)
  | rcd {a C dx : Addr} {c : Str} {vs : List (Option V)} {ws : List V} {ds : List PV} : PySem.W.nsIn K mainGlobals c = some (some (.ref C)) → F a = some (SlX.SlO a C dx vs) → F dx = some (.xd []) → (∀ (i : Nat) (w : V), ws[i]? = some w → vs[i]? = some (some w)) → Dns K F M ws ds → Dn K F M (.ref a) (.rcd c ds)
inductive Dns (K : PySem.W.Frag) (F : Hp) (M : List Addr) : List V → List PV → Prop
  | nil : Dns K F M [] []
  | cons {v : V} {vs : List V} {d : PV} {ds : List PV} : Dn K F M v d → Dns K F M vs ds → Dns K F M (v :: vs) (d :: ds)
end

/-- the fields of an instance with a dict -/
inductive Flds (K : PySem.W.Frag) (F : Hp) (M : List Addr) : List (Str × V) → List (Str × PV) → Prop
  | nil : Flds K F M [] []
  | cons {g : Str} {v : V} {d : PV} {vs : List (Str × V)} {ds : List (Str × PV)} : Dn K F M v d → Flds K F M vs ds → Flds K F M ((g, v) :: vs) ((g, d) :: ds)
section
variable {K : PySem.W.Frag} {F F' H H' : Hp} {M M' : List Addr}
theorem sqT_mono (e : Same F F') {a : Addr} {xs : List V} (h : SqT K F a xs) : SqT K F' a xs := by
  rcases h with (h | ⟨o, h⟩) | h
  · exact .inl (.inl (e _ _ h))
  · exact .inl (.inr ⟨o, e _ _ h⟩)
  · exact .inr h
theorem pre_get {M M' : List Addr} (p : M <+: M') {k : Nat} {a : Addr} (h : M[k]? = some a) : M'[k]? = some a := by
  obtain ⟨r, rfl⟩ := p
  rw [List.getElem?_append_left]
  · exact h
  · exact (List.getElem?_eq_some_iff.mp h).1
mutual
theorem Dn.mono (e : Same F F') (m : M <+: M') : ∀ {v : V} {d : PV}, Dn K F M v d → Dn K F' M' v d
  | _, _, .non => .non
  | _, _, .bl b => .bl b
  | _, _, .int i => .int i
  | _, _, .str x => .str x
  | _, _, .tup h r => .tup (sqT_mono e h) (Dns.mono e m r)
  | _, _, .lst h r => .lst (e _ _ h) (Dns.mono e m r)
  | _, _, .scr h => .scr (e.seq h)
  | _, _, .ref h => .ref (pre_get m h)
  | _, _, .rcd h1 h2 h3 h4 r => .rcd h1 (e _ _ h2) (e _ _ h3) h4 (Dns.mono e m r)
theorem Dns.mono (e : Same F F') (m : M <+: M') : ∀ {v : List V} {d : List PV}, Dns K F M v d → Dns K F' M' v d
  | _, _, .nil => .nil
  | _, _, .cons h r => .cons (Dn.mono e m h) (Dns.mono e m r)
end
theorem Flds.mono (e : Same F F') (m : M <+: M') : ∀ {v : List (Str × V)} {d : List (Str × PV)}, Flds K F M v d → Flds K F' M' v d
  | _, _, .nil => .nil
  | _, _, .cons h r => .cons (Dn.mono e m h) (Flds.mono e m r)
theorem Flds.length : ∀ {v : List (Str × V)} {d : List (Str × PV)}, Flds K F M v d → v.length = d.length
  | _, _, .nil => rfl
  | _, _, .cons h r => by rw [List.length_cons, List.length_cons, r.length]
theorem Flds.look {f : Str} : ∀ {v : List (Str × V)} {d : List (Str × PV)}, Flds K F M v d → (v.lookup f = none ∧ d.lookup f = none) ∨ ∃ x y, v.lookup f = some x ∧ d.lookup f = some y ∧ Dn K F M x y
  | _, _, .nil => .inl ⟨rfl, rfl⟩
  | _, _, .cons (g := g) h r => by
    rw [List.lookup_cons, List.lookup_cons]
    cases f == g with
    | true => exact .inr ⟨_, _, rfl, rfl, h⟩
    | false => exact r.look
theorem Flds.put {f : Str} {v0 : V} {d0 : PV} (h0 : Dn K F M v0 d0) : ∀ {v : List (Str × V)} {d : List (Str × PV)}, Flds K F M v d → Flds K F M (L2.putF f v0 v) (putI f d0 d)
  | _, _, .nil => .cons h0 .nil
  | _, _, .cons (g := g) h r => by
    unfold L2.putF putI
    by_cases z : g = f
    · rw [if_pos z, if_pos z]; exact .cons h0 r
    · rw [if_neg z, if_neg z]; exact .cons h (r.put h0)
theorem Dns.length : ∀ {vs : List V} {ds : List PV}, Dns K F M vs ds → vs.length = ds.length
  | _, _, .nil => rfl
  | _, _, .cons _ r => by rw [List.length_cons, List.length_cons, r.length]
theorem Dns.get : ∀ {vs : List V} {ds : List PV} {i : Nat} {d : PV}, Dns K F M vs ds → ds[i]? = some d → ∃ v, vs[i]? = some v ∧ Dn K F M v d
  | _, _, _, _, .nil, h => by simp at h
  | _, _, 0, _, .cons h _, e => by simp at e; subst e; exact ⟨_, rfl, h⟩
  | _, _, i + 1, _, .cons _ r, e => by
    obtain ⟨v, h1, h2⟩ := Dns.get (i := i) r (by simpa using e)
    exact ⟨v, by simpa using h1, h2⟩
theorem Dns.append : ∀ {vs ws : List V} {ds es : List PV}, Dns K F M vs ds → Dns K F M ws es → Dns K F M (vs ++ ws) (ds ++ es)
  | _, _, _, _, .nil, h => h
  | _, _, _, _, .cons h r, q => .cons h (r.append q)
theorem Dns.set : ∀ {vs : List V} {ds : List PV} {v : V} {d : PV} (i : Nat), Dns K F M vs ds → Dn K F M v d → Dns K F M (vs.set i v) (ds.set i d)
  | _, _, _, _, _, .nil, _ => .nil
  | _, _, _, _, 0, .cons _ r, q => .cons q r
  | _, _, _, _, i + 1, .cons h r, q => .cons h (Dns.set i r q)
theorem Dns.at {vs : List V} {ds : List PV} {i : Int} {d : PV} (h : Dns K F M vs ds) (e : atP ds i = some d) : ∃ v, atI vs i = some v ∧ Dn K F M v d := by
  have e' : (ixN ds.length i).bind (fun j => ds[j]?) = some d := e
  cases q : ixN ds.length i with
  | none => rw [q] at e'; cases e'
  | some j =>
    rw [q] at e'
    obtain ⟨v, h1, h2⟩ := h.get (i := j) (d := d) e'
    refine ⟨v, ?_, h2⟩
    show (ixN vs.length i).bind (fun j => vs[j]?) = some v
    rw [h.length, q]
    exact h1
theorem Dns.ints : ∀ {vs : List V} {ds : List PV} {ns : List Int}, Dns K F M vs ds → unInts ds = some ns → vs = ns.map V.int
  | _, _, ns, .nil, e => by
    have : ([] : List Int) = ns := Option.some.inj e
    subst this; rfl
  | _, _, ns, .cons (d := d) (ds := ds) h r, e => by
    cases d with
    | int i =>
      cases h
      have e' : (unInts ds).map (i :: ·) = some ns := e
      cases q : unInts ds with
      | none => rw [q] at e'; cases e'
      | some ms =>
        rw [q] at e'
        have := Option.some.inj e'
        subst this
        rw [r.ints q]; rfl
    | _ => exact absurd e (by intro z; cases z)
theorem Dns.ofInts (ns : List Int) : Dns K F M (ns.map V.int) (ns.map PV.int) := by
  induction ns with
  | nil => exact .nil
  | cons i r ih => exact .cons (.int i) ih
end

/-- the names that alone hold a list: at which addresses -/
def Own (σ : L2.St) (l : Loc) (p : Addr) : Prop := ∃ (i : Nat) (xs : List PV), l[i]? = some (some (SV.own xs)) ∧ σ[i]? = some (some (V.ref p))

def SlotOk (K : PySem.W.Frag) (F H : Hp) (M : List Addr) (v : Option (Option V)) : Option SV → Prop
  | none => True
  | some (.val d) => ∃ x, v = some (some x) ∧ Dn K F M x d
  | some (.own xs) => ∃ p vs, v = some (some (.ref p)) ∧ F p = none ∧ H p = some (.lst vs) ∧ Dns K F M vs xs ∧ p ∉ M

def SoOk (K : PySem.W.Frag) (F H : Hp) (M : List Addr) (a : Addr) : SO → Prop
  | .row xs => F a = none ∧ ∃ vs, H a = some (.lst vs) ∧ Dns K F M vs xs
  | .obj c fs => F a = none ∧ ∃ C dx vs, PySem.W.nsIn K mainGlobals c = some (some (.ref C)) ∧ (∃ k, M[k]? = some a ∧ M[k + 1]? = some dx) ∧
      ((fs = [] ∧ vs = [] ∧ H a = some (.ins C dx [])) ∨ (fs ≠ [] ∧ H a = some (SlX.SlO a C dx vs))) ∧ ∀ (i : Nat) (d : PV), fs[i]? = some (some d) → ∃ v, vs[i]? = some (some v) ∧ Dn K F M v d
  | .aux b => F a = none ∧ ∃ o, H a = some o ∧ (b = true → o = .xd [])
  | .ins c fs => F a = none ∧ ∃ C dx vs, PySem.W.nsIn K mainGlobals c = some (some (.ref C)) ∧ H a = some (.ins C dx vs) ∧ Flds K F M vs fs

structure Stos (K : PySem.W.Frag) (F H : Hp) (M : List Addr) (st : Sto) : Prop where
  len : M.length = st.length
  nd : M.Nodup
  ok : ∀ (k : Nat) (so : SO) (a : Addr), st[k]? = some so → M[k]? = some a → SoOk K F H M a so

structure Rl (K : PySem.W.Frag) (F H : Hp) (M : List Addr) (σ : L2.St) (s : Ps) : Prop where
  same : Same F H
  len : s.loc.length = σ.length
  slot : ∀ (i : Nat) (o : Option SV), s.loc[i]? = some o → SlotOk K F H M σ[i]? o
  inj : ∀ (i j : Nat) (xs ys : List PV) (p : Addr), s.loc[i]? = some (some (.own xs)) → s.loc[j]? = some (some (.own ys)) → σ[i]? = some (some (.ref p)) → σ[j]? = some (some (.ref p)) → i = j
  sto : Stos K F H M s.sto

/-- from one state to a later one: what is not held by a name alone, and no shared object, is kept -/
structure Ext (O : Addr → Prop) (F H : Hp) (M : List Addr) (F' H' : Hp) (M' : List Addr) (O' : Addr → Prop) : Prop where
  fs : Same F F'
  keep : ∀ p o, H p = some o → p ∉ M → ¬ O p → H' p = some o
  dom : ∀ p o, H p = some o → ∃ o', H' p = some o'
  newF : ∀ p o, F' p = some o → F p = some o ∨ H p = none ∨ O p
  pre : M <+: M'
  newM : ∀ a, a ∈ M' → a ∈ M ∨ H a = none
  newO : ∀ p, O' p → O p ∨ H p = none

section
variable {K : PySem.W.Frag} {F F' F2 H H' H2 : Hp} {M M' M2 : List Addr} {O O' O2 : Addr → Prop} {σ : L2.St} {s s' : Ps}
theorem Ext.refl : Ext O F H M F H M O := ⟨Same.refl _, fun _ _ h _ _ => h, fun _ o h => ⟨o, h⟩, fun _ _ h => .inl h, List.prefix_refl _, fun _ h => .inl h, fun _ h => .inl h⟩
theorem Ext.none_back (x : Ext O F H M F' H' M' O') {p : Addr} (h : H' p = none) : H p = none := by
  cases q : H p with
  | none => rfl
  | some o =>
    obtain ⟨o', e⟩ := x.dom p o q
    rw [h] at e; cases e
theorem Ext.trans (x : Ext O F H M F' H' M' O') (y : Ext O' F' H' M' F2 H2 M2 O2) : Ext O F H M F2 H2 M2 O2 where
  fs := x.fs.trans y.fs
  keep := fun p o h hm ho => y.keep p o (x.keep p o h hm ho) (fun z => (x.newM p z).elim hm fun e => by rw [h] at e; cases e) fun z => (x.newO p z).elim ho fun e => by rw [h] at e; cases e
  dom := fun p o h => by
    obtain ⟨o', e⟩ := x.dom p o h
    exact y.dom p o' e
  newF := fun p o h => by
    rcases y.newF p o h with h | h | h
    · exact x.newF p o h
    · exact .inr (.inl (x.none_back h))
    · rcases x.newO p h with h | h
      · exact .inr (.inr h)
      · exact .inr (.inl h)
  pre := x.pre.trans y.pre
  newM := fun a h => by
    rcases y.newM a h with h | h
    · exact x.newM a h
    · exact .inr (x.none_back h)
  newO := fun p h => by
    rcases y.newO p h with h | h
    · exact x.newO p h
    · exact .inr (x.none_back h)

theorem same_upd (e : Same F H) {p : Addr} {o : HO} (h : H p = none) : Same (upd F p o) (upd H p o) := fun b u q => by
  by_cases z : b = p
  · subst z; rw [upd_same] at q ⊢; exact q
  · rw [upd_ne z] at q ⊢; exact e b u q
theorem same_new {p : Addr} {o : HO} (h : F p = none) : Same F (upd F p o) := fun b u q => by
  rw [upd_ne (ne_of_none q h)]; exact q
theorem same_mut (e : Same F H) {p : Addr} {o : HO} (h : F p = none) : Same F (upd H p o) := fun b u q => by
  rw [upd_ne (ne_of_none q h)]; exact e b u q

theorem Rl.own_some (r : Rl K F H M σ s) {p : Addr} (h : Own σ s.loc p) : (∃ vs, H p = some (.lst vs)) ∧ F p = none ∧ p ∉ M := by
  obtain ⟨i, xs, h1, h2⟩ := h
  obtain ⟨q, vs, e, f, hh, _, nm⟩ : ∃ p vs, σ[i]? = some (some (V.ref p)) ∧ F p = none ∧ H p = some (.lst vs) ∧ Dns K F M vs xs ∧ p ∉ M := r.slot i _ h1
  rw [h2] at e
  have : p = q := V.ref.inj (Option.some.inj (Option.some.inj e))
  subst this
  exact ⟨⟨vs, hh⟩, f, nm⟩
theorem SoOk.mono {a : Addr} {so : SO} (h : SoOk K F H M a so) (e : Same F F') (m : M <+: M') (hf : F' a = none) (hh : H' a = H a) : SoOk K F' H' M' a so := by
  cases so with
  | row xs =>
    obtain ⟨h1, vs, h2, h3⟩ := h
    exact ⟨hf, vs, by rw [hh]; exact h2, h3.mono e m⟩
  | obj c fs =>
    obtain ⟨h1, C, dx, vs, h2, ⟨k, h3, h4⟩, h5, h6⟩ := h
    refine ⟨hf, C, dx, vs, h2, ⟨k, pre_get m h3, pre_get m h4⟩, by rw [hh]; exact h5, fun i d q => ?_⟩
    obtain ⟨v, g1, g2⟩ := h6 i d q
    exact ⟨v, g1, g2.mono e m⟩
  | aux b =>
    obtain ⟨h1, o, h2, h3⟩ := h
    exact ⟨hf, o, by rw [hh]; exact h2, h3⟩
  | ins c fs =>
    obtain ⟨h1, C, dx, vs, h2, h3, h4⟩ := h
    exact ⟨hf, C, dx, vs, h2, by rw [hh]; exact h3, h4.mono e m⟩
theorem SoOk.some {a : Addr} {so : SO} (h : SoOk K F H M a so) : F a = none ∧ ∃ o, H a = some o := by
  cases so with
  | row xs =>
    obtain ⟨h1, vs, h2, h3⟩ := h
    exact ⟨h1, _, h2⟩
  | obj c fs =>
    obtain ⟨h1, C, dx, vs, h2, h3, h5, h6⟩ := h
    rcases h5 with ⟨_, _, h5⟩ | ⟨_, h5⟩
    · exact ⟨h1, _, h5⟩
    · exact ⟨h1, _, h5⟩
  | aux b =>
    obtain ⟨h1, o, h2, h3⟩ := h
    exact ⟨h1, o, h2⟩
  | ins c fs =>
    obtain ⟨h1, C, dx, vs, h2, h3, h4⟩ := h
    exact ⟨h1, _, h3⟩
theorem Stos.some (h : Stos K F H M s.sto) {a : Addr} (ha : a ∈ M) : F a = none ∧ ∃ o, H a = some o := by
  obtain ⟨k, hk⟩ := List.mem_iff_getElem?.mp ha
  have hl : k < s.sto.length := by rw [← h.len]; exact (List.getElem?_eq_some_iff.mp hk).1
  exact (h.ok k s.sto[k] a (by simp [hl]) hk).some
/-- a new object, known to both -/
theorem Rl.new (r : Rl K F H M σ s) {p : Addr} {o : HO} (h : H p = none) : Rl K (upd F p o) (upd H p o) M σ s := by
  have hf := r.same.free h
  refine ⟨same_upd r.same h, r.len, fun i o' e => ?_, r.inj, ⟨r.sto.len, r.sto.nd, fun k so a e1 e2 => ?_⟩⟩
  · have q := r.slot i o' e
    cases o' with
    | none => trivial
    | some sv =>
      cases sv with
      | val d =>
        obtain ⟨x, e1, e2⟩ := q
        exact ⟨x, e1, e2.mono (same_new hf) (List.prefix_refl _)⟩
      | own xs =>
        obtain ⟨q, vs, e1, e2, e3, e4, e5⟩ := q
        have ne : q ≠ p := ne_of_none e3 h
        exact ⟨q, vs, e1, by rw [upd_ne ne]; exact e2, by rw [upd_ne ne]; exact e3, e4.mono (same_new hf) (List.prefix_refl _), e5⟩
  · have z := r.sto.ok k so a e1 e2
    obtain ⟨z1, o2, z2⟩ := z.some
    have ne : a ≠ p := ne_of_none z2 h
    exact z.mono (same_new hf) (List.prefix_refl _) (by rw [upd_ne ne]; exact z1) (by rw [upd_ne ne])
theorem Ext.new (r : Rl K F H M σ s) {p : Addr} {o : HO} (h : H p = none) : Ext O F H M (upd F p o) (upd H p o) M O where
  fs := same_new (r.same.free h)
  keep := fun q u e _ _ => by rw [upd_ne (ne_of_none e h)]; exact e
  dom := fun q u e => ⟨u, by rw [upd_ne (ne_of_none e h)]; exact e⟩
  newF := fun q u e => by
    by_cases z : q = p
    · subst z; exact .inr (.inl h)
    · rw [upd_ne z] at e; exact .inl e
  pre := List.prefix_refl _
  newM := fun _ h => .inl h
  newO := fun _ h => .inl h
/-- a new object, the heap's alone -/
theorem Rl.newH (r : Rl K F H M σ s) {p : Addr} {o : HO} (h : H p = none) : Rl K F (upd H p o) M σ s := by
  refine ⟨same_mut r.same (r.same.free h), r.len, fun i o' e => ?_, r.inj, ⟨r.sto.len, r.sto.nd, fun k so a e1 e2 => ?_⟩⟩
  · have q := r.slot i o' e
    cases o' with
    | none => trivial
    | some sv =>
      cases sv with
      | val d => exact q
      | own xs =>
        obtain ⟨q, vs, e1, e2, e3, e4, e5⟩ := q
        exact ⟨q, vs, e1, e2, by rw [upd_ne (ne_of_none e3 h)]; exact e3, e4, e5⟩
  · have z := r.sto.ok k so a e1 e2
    obtain ⟨z1, o2, z2⟩ := z.some
    exact z.mono (Same.refl _) (List.prefix_refl _) z1 (by rw [upd_ne (ne_of_none z2 h)])
theorem Ext.newH (r : Rl K F H M σ s) {p : Addr} {o : HO} (h : H p = none) : Ext O F H M F (upd H p o) M O where
  fs := Same.refl _
  keep := fun q u e _ _ => by rw [upd_ne (ne_of_none e h)]; exact e
  dom := fun q u e => ⟨u, by rw [upd_ne (ne_of_none e h)]; exact e⟩
  newF := fun q u e => .inl e
  pre := List.prefix_refl _
  newM := fun _ h => .inl h
  newO := fun _ h => .inl h
/-- what the heap alone knew is known to both from now on -/
theorem Rl.frz (r : Rl K F H M σ s) {p : Addr} {o : HO} (h : H p = some o) (hf : F p = none) (hm : p ∉ M) (ho : ¬ Own σ s.loc p) : Rl K (upd F p o) H M σ s := by
  refine ⟨fun b u q => ?_, r.len, fun i o' e => ?_, r.inj, ⟨r.sto.len, r.sto.nd, fun k so a e1 e2 => ?_⟩⟩
  · by_cases z : b = p
    · subst z; rw [upd_same] at q; rw [← q]; exact h
    · rw [upd_ne z] at q; exact r.same b u q
  · have q := r.slot i o' e
    cases o' with
    | none => trivial
    | some sv =>
      cases sv with
      | val d =>
        obtain ⟨x, e1, e2⟩ := q
        exact ⟨x, e1, e2.mono (same_new hf) (List.prefix_refl _)⟩
      | own xs =>
        obtain ⟨q, vs, e1, e2, e3, e4, e5⟩ := q
        have ne : q ≠ p := fun z => ho ⟨i, xs, e, by rw [e1, z]⟩
        exact ⟨q, vs, e1, by rw [upd_ne ne]; exact e2, e3, e4.mono (same_new hf) (List.prefix_refl _), e5⟩
  · have z := r.sto.ok k so a e1 e2
    have ne : a ≠ p := fun z => hm (by rw [← z]; exact List.mem_of_getElem? e2)
    exact z.mono (same_new hf) (List.prefix_refl _) (by rw [upd_ne ne]; exact z.some.1) rfl
end
end PI

set_option Elab.async false
set_option linter.all false
set_option autoImplicit false
set_option maxRecDepth 100000
set_option maxHeartbeats 4000000
/-! Readings by the pure interpreter, and the expressions that keep them. -/
namespace PI
open PySem L2

/-- what is fixed through a law: the written part, how an exception lies -/
structure Ct where
  K : PySem.W.Frag
  xr : Str → List PV → Hp → Hp → List Addr → Value → Option Addr → Prop

def DnR (K : PySem.W.Frag) (F H : Hp) (M : List Addr) (H0 : Hp) (v : V) : SV → Prop
  | .val d => Dn K F M v d
  | .own xs => ∃ p vs, v = .ref p ∧ F p = none ∧ H p = some (.lst vs) ∧ Dns K F M vs xs ∧ p ∉ M ∧ H0 p = none
def DnB (K : PySem.W.Frag) (σ : L2.St) (F : Hp) (M : List Addr) (v : V) : BV → Prop
  | .v d => Dn K F M v d
  | .s i => σ[i]? = some (some v)
/-- an operand: known to both, or a list that a name alone holds -/
def DnO (K : PySem.W.Frag) (F H : Hp) (M : List Addr) (v : V) (d : PV) : Prop :=
  Dn K F M v d ∨ ∃ p vs ds, v = .ref p ∧ d = .lst ds ∧ H p = some (.lst vs) ∧ Dns K F M vs ds ∧ F p = none

/-- .. while the slots stay as they are -/
structure ExtE (O : Addr → Prop) (F H : Hp) (M : List Addr) (F' H' : Hp) (M' : List Addr) (O' : Addr → Prop) : Prop where
  x : Ext O F H M F' H' M' O'
  shr : ∀ p, O' p → O p
theorem ExtE.refl {O : Addr → Prop} {F H : Hp} {M : List Addr} : ExtE O F H M F H M O := ⟨Ext.refl, fun _ h => h⟩
theorem ExtE.trans {O O' O2 : Addr → Prop} {F H F' H' F2 H2 : Hp} {M M' M2 : List Addr} (x : ExtE O F H M F' H' M' O') (y : ExtE O' F' H' M' F2 H2 M2 O2) : ExtE O F H M F2 H2 M2 O2 := ⟨x.x.trans y.x, fun p h => x.shr p (y.shr p h)⟩

def Pst (ct : Ct) (W : WX) {α β : Type} (Dr : Hp → Hp → List Addr → Hp → β → α → Prop) (σ : L2.St) (F H : Hp) (M : List Addr) (s : Ps) (Q : β → Hp → Prop) : R α → Prop
  | .ok x s' => ∀ b F' H' M', ExtE (Own σ s.loc) F H M F' H' M' (Own σ s'.loc) → Rl ct.K F' H' M' σ s' → Dr F' H' M' H b x → Q b H'
  | .exc c fs s' => ∀ cls d F' H' M', ExtE (Own σ s.loc) F H M F' H' M' (Own σ s'.loc) → Rl ct.K F' H' M' σ s' → ct.xr c fs F' H' M' cls d → W cls d σ H'
  | .stuck => False
abbrev DrV (K : PySem.W.Frag) : Hp → Hp → List Addr → Hp → V → SV → Prop := DnR K
abbrev DrB (K : PySem.W.Frag) (σ : L2.St) : Hp → Hp → List Addr → Hp → V → BV → Prop := fun F _ M _ v x => DnB K σ F M v x
abbrev DrT : Hp → Hp → List Addr → Hp → Bool → Bool → Prop := fun _ _ _ _ b x => b = x
def tV (ct : Ct) (W : WX) (f : Ps → R SV) : TE := fun σ H Q => ∃ F M s, Rl ct.K F H M σ s ∧ Pst ct W (DrV ct.K) σ F H M s Q (f s)
def tBo (ct : Ct) (W : WX) (f : Ps → R BV) : TE := fun σ H Q => ∃ F M s, Rl ct.K F H M σ s ∧ Pst ct W (DrB ct.K σ) σ F H M s Q (f s)
def tTs (ct : Ct) (W : WX) (f : Ps → R Bool) : TT := fun σ H Q => ∃ F M s, Rl ct.K F H M σ s ∧ Pst ct W DrT σ F H M s Q (f s)

theorem PE.imp {X : Cx} {e : Expr} {t t' : TE} (h : PE X e t) (i : ∀ σ H Q, t' σ H Q → t σ H Q) : PE X e t' := ⟨fun pins s σ H Q I q => h.run pins s σ H Q I (i σ H Q q)⟩
theorem PT.imp {X : Cx} {e : Expr} {t t' : TT} (h : PT X e t) (i : ∀ σ H Q, t' σ H Q → t σ H Q) : PT X e t' := ⟨fun pins s σ H Q I q => h.run pins s σ H Q I (i σ H Q q)⟩

section
variable {ct : Ct} {W : WX} {α β γ δ : Type} {Dr : Hp → Hp → List Addr → Hp → β → α → Prop} {Dr' : Hp → Hp → List Addr → Hp → δ → γ → Prop}
variable {σ : L2.St} {F F1 H H1 : Hp} {M M1 : List Addr} {s s1 : Ps} {Q : β → Hp → Prop}
/-- from a later state on -/
theorem Pst.at {r : R α} (x : ExtE (Own σ s.loc) F H M F1 H1 M1 (Own σ s1.loc)) (hD : ∀ F' H' M' b a, Dr F' H' M' H1 b a → Dr F' H' M' H b a) (p : Pst ct W Dr σ F H M s Q r) : Pst ct W Dr σ F1 H1 M1 s1 Q r := by
  cases r with
  | ok a s' => exact fun b F' H' M' e rl d => p b F' H' M' (x.trans e) rl (hD _ _ _ _ _ d)
  | exc c fs s' => exact fun cls d F' H' M' e rl z => p cls d F' H' M' (x.trans e) rl z
  | stuck => exact p
theorem Pst.bind {f : R γ} {g : γ → Ps → R α} (hD : ∀ H1 F' H' M' b a, (∀ p, H1 p = none → H p = none) → Dr F' H' M' H1 b a → Dr F' H' M' H b a) (p : Pst ct W Dr σ F H M s Q (f.bind g)) :
    Pst ct W Dr' σ F H M s (fun b H1 => ∃ x s1 F1 M1, ExtE (Own σ s.loc) F H M F1 H1 M1 (Own σ s1.loc) ∧ Rl ct.K F1 H1 M1 σ s1 ∧ Dr' F1 H1 M1 H b x ∧ Pst ct W Dr σ F1 H1 M1 s1 Q (g x s1)) f := by
  cases f with
  | ok a s' => exact fun b F' H' M' e rl d => ⟨a, s', F', M', e, rl, d, p.at e (fun _ _ _ _ _ => hD _ _ _ _ _ _ fun _ => e.x.none_back)⟩
  | exc c fs s' => exact p
  | stuck => exact p
theorem hdV (K : PySem.W.Frag) (H : Hp) : ∀ H1 F' H' M' b a, (∀ p, H1 p = none → H p = none) → DrV K F' H' M' H1 b a → DrV K F' H' M' H b a := fun H1 F' H' M' b a h d => by
  cases a with
  | val d' => exact d
  | own xs =>
    obtain ⟨p, vs, e1, e2, e3, e4, e5, e6⟩ := d
    exact ⟨p, vs, e1, e2, e3, e4, e5, h _ e6⟩
theorem hdB (K : PySem.W.Frag) (H : Hp) : ∀ H1 F' H' M' b a, (∀ p, H1 p = none → H p = none) → DrB K σ F' H' M' H1 b a → DrB K σ F' H' M' H b a := fun _ _ _ _ _ _ _ d => d
theorem hdT (H : Hp) : ∀ H1 F' H' M' b a, (∀ p, H1 p = none → H p = none) → DrT F' H' M' H1 b a → DrT F' H' M' H b a := fun _ _ _ _ _ _ _ d => d
theorem Pst.weak {r : R α} {Q' : β → Hp → Prop} (p : Pst ct W Dr σ F H M s Q r) (k : ∀ b H', Q b H' → Q' b H') : Pst ct W Dr σ F H M s Q' r := by
  cases r with
  | ok a s' => exact fun b F' H' M' x rl d => k _ _ (p b F' H' M' x rl d)
  | exc c fs s' => exact p
  | stuck => exact p
/-- the end -/
theorem Pst.fin {a : α} {b : β} (rl : Rl ct.K F H M σ s) (p : Pst ct W Dr σ F H M s Q (.ok a s)) (d : Dr F H M H b a) : Q b H := p b F H M ExtE.refl rl d
theorem Pst.lift {o : Option α} {Q : β → Hp → Prop} (p : Pst ct W Dr σ F H M s Q (liftO o s)) : ∃ a, o = some a ∧ Pst ct W Dr σ F H M s Q (.ok a s) := by
  cases o with
  | none => exact p.elim
  | some a => exact ⟨a, rfl, p⟩
end

structure Snd (ct : Ct) (X : Cx) (W : WX) (x : Expr) (d : Den) : Prop where
  v : PE X x (tV ct W d.v)
  b : PE X x (tBo ct W (d.b true))
  t : PT X x (tTs ct W d.t)

section
variable {ct : Ct} {X : Cx} {W : WX} {x y : Expr} {σ : L2.St} {F H : Hp} {M : List Addr} {s : Ps}

/-- a new list that is now known to both: seen from the state ahead of its making -/
theorem fz_ext {H0 F0 : Hp} {M0 : List Addr} {s0 : Ps} (rl0 : Rl ct.K F0 H0 M0 σ s0) (e : ExtE (Own σ s0.loc) F0 H0 M0 F H M (Own σ s.loc)) (rl : Rl ct.K F H M σ s) {v : V} {a : SV} (d : DnR ct.K F H M H0 v a) :
    ∃ F', ExtE (Own σ s0.loc) F0 H0 M0 F' H M (Own σ s.loc) ∧ Rl ct.K F' H M σ s ∧ Dn ct.K F' M v a.pv := by
  cases a with
  | val d' => exact ⟨F, e, rl, d⟩
  | own xs =>
    obtain ⟨p, vs, rfl, e2, e3, e4, e5, e6⟩ := d
    have no : ¬ Own σ s.loc p := fun z => by
      obtain ⟨⟨vs', q⟩, _⟩ := rl0.own_some (e.shr p z)
      rw [e6] at q; cases q
    refine ⟨upd F p (.lst vs), ⟨⟨e.x.fs.trans (same_new e2), e.x.keep, e.x.dom, fun q o hq => ?_, e.x.pre, e.x.newM, e.x.newO⟩, e.shr⟩, rl.frz e3 e2 e5 no, .lst upd_same (e4.mono (same_new e2) (List.prefix_refl _))⟩
    by_cases z : q = p
    · subst z; exact .inr (.inl e6)
    · rw [upd_ne z] at hq; exact e.x.newF q o hq

theorem PE.toB {f : Ps → R SV} (h : PE X x (tV ct W f)) : PE X x (tBo ct W fun s => (f s).bind fun x s1 => .ok (.v x.pv) s1) :=
  PE.imp h fun σ H Q ⟨F, M, s, rl, p⟩ => ⟨F, M, s, rl, by
    have p' : Pst ct W (DrB ct.K σ) σ F H M s Q ((f s).bind fun x s1 => .ok (.v x.pv) s1) := p
    cases e : f s with
    | stuck => rw [e] at p'; exact p'
    | exc c fs s' => rw [e] at p'; exact p'
    | ok a s' =>
      rw [e] at p'
      intro v F' H' M' ex rl' d
      obtain ⟨F2, e2, r2, d2⟩ := fz_ext rl ex rl' d
      exact p' v F2 H' M' e2 r2 d2⟩
theorem tru_of {v : V} {d : PV} {k : Bool} (h : Dn ct.K F M v d) (e : Same F H) (t : truP d = some k) : TruV ct.K v H k := by
  cases h with
  | non => exact (Option.some.inj t).symm
  | bl b => exact (Option.some.inj t).symm
  | int i => exact (Option.some.inj t).symm
  | str z => cases t
  | tup q r =>
    refine .inr (.inl ⟨_, sqT_mono e q, ?_⟩)
    have z := r.length
    rw [← Option.some.inj t]
    cases r <;> rfl
  | lst q r =>
    refine .inl ⟨_, SqL.of (e _ _ q), ?_⟩
    rw [← Option.some.inj t]
    cases r <;> rfl
  | scr q => cases t
  | ref q => cases t
  | rcd _ _ _ _ _ => cases t
theorem tru_ofO {v : V} {d : PV} {k : Bool} (h : DnO ct.K F H M v d) (e : Same F H) (t : truP d = some k) : TruV ct.K v H k := by
  rcases h with h | ⟨p, vs, ds, rfl, rfl, h1, h2, _⟩
  · exact tru_of h e t
  · refine .inl ⟨_, SqL.of h1, ?_⟩
    rw [← Option.some.inj t]
    cases h2 <;> rfl
/-- an expression by its value alone -/
theorem Snd.ofV {f : Ps → R SV} (hK : X.K = ct.K) (h : PE X x (tV ct W f)) (he : ∀ whole, isTrue x X.env whole = (do let v ← whole; standAt x.pos; holding [v] (truthy v))) : Snd ct X W x (Den.ofV f) where
  v := h
  b := PE.toB h
  t := by
    refine PT.imp (pt_truth (PE.toB h) he) fun σ H Q ⟨F, M, s, rl, p⟩ => ⟨F, M, s, rl, ?_⟩
    show Pst ct W (DrB ct.K σ) σ F H M s _ ((f s).bind fun x s1 => .ok (.v x.pv) s1)
    have p' : Pst ct W DrT σ F H M s Q ((f s).bind fun x s1 => liftO (truP x.pv) s1) := p
    cases e : f s with
    | stuck => rw [e] at p'; exact p'
    | exc c fs s' => rw [e] at p'; exact p'
    | ok a s' =>
      rw [e] at p'
      intro v F' H' M' ex rl' d
      obtain ⟨k, hk, p2⟩ := Pst.lift (Pst.at (r := liftO (truP a.pv) s') ex (fun _ _ _ _ _ z => z) p')
      exact ⟨k, by rw [hK]; exact tru_of d rl'.same hk, Pst.fin rl' p2 rfl⟩
end
end PI

set_option Elab.async false
set_option linter.all false
set_option autoImplicit false
set_option maxRecDepth 100000
set_option maxHeartbeats 4000000
namespace PI
open PySem L2
section
variable {ct : Ct} {X : Cx} {W : WX} {x y z : Expr} {pos : Pos} {da db dc : Den}
variable {α β : Type} {Dr : Hp → Hp → List Addr → Hp → β → α → Prop}

theorem DnB.mono {K : PySem.W.Frag} {σ : L2.St} {F F' : Hp} {M M' : List Addr} {v : V} {b : BV} (h : DnB K σ F M v b) (e : Same F F') (m : M <+: M') : DnB K σ F' M' v b := by
  cases b with
  | v d => exact Dn.mono e m h
  | s i => exact h
theorem derefO {σ : L2.St} {F H : Hp} {M : List Addr} {s : Ps} {v : V} {b : BV} {d : PV} (rl : Rl ct.K F H M σ s) (h : DnB ct.K σ F M v b) (e : deref s b = some d) : DnO ct.K F H M v d := by
  cases b with
  | v d' =>
    cases e
    exact .inl h
  | s i =>
    have h : σ[i]? = some (some v) := h
    have e : (match s.loc[i]? with
      | some (some (.own xs)) => some (PV.lst xs)
      | some (some (.val d)) => some d
      | _ => none) = some d := e
    cases q : s.loc[i]? with
    | none => rw [q] at e; cases e
    | some o =>
      cases o with
      | none => rw [q] at e; cases e
      | some sv =>
        have z := rl.slot i _ q
        cases sv with
        | val d' =>
          rw [q] at e
          obtain ⟨w, e1, e2⟩ := z
          rw [h] at e1
          cases e1
          cases e
          exact .inl e2
        | own xs =>
          rw [q] at e
          obtain ⟨p, vs, e1, e2, e3, e4, e5⟩ := z
          rw [h] at e1
          cases e1
          cases e
          exact .inr ⟨p, vs, xs, rfl, rfl, e3, e4, e2⟩

theorem opnd1_rd {σ : L2.St} {H : Hp} {Q : β → Hp → Prop} {f : PV → Ps → R α} {Kt : V → Hp → Prop}
    (hD : ∀ H H1 F' H' M' b a, (∀ p, H1 p = none → H p = none) → Dr F' H' M' H1 b a → Dr F' H' M' H b a)
    (h : ∃ F M s, Rl ct.K F H M σ s ∧ Pst ct W Dr σ F H M s Q (opnd1 da f s))
    (hk : ∀ v F H M s dx, Rl ct.K F H M σ s → DnO ct.K F H M v dx → Pst ct W Dr σ F H M s Q (f dx s) → Kt v H) :
    tBo ct W (da.b true) σ H Kt := by
  obtain ⟨F, M, s, rl, p⟩ := h
  refine ⟨F, M, s, rl, ?_⟩
  have p1 := Pst.bind (f := da.b true s) (Dr' := DrB ct.K σ) (hD H) p
  cases e : da.b true s with
  | stuck => rw [e] at p1; exact p1
  | exc c fs s' => rw [e] at p1; exact p1
  | ok a s' =>
    rw [e] at p1
    intro v F' H' M' ex rl' d
    obtain ⟨b1, s1, F1, M1, ex1, rl1, d1, p2⟩ := p1 v F' H' M' ex rl' d
    cases q : deref s1 b1 with
    | none => rw [q] at p2; exact p2.elim
    | some dx =>
      rw [q] at p2
      exact hk v F1 H' M1 s1 dx rl1 (derefO rl1 d1 q) p2
theorem opnd2_rd {σ : L2.St} {H : Hp} {Q : β → Hp → Prop} {f : PV → PV → Ps → R α} {Kt : V → V → Hp → Prop}
    (hD : ∀ H H1 F' H' M' b a, (∀ p, H1 p = none → H p = none) → Dr F' H' M' H1 b a → Dr F' H' M' H b a)
    (h : ∃ F M s, Rl ct.K F H M σ s ∧ Pst ct W Dr σ F H M s Q (opnd2 da db f s))
    (hk : ∀ v w F H M s dx dy, Rl ct.K F H M σ s → DnO ct.K F H M v dx → DnO ct.K F H M w dy → Pst ct W Dr σ F H M s Q (f dx dy s) → Kt v w H) :
    tBo ct W (da.b true) σ H fun v H1 => tBo ct W (db.b true) σ H1 fun w H2 => Kt v w H2 := by
  obtain ⟨F, M, s, rl, p⟩ := h
  refine ⟨F, M, s, rl, ?_⟩
  have p1 := Pst.bind (f := da.b true s) (Dr' := DrB ct.K σ) (hD H) p
  cases e : da.b true s with
  | stuck => rw [e] at p1; exact p1
  | exc c fs s' => rw [e] at p1; exact p1
  | ok a s' =>
    rw [e] at p1
    intro v F' H' M' ex rl' d
    obtain ⟨b1, s1, F1, M1, ex1, rl1, d1, p2⟩ := p1 v F' H' M' ex rl' d
    refine ⟨F1, M1, s1, rl1, ?_⟩
    have p3 := Pst.bind (f := db.b true s1) (Dr' := DrB ct.K σ) (hD H') p2
    cases e2 : db.b true s1 with
    | stuck => rw [e2] at p3; exact p3
    | exc c fs s' => rw [e2] at p3; exact p3
    | ok a2 s2' =>
      rw [e2] at p3
      intro w F2' H2' M2' ex2 rl2' dd
      obtain ⟨b2, s2, F2, M2, ex3, rl3, d3, p4⟩ := p3 w F2' H2' M2' ex2 rl2' dd
      cases q1 : deref s2 b1 with
      | none => rw [q1] at p4; exact p4.elim
      | some dx =>
        cases q2 : deref s2 b2 with
        | none => rw [q1, q2] at p4; exact p4.elim
        | some dy =>
          rw [q1, q2] at p4
          exact hk v w F2 H2' M2 s2 dx dy rl3 (derefO rl3 (d1.mono ex3.x.fs ex3.x.pre) q1) (derefO rl3 d3 q2) p4
theorem sl2_rd {dc : Den} {σ : L2.St} {H : Hp} {Q : VK} {Kt : V → Int → V → Hp → Prop}
    (h : ∃ F M s, Rl ct.K F H M σ s ∧ Pst ct W (DrV ct.K) σ F H M s Q ((da.b true s).bind fun x s1 => (db.v s1).bind (sl2K x dc)))
    (hk : ∀ v i u F H M s dx dz, Rl ct.K F H M σ s → DnO ct.K F H M v dx → DnO ct.K F H M u dz → Pst ct W (DrV ct.K) σ F H M s Q (liftO (shi2P i dx dz) s) → Kt v i u H) :
    tBo ct W (da.b true) σ H fun v H1 => tV ct W db.v σ H1 fun w H2 => ∃ i, w = .int i ∧ tBo ct W (dc.b true) σ H2 fun u H3 => Kt v i u H3 := by
  have hD := fun H => hdV ct.K H
  obtain ⟨F, M, s, rl, p⟩ := h
  refine ⟨F, M, s, rl, ?_⟩
  have p1 := Pst.bind (f := da.b true s) (Dr' := DrB ct.K σ) (hD H) p
  cases e : da.b true s with
  | stuck => rw [e] at p1; exact p1
  | exc c fs s' => rw [e] at p1; exact p1
  | ok a s' =>
    rw [e] at p1
    intro v F' H' M' ex rl' d
    obtain ⟨b1, s1, F1, M1, ex1, rl1, d1, p2⟩ := p1 v F' H' M' ex rl' d
    refine ⟨F1, M1, s1, rl1, ?_⟩
    have p3 := Pst.bind (f := db.v s1) (Dr' := DrV ct.K) (hD H') p2
    cases e2 : db.v s1 with
    | stuck => rw [e2] at p3; exact p3
    | exc c fs s' => rw [e2] at p3; exact p3
    | ok a2 s2' =>
      rw [e2] at p3
      intro w F2' H2' M2' ex2 rl2' dd
      obtain ⟨b2, s2, F2, M2, ex3, rl3, d3, p4⟩ := p3 w F2' H2' M2' ex2 rl2' dd
      unfold sl2K at p4
      split at p4
      · rename_i i
        cases d3
        refine ⟨i, rfl, F2, M2, s2, rl3, ?_⟩
        have p5 := Pst.bind (f := dc.b true s2) (Dr' := DrB ct.K σ) (hD H2') p4
        cases e3 : dc.b true s2 with
        | stuck => rw [e3] at p5; exact p5
        | exc c fs s' => rw [e3] at p5; exact p5
        | ok a3 s3' =>
          rw [e3] at p5
          intro u F3' H3' M3' ex4 rl4' de
          obtain ⟨b3, s3, F3, M3, ex5, rl5, d5, p6⟩ := p5 u F3' H3' M3' ex4 rl4' de
          cases q1 : deref s3 b1 with
          | none => rw [q1] at p6; exact p6.elim
          | some dx =>
            cases q3 : deref s3 b3 with
            | none => rw [q1, q3] at p6; exact p6.elim
            | some dz =>
              rw [q1, q3] at p6
              exact hk v i u F3 H3' M3 s3 dx dz rl5 (derefO rl5 ((d1.mono ex3.x.fs ex3.x.pre).mono ex5.x.fs ex5.x.pre) q1) (derefO rl5 d5 q3) p6
      · exact p4.elim

theorem sls_rd {dc : Den} {σ : L2.St} {H : Hp} {Q : VK} {Kt : V → Int → V → Hp → Prop}
    (h : ∃ F M s, Rl ct.K F H M σ s ∧ Pst ct W (DrV ct.K) σ F H M s Q ((da.b true s).bind fun x s1 => (db.v s1).bind (slsK x dc)))
    (hk : ∀ v i u F H M s dx dz, Rl ct.K F H M σ s → DnO ct.K F H M v dx → DnO ct.K F H M u dz → Pst ct W (DrV ct.K) σ F H M s Q (liftO (slstP i dx dz) s) → Kt v i u H) :
    tBo ct W (da.b true) σ H fun v H1 => tV ct W db.v σ H1 fun w H2 => ∃ i, w = .int i ∧ tBo ct W (dc.b true) σ H2 fun u H3 => Kt v i u H3 := by
  have hD := fun H => hdV ct.K H
  obtain ⟨F, M, s, rl, p⟩ := h
  refine ⟨F, M, s, rl, ?_⟩
  have p1 := Pst.bind (f := da.b true s) (Dr' := DrB ct.K σ) (hD H) p
  cases e : da.b true s with
  | stuck => rw [e] at p1; exact p1
  | exc c fs s' => rw [e] at p1; exact p1
  | ok a s' =>
    rw [e] at p1
    intro v F' H' M' ex rl' d
    obtain ⟨b1, s1, F1, M1, ex1, rl1, d1, p2⟩ := p1 v F' H' M' ex rl' d
    refine ⟨F1, M1, s1, rl1, ?_⟩
    have p3 := Pst.bind (f := db.v s1) (Dr' := DrV ct.K) (hD H') p2
    cases e2 : db.v s1 with
    | stuck => rw [e2] at p3; exact p3
    | exc c fs s' => rw [e2] at p3; exact p3
    | ok a2 s2' =>
      rw [e2] at p3
      intro w F2' H2' M2' ex2 rl2' dd
      obtain ⟨b2, s2, F2, M2, ex3, rl3, d3, p4⟩ := p3 w F2' H2' M2' ex2 rl2' dd
      unfold slsK at p4
      split at p4
      · rename_i i
        cases d3
        refine ⟨i, rfl, F2, M2, s2, rl3, ?_⟩
        have p5 := Pst.bind (f := dc.b true s2) (Dr' := DrB ct.K σ) (hD H2') p4
        cases e3 : dc.b true s2 with
        | stuck => rw [e3] at p5; exact p5
        | exc c fs s' => rw [e3] at p5; exact p5
        | ok a3 s3' =>
          rw [e3] at p5
          intro u F3' H3' M3' ex4 rl4' de
          obtain ⟨b3, s3, F3, M3, ex5, rl5, d5, p6⟩ := p5 u F3' H3' M3' ex4 rl4' de
          cases q1 : deref s3 b1 with
          | none => rw [q1] at p6; exact p6.elim
          | some dx =>
            cases q3 : deref s3 b3 with
            | none => rw [q1, q3] at p6; exact p6.elim
            | some dz =>
              rw [q1, q3] at p6
              exact hk v i u F3 H3' M3 s3 dx dz rl5 (derefO rl5 ((d1.mono ex3.x.fs ex3.x.pre).mono ex5.x.fs ex5.x.pre) q1) (derefO rl5 d5 q3) p6
      · exact p4.elim

/-! ### names and constants -/
theorem own_set_val {σ : L2.St} {l : Loc} {i : Nat} {d : PV} {p : Addr} (h : Own σ (l.set i (some (.val d))) p) : Own σ l p := by
  obtain ⟨j, xs, h1, h2⟩ := h
  refine ⟨j, xs, ?_, h2⟩
  by_cases hj : i = j
  · subst hj
    by_cases hl : i < l.length
    · rw [List.getElem?_set_self hl] at h1; cases h1
    · rw [List.getElem?_eq_none (by simpa using hl)] at h1; cases h1
  · rw [List.getElem?_set_ne hj] at h1; exact h1
theorem Rl.frzSlot {σ : L2.St} {F H : Hp} {M : List Addr} {s : Ps} (rl : Rl ct.K F H M σ s) {i : Nat} {xs : List PV} (h : s.loc[i]? = some (some (.own xs))) :
    ∃ p F', σ[i]? = some (some (.ref p)) ∧ ExtE (Own σ s.loc) F H M F' H M (Own σ (s.loc.set i (some (.val (.lst xs))))) ∧ Rl ct.K F' H M σ { s with loc := s.loc.set i (some (.val (.lst xs))) } ∧ Dn ct.K F' M (.ref p) (.lst xs) := by
  obtain ⟨p, vs, e1, e2, e3, e4, e5⟩ : ∃ p vs, σ[i]? = some (some (V.ref p)) ∧ F p = none ∧ H p = some (.lst vs) ∧ Dns ct.K F M vs xs ∧ p ∉ M := rl.slot i _ h
  have hi : i < s.loc.length := (List.getElem?_eq_some_iff.mp h).1
  have hown : Own σ s.loc p := ⟨i, xs, h, e1⟩
  have sm : Same F (upd F p (.lst vs)) := same_new e2
  have dn : Dn ct.K (upd F p (.lst vs)) M (.ref p) (.lst xs) := .lst upd_same (e4.mono sm (List.prefix_refl _))
  refine ⟨p, upd F p (.lst vs), e1, ⟨⟨sm, fun _ _ q _ _ => q, fun _ o q => ⟨o, q⟩, fun q o e => ?_, List.prefix_refl _, fun _ q => .inl q, fun q z => .inl (own_set_val z)⟩, fun q z => own_set_val z⟩, ⟨fun b u q => ?_, by simpa using rl.len, fun j o e => ?_, fun j k ys zs q a1 a2 a3 a4 => ?_, ⟨rl.sto.len, rl.sto.nd, fun k so a q1 q2 => ?_⟩⟩, dn⟩
  · by_cases z : q = p
    · subst z; exact .inr (.inr hown)
    · rw [upd_ne z] at e; exact .inl e
  · by_cases z : b = p
    · subst z; rw [upd_same] at q; rw [← q]; exact e3
    · rw [upd_ne z] at q; exact rl.same b u q
  · have e : (s.loc.set i (some (.val (.lst xs))))[j]? = some o := e
    by_cases hj : i = j
    · subst hj
      rw [List.getElem?_set_self hi] at e
      cases e
      exact ⟨_, e1, dn⟩
    · rw [List.getElem?_set_ne hj] at e
      have q := rl.slot j o e
      cases o with
      | none => trivial
      | some sv =>
        cases sv with
        | val d =>
          obtain ⟨w, w1, w2⟩ := q
          exact ⟨w, w1, w2.mono sm (List.prefix_refl _)⟩
        | own ys =>
          obtain ⟨q, us, w1, w2, w3, w4, w5⟩ := q
          have ne : q ≠ p := fun z => hj (rl.inj i j xs ys p h e e1 (by rw [w1, z]))
          exact ⟨q, us, w1, by rw [upd_ne ne]; exact w2, w3, w4.mono sm (List.prefix_refl _), w5⟩
  · have back : ∀ {j : Nat} {ys : List PV}, (s.loc.set i (some (.val (.lst xs))))[j]? = some (some (.own ys)) → s.loc[j]? = some (some (.own ys)) := fun {j ys} a => by
      by_cases hj : i = j
      · subst hj; rw [List.getElem?_set_self hi] at a; cases a
      · rw [List.getElem?_set_ne hj] at a; exact a
    exact rl.inj j k ys zs q (back a1) (back a2) a3 a4
  · have z := rl.sto.ok k so a q1 q2
    have ne : a ≠ p := fun z => e5 (by rw [← z]; exact List.mem_of_getElem? q2)
    exact z.mono sm (List.prefix_refl _) (by rw [upd_ne ne]; exact z.some.1) rfl

theorem snd_var {i : Nat} (hK : X.K = ct.K) (h : PE X x (tVar i)) (he : ∀ whole, isTrue x X.env whole = (do let v ← whole; standAt x.pos; holding [v] (truthy v))) : Snd ct X W x (dVar i) where
  v := PE.imp h fun σ H Q ⟨F, M, s, rl, p⟩ => by
    have p : Pst ct W (DrV ct.K) σ F H M s Q (match s.loc[i]? with
      | some (some (.val d)) => .ok (.val d) s
      | some (some (.own xs)) => .ok (.val (.lst xs)) { s with loc := s.loc.set i (some (.val (.lst xs))) }
      | _ => .stuck) := p
    cases q : s.loc[i]? with
    | none => rw [q] at p; exact p.elim
    | some o =>
      cases o with
      | none => rw [q] at p; exact p.elim
      | some sv =>
        have z := rl.slot i _ q
        cases sv with
        | val d =>
          rw [q] at p
          obtain ⟨w, e1, e2⟩ := z
          exact ⟨w, e1, Pst.fin rl p e2⟩
        | own xs =>
          rw [q] at p
          obtain ⟨pp, F', e1, ex, rl', dn⟩ := rl.frzSlot q
          exact ⟨_, e1, p _ F' H M ex rl' dn⟩
  b := PE.imp h fun σ H Q ⟨F, M, s, rl, p⟩ => by
    have p : Pst ct W (DrB ct.K σ) σ F H M s Q (match s.loc[i]? with
      | some (some (.val d)) => .ok (.v d) s
      | some (some (.own _)) => .ok (.s i) s
      | _ => .stuck) := p
    cases q : s.loc[i]? with
    | none => rw [q] at p; exact p.elim
    | some o =>
      cases o with
      | none => rw [q] at p; exact p.elim
      | some sv =>
        have z := rl.slot i _ q
        cases sv with
        | val d =>
          rw [q] at p
          obtain ⟨w, e1, e2⟩ := z
          exact ⟨w, e1, Pst.fin rl p e2⟩
        | own xs =>
          rw [q] at p
          obtain ⟨pp, vs, e1, _⟩ := z
          exact ⟨_, e1, Pst.fin rl p e1⟩
  t := by
    refine PT.imp (pt_truth h he) fun σ H Q ⟨F, M, s, rl, p⟩ => ?_
    have p : Pst ct W DrT σ F H M s Q (match s.loc[i]? with
      | some (some (.val d)) => liftO (truP d) s
      | some (some (.own xs)) => liftO (truP (.lst xs)) s
      | _ => .stuck) := p
    cases q : s.loc[i]? with
    | none => rw [q] at p; exact p.elim
    | some o =>
      cases o with
      | none => rw [q] at p; exact p.elim
      | some sv =>
        have z := rl.slot i _ q
        cases sv with
        | val d =>
          rw [q] at p
          obtain ⟨w, e1, e2⟩ := z
          obtain ⟨k, hk, p2⟩ := Pst.lift p
          exact ⟨w, e1, k, by rw [hK]; exact tru_of e2 rl.same hk, Pst.fin rl p2 rfl⟩
        | own xs =>
          rw [q] at p
          obtain ⟨pp, vs, e1, e2, e3, e4, _⟩ := z
          obtain ⟨k, hk, p2⟩ := Pst.lift p
          exact ⟨_, e1, k, by rw [hK]; exact tru_ofO (.inr ⟨pp, vs, xs, rfl, rfl, e3, e4, e2⟩) rl.same hk, Pst.fin rl p2 rfl⟩
theorem pe_cstV {v : V} {d : PV} (h : PE X x (tC v)) (hd : ∀ F M, Dn ct.K F M v d) : PE X x (tV ct W fun s => .ok (.val d) s) :=
  PE.imp h fun σ H Q ⟨F, M, s, rl, p⟩ => Pst.fin rl p (hd F M)
end
end PI

set_option Elab.async false
set_option linter.all false
set_option autoImplicit false
set_option maxRecDepth 100000
set_option maxHeartbeats 4000000
namespace PI
open PySem L2
section
variable {ct : Ct} {X : Cx} {W : WX} {x y z : Expr} {pos : Pos} {da db dc : Den}
variable {σ : L2.St} {F H : Hp} {M : List Addr} {s : Ps} {Q : VK}

theorem Rl.notM (rl : Rl ct.K F H M σ s) {q : Addr} (h : H q = none) : q ∉ M := fun z => by
  obtain ⟨_, o, e⟩ := rl.sto.some z
  rw [h] at e; cases e
theorem fin_lst (rl : Rl ct.K F H M σ s) {ds : List PV} {vs : List V} {q : Addr} (p : Pst ct W (DrV ct.K) σ F H M s Q (.ok (.own ds) s)) (hq : H q = none) (d : Dns ct.K F M vs ds) : Q (.ref q) (upd H q (.lst vs)) :=
  p _ F _ M ⟨Ext.newH rl hq, fun _ h => h⟩ (rl.newH hq) ⟨q, vs, rfl, rl.same.free hq, upd_same, d, rl.notM hq, hq⟩
theorem fin_tup (rl : Rl ct.K F H M σ s) {ds : List PV} {vs : List V} {q : Addr} (p : Pst ct W (DrV ct.K) σ F H M s Q (.ok (.val (.tup ds)) s)) (hq : H q = none) (d : Dns ct.K F M vs ds) : Q (.ref q) (upd H q (.tup vs)) :=
  p _ (upd F q (.tup vs)) _ M ⟨Ext.new rl hq, fun _ h => h⟩ (rl.new hq) (.tup (SqT.of upd_same) (d.mono (same_new (rl.same.free hq)) (List.prefix_refl _)))
theorem DnO.int {v : V} {i : Int} (h : DnO ct.K F H M v (.int i)) : v = .int i := by
  rcases h with h | ⟨p, vs, ds, _, e, _⟩
  · cases h; rfl
  · cases e
theorem DnO.str {v : V} {i : Str} (h : DnO ct.K F H M v (.str i)) : v = .str i := by
  rcases h with h | ⟨p, vs, ds, _, e, _⟩
  · cases h; rfl
  · cases e
theorem DnO.bl {v : V} {i : Bool} (h : DnO ct.K F H M v (.bl i)) : v = .bl i := by
  rcases h with h | ⟨p, vs, ds, _, e, _⟩
  · cases h; rfl
  · cases e
theorem DnO.non {v : V} (h : DnO ct.K F H M v .non) : v = .non := by
  rcases h with h | ⟨p, vs, ds, _, e, _⟩
  · cases h; rfl
  · cases e
theorem DnO.lst {v : V} {ds : List PV} (sm : Same F H) (h : DnO ct.K F H M v (.lst ds)) : ∃ p vs, v = .ref p ∧ H p = some (.lst vs) ∧ Dns ct.K F M vs ds := by
  rcases h with h | ⟨p, vs, ds', e1, e, h1, h2, _⟩
  · cases h with
    | lst h1 h2 => exact ⟨_, _, rfl, sm _ _ h1, h2⟩
  · cases e; exact ⟨p, vs, e1, h1, h2⟩
theorem DnO.tup {v : V} {ds : List PV} (sm : Same F H) (h : DnO ct.K F H M v (.tup ds)) : ∃ p vs, v = .ref p ∧ SqT ct.K H p vs ∧ Dns ct.K F M vs ds := by
  rcases h with h | ⟨p, vs, ds', e1, e, h1, h2, _⟩
  · cases h with
    | tup h1 h2 => exact ⟨_, _, rfl, sqT_mono sm h1, h2⟩
  · cases e
theorem lim_eq : sizeLine = lim := by rw [sizeLine_eq]

/-- a text, again and again -/
def rMulS : R2 := fun x y H Q => ∃ z k, x = .str z ∧ y = .int k ∧ (z.length ≤ 1000 ∧ -1000 ≤ k ∧ k ≤ 1000) ∧ Q (.str (PySem.Txt.mul z k)) H
theorem mulOk_small {z : Str} {k : Int} (h : z.length ≤ 1000 ∧ -1000 ≤ k ∧ k ≤ 1000) : PySem.MulOk z k := by
  obtain ⟨h1, h2, h3⟩ := h
  refine ⟨by rw [Bool.or_eq_false_iff]; exact ⟨decide_eq_false (by omega), decide_eq_false (by omega)⟩, fun hk _ => ?_, fun hk _ => ?_⟩
  · have : (9223372036854774807 : Int) ≤ 2 ^ 63 - 1 := by decide
    have h4 : (1000 : Int) ≤ (2 ^ 63 - 1) / k := Int.le_ediv_of_mul_le (by omega) (by omega)
    omega
  · have h4 : z.length * k.toNat ≤ 1000 * 1000 := Nat.mul_le_mul h1 (by omega)
    show decide (z.length * k.toNat > sizeLine) = false
    rw [sizeLine_eq]
    exact decide_eq_false (by omega)
theorem op_mulS : OpR X (binaryOp .Mult) rMulS := by
  intro pins s σ H x y v u Q I rx ry h
  obtain ⟨z, k, rfl, rfl, hz, q⟩ := h
  obtain ⟨t, rfl⟩ := rx
  obtain ⟨t', rfl⟩ := ry
  exact PySem.SB.mul (mulOk_small hz) fun t2 tk => ⟨.str (PySem.Txt.mul z k), H, I.tok _, ⟨_, rfl⟩, q⟩
/-! ### a op b -/
def rB (K : PySem.W.Frag) : Operator → R2
  | .Add => fun x y H Q => rI0 (fun i j => .int (i + j)) x y H Q ∨ (∃ i j, x = .str i ∧ y = .str j ∧ i.length + j.length ≤ sizeLine ∧ Q (.str (i ++ j)) H) ∨ rCat x y H Q ∨ rCatA K x y H Q
  | .Sub => rI0 fun i j => .int (i - j)
  | .Mult => fun x y H Q => rI CMul (fun i j => .int (i * j)) x y H Q ∨ rRep x y H Q ∨ rMulS x y H Q
  | .FloorDiv => rI CDivW fun i j => .int (i / j)
  | .Mod => rI (fun _ j => 0 < j) fun i j => .int (i % j)
  | .Pow => rI CPow fun i j => .int (i ^ j.toNat)
  | _ => fun _ _ _ _ => False
theorem opB (op : Operator) : OpR X (binaryOp op) (rB X.K op) := by
  cases op with
  | Add => exact op_add.or (op_add_str.or (op_cat.or op_catA))
  | Sub => exact op_sub
  | Mult => exact op_mul.or (op_rep.or op_mulS)
  | FloorDiv => exact op_fdivW
  | Mod => exact op_mod
  | Pow => exact op_pow
  | _ => exact fun _ _ _ _ _ _ _ _ _ _ _ _ h => h.elim
theorem Dns.rep {K : PySem.W.Frag} {F : Hp} {M : List Addr} {vs : List V} {ds : List PV} (h : Dns K F M vs ds) : ∀ n : Nat, Dns K F M (List.replicate n vs).flatten (List.replicate n ds).flatten
  | 0 => .nil
  | n + 1 => by
    rw [List.replicate_succ, List.replicate_succ, List.flatten_cons, List.flatten_cons]
    exact h.append (h.rep n)
theorem binP_ok {op : Operator} {v w : V} {dx dy : PV} {r : SV} (rl : Rl ct.K F H M σ s) (hv : DnO ct.K F H M v dx) (hw : DnO ct.K F H M w dy) (e : binP op dx dy = some r) (p : Pst ct W (DrV ct.K) σ F H M s Q (.ok r s)) : rB ct.K op v w H Q := by
  unfold binP at e
  split at e
  · cases e; exact .inl ⟨_, _, hv.int, hw.int, Pst.fin rl p (.int _)⟩
  · split at e
    · rename_i hl
      cases e; exact .inr (.inl ⟨_, _, hv.str, hw.str, by rw [lim_eq]; exact hl, Pst.fin rl p (.str _)⟩)
    · cases e
  · split at e
    · rename_i hl
      cases e
      obtain ⟨l, xs, rfl, h1, d1⟩ := hv.lst rl.same
      obtain ⟨b, zs, rfl, h2, d2⟩ := hw.lst rl.same
      exact .inr (.inr (.inl ⟨l, b, xs, zs, rfl, rfl, h1, h2, by rw [lim_eq, d1.length, d2.length]; exact hl, fun q hq => fin_lst rl p hq (d1.append d2)⟩))
    · cases e
  · rename_i xa xb
    split at e
    · rename_i hl
      cases e
      rcases hv with hv0 | ⟨_, _, _, _, z, _⟩
      · rcases hw with hw0 | ⟨_, _, _, _, z, _⟩
        · obtain ⟨l, xs, rfl, h1, d1⟩ := (show DnO ct.K F H M v (.tup xa) from .inl hv0).tup rl.same
          obtain ⟨b, zs, rfl, h2, d2⟩ := (show DnO ct.K F H M w (.tup xb) from .inl hw0).tup rl.same
          refine .inr (.inr (.inr ⟨l, b, xs, zs, rfl, rfl, h1, h2, by rw [lim_eq, d1.length, d2.length]; exact hl, fun e0 => ?_, fun _ e0 => ?_, fun _ _ q hq => fin_tup rl p hq (d1.append d2)⟩))
          · subst e0
            cases d1
            exact Pst.fin rl p hw0
          · subst e0
            cases d2
            rw [List.append_nil] at p
            exact Pst.fin rl p hv0
        · cases z
      · cases z
    · cases e
  · cases e; exact ⟨_, _, hv.int, hw.int, Pst.fin rl p (.int _)⟩
  · split at e
    · rename_i hc
      cases e; exact .inl ⟨_, _, hv.int, hw.int, hc, Pst.fin rl p (.int _)⟩
    · cases e
  · split at e
    · rename_i hc
      cases e
      obtain ⟨l, xs, rfl, h1, d1⟩ := hv.lst rl.same
      exact .inr (.inl ⟨l, _, xs, rfl, hw.int, h1, hc.1, hc.2.1, by rw [lim_eq, d1.length]; exact hc.2.2, fun q hq => fin_lst rl p hq (d1.rep _)⟩)
    · cases e
  · split at e
    · rename_i hc
      cases e
      exact .inr (.inr ⟨_, _, hv.str, hw.int, hc, Pst.fin rl p (.str _)⟩)
    · cases e
  · split at e
    · rename_i hc
      cases e; exact ⟨_, _, hv.int, hw.int, hc, Pst.fin rl p (.int _)⟩
    · cases e
  · split at e
    · rename_i hc
      cases e; exact ⟨_, _, hv.int, hw.int, hc, Pst.fin rl p (.int _)⟩
    · cases e
  · split at e
    · rename_i hc
      cases e; exact ⟨_, _, hv.int, hw.int, hc, Pst.fin rl p (.int _)⟩
    · cases e
  · cases e
theorem snd_bin {op : Operator} (hK : X.K = ct.K) (ha : Snd ct X W x da) (hb : Snd ct X W y db) : Snd ct X W (.BinOp x op y pos) (dBin op da db) :=
  Snd.ofV hK (PE.imp (pe_op (opB op) ha.b hb.b) fun σ H Q h => opnd2_rd (fun H => hdV ct.K H) h fun v w F H M s dx dy rl hv hw p => by
    obtain ⟨r, e, p⟩ := Pst.lift p
    rw [hK]
    exact binP_ok rl hv hw e p) fun _ => rfl
theorem snd_neg (hK : X.K = ct.K) (ha : Snd ct X W x da) : Snd ct X W (.UnaryOp .USub x pos) (dNeg da) :=
  Snd.ofV hK (PE.imp (pe_un un_neg ha.b) fun σ H Q h => opnd1_rd (fun H => hdV ct.K H) h fun v F H M s dx rl hv p => by
    cases dx with
    | int i => exact ⟨i, hv.int, Pst.fin rl p (.int _)⟩
    | _ => exact p.elim) fun _ => rfl

end
end PI

set_option Elab.async false
set_option linter.all false
set_option autoImplicit false
set_option maxRecDepth 100000
set_option maxHeartbeats 4000000
namespace PI
open PySem L2
/-! ### data -/
mutual
theorem toData_eqv : ∀ (n m : Nat) (a b : PV), shal n a = true → shal m b = true → PyData.eqv (toData a) (toData b) = eqv a b
  | n, m, .non, b, ha, hb => by cases b <;> first | rfl | (cases m <;> cases hb)
  | n, m, .bl x, b, ha, hb => by cases b <;> first | rfl | (cases m <;> cases hb)
  | n, m, .int x, b, ha, hb => by cases b <;> first | rfl | (cases m <;> cases hb)
  | n, m, .str x, b, ha, hb => by cases b <;> first | rfl | (cases m <;> cases hb)
  | n, m, .tup xs, b, ha, hb => by
    cases n with
    | zero => cases ha
    | succ n =>
      cases b with
      | tup ys =>
        cases m with
        | zero => cases hb
        | succ m => exact toDatas_eqv n m xs ys ha hb
      | _ => first | rfl | (cases m <;> cases hb)
  | n, m, .lst xs, b, ha, hb => by
    cases n with
    | zero => cases ha
    | succ n =>
      cases b with
      | lst ys =>
        cases m with
        | zero => cases hb
        | succ m => exact toDatas_eqv n m xs ys ha hb
      | _ => first | rfl | (cases m <;> cases hb)
  | n, m, .scr _, b, ha, hb => by cases n <;> cases ha
  | n, m, .ref _, b, ha, hb => by cases n <;> cases ha
  | n, m, .rcd _ _, b, ha, hb => by cases n <;> cases ha
theorem toDatas_eqv : ∀ (n m : Nat) (a b : List PV), shalAll n a = true → shalAll m b = true → PyData.eqvAll (toDatas a) (toDatas b) = eqvAll a b
  | n, m, [], [], _, _ => rfl
  | n, m, [], _ :: _, _, _ => rfl
  | n, m, _ :: _, [], _, _ => rfl
  | n, m, x :: xs, y :: ys, ha, hb => by
    have ha : (shal n x && shalAll n xs) = true := ha
    have hb : (shal m y && shalAll m ys) = true := hb
    rw [Bool.and_eq_true] at ha hb
    show (PyData.eqv (toData x) (toData y) && PyData.eqvAll (toDatas xs) (toDatas ys)) = (eqv x y && eqvAll xs ys)
    rw [toData_eqv n m x y ha.1 hb.1, toDatas_eqv n m xs ys ha.2 hb.2]
end
mutual
theorem toData_lay : ∀ (n : Nat) (a : PV), shal n a = true → (toData a).canLay0 = true ∧ (toData a).depth ≤ n + 1
  | n, .non, _ => ⟨rfl, by simp [toData, PyData.depth]⟩
  | n, .bl _, _ => ⟨rfl, by simp [toData, PyData.depth]⟩
  | n, .int _, _ => ⟨rfl, by simp [toData, PyData.depth]⟩
  | n, .str x, h => ⟨by cases n <;> simpa [toData, PyData.canLay0, shal] using h, by simp [toData, PyData.depth]⟩
  | 0, .tup _, h => by cases h
  | 0, .lst _, h => by cases h
  | n + 1, .tup xs, h => by
    obtain ⟨h1, h2⟩ := toDatas_lay n xs h
    exact ⟨by simpa [toData, PyData.canLay0] using h1, by simp only [toData, PyData.depth]; omega⟩
  | n + 1, .lst xs, h => by
    obtain ⟨h1, h2⟩ := toDatas_lay n xs h
    exact ⟨by simpa [toData, PyData.canLay0] using h1, by simp only [toData, PyData.depth]; omega⟩
  | n, .scr _, h => by cases n <;> cases h
  | n, .ref _, h => by cases n <;> cases h
  | n, .rcd _ _, h => by cases n <;> cases h
theorem toDatas_lay : ∀ (n : Nat) (a : List PV), shalAll n a = true → PyData.canLayAll0 (toDatas a) = true ∧ PyData.depthAll (toDatas a) ≤ n + 1
  | n, [], _ => ⟨rfl, by simp [toDatas, PyData.depthAll]⟩
  | n, x :: xs, h => by
    have h : (shal n x && shalAll n xs) = true := h
    rw [Bool.and_eq_true] at h
    obtain ⟨a1, a2⟩ := toData_lay n x h.1
    obtain ⟨b1, b2⟩ := toDatas_lay n xs h.2
    refine ⟨by simp [toDatas, PyData.canLayAll0, a1, b1], ?_⟩
    simp only [toDatas, PyData.depthAll]
    omega
end
theorem shaped_of {a : PV} (h : shal 60 a = true) : SeqAt.shaped (toData a) = true := by
  obtain ⟨h1, h2⟩ := toData_lay 60 a h
  unfold SeqAt.shaped
  rw [h1, Bool.true_and, decide_eq_true_eq]
  omega
section
variable {K : PySem.W.Frag} {F H : Hp} {M : List Addr}
mutual
theorem Dn.data (sm : Same F H) : ∀ {v : V} {d : PV} (n : Nat), Dn K F M v d → shal n d = true → Dp K H v (toData d)
  | _, _, _, .non, _ => .non
  | _, _, _, .bl b, _ => .bl b
  | _, _, _, .int i, _ => .int i
  | _, _, _, .str x, _ => .str x
  | _, _, 0, .tup h r, q => by cases q
  | _, _, n + 1, .tup h r, q => .tup (sqT_mono sm h) (Dns.data sm n r q)
  | _, _, 0, .lst h r, q => by cases q
  | _, _, n + 1, .lst h r, q => .lst (SqL.of (sm _ _ h)) (Dns.data sm n r q)
  | _, _, n, .scr _, q => by cases n <;> cases q
  | _, _, n, .ref _, q => by cases n <;> cases q
  | _, _, n, .rcd _ _ _ _ _, q => by cases n <;> cases q
theorem Dns.data (sm : Same F H) : ∀ {vs : List V} {ds : List PV} (n : Nat), Dns K F M vs ds → shalAll n ds = true → DpAll K H vs (toDatas ds)
  | _, _, _, .nil, _ => .nil
  | _, _, n, .cons (d := d) (ds := ds) h r, q => by
    have q : (shal n d && shalAll n ds) = true := q
    rw [Bool.and_eq_true] at q
    exact .cons (Dn.data sm n h q.1) (Dns.data sm n r q.2)
end
theorem DnO.data (sm : Same F H) {v : V} {d : PV} {n : Nat} (h : DnO K F H M v d) (q : shal n d = true) : Dp K H v (toData d) := by
  rcases h with h | ⟨p, vs, ds, rfl, rfl, h1, h2, _⟩
  · exact h.data sm n q
  · cases n with
    | zero => cases q
    | succ n => exact .lst (SqL.of h1) (Dns.data sm n h2 q)
end

section
variable {ct : Ct} {X : Cx} {W : WX} {x y z : Expr} {pos : Pos} {da db dc : Den}
variable {σ : L2.St} {F H : Hp} {M : List Addr} {s : Ps} {Q : VK}
/-! ### comparisons -/
theorem toDatas_eq : ∀ xs : List PV, toDatas xs = xs.map toData
  | [] => rfl
  | x :: xs => by show toData x :: toDatas xs = _; rw [toDatas_eq xs]; rfl
theorem shalAll_of {n : Nat} : ∀ {xs : List PV}, (∀ x ∈ xs, shal n x = true) → shalAll n xs = true
  | [], _ => rfl
  | x :: xs, h => by
    show (shal n x && shalAll n xs) = true
    rw [h x (by simp), shalAll_of fun y hy => h y (by simp [hy])]; rfl
theorem okD_of {xs : List PV} (h : okD xs = true) : (∀ x ∈ xs, shal 60 x = true) ∧ PySem.W.AlikeAll (toDatas xs) := by
  unfold okD at h
  simp only [Bool.and_eq_true, List.all_eq_true] at h
  refine ⟨fun x hx => (h.1 x hx).1, fun a ha b hb => ?_, fun a ha => ?_⟩
  · rw [toDatas_eq] at ha hb
    obtain ⟨x, hx, rfl⟩ := List.mem_map.mp ha
    obtain ⟨y, hy, rfl⟩ := List.mem_map.mp hb
    exact h.2 x hx y hy
  · rw [toDatas_eq] at ha
    obtain ⟨x, hx, rfl⟩ := List.mem_map.mp ha
    have h1 := (h.1 x hx).2
    have h2 := (h.1 x hx).1
    cases x with
    | non => cases h1
    | scr _ => cases h2
    | ref _ => cases h2
    | rcd _ _ => cases h2
    | _ => intro z; cases z
/-- x in a list or tuple of data of one kind -/
def rInD (K : PySem.W.Frag) (neg : Bool) : R2 := fun x y H Q => ∃ p ws dx ds, y = .ref p ∧ (SqL K H p ws ∨ SqT K H p ws) ∧ Dp K H x dx ∧ DpAll K H ws ds ∧ PySem.W.AlikeAll (dx :: ds) ∧ dx.depth ≤ 61 ∧ Q (.bl (if neg then !(ds.any fun d => PyData.eqv d dx) else ds.any fun d => PyData.eqv d dx)) H
/-- whether a value that stands among others is one of those -/
noncomputable def standE (its : List Value) (ds : List PyData) (dx : PyData) (u : Value) : Bool := @decide (∃ (i : Nat) (d : PyData), its[i]? = some u ∧ ds[i]? = some d ∧ PyData.eqv d dx = true) (Classical.propDecidable _)
theorem reads_get {h : Heap} : ∀ {vs : List Value} {xs : List PyData} {as : List Addr}, ReadsAll h vs xs as → vs.length = xs.length ∧ ∀ (i : Nat) (v : Value), vs[i]? = some v → ∃ d bs, xs[i]? = some d ∧ Reads h v d bs
  | _, _, _, .nil => ⟨rfl, fun i v e => by simp at e⟩
  | _, _, _, .cons r t => by
    obtain ⟨h1, h2⟩ := reads_get t
    refine ⟨by simp [h1], fun i v e => ?_⟩
    cases i with
    | zero => simp at e; subst e; exact ⟨_, _, rfl, r⟩
    | succ i =>
      obtain ⟨d, bs, a, b⟩ := h2 i v (by simpa using e)
      exact ⟨d, bs, by simpa using a, b⟩
theorem standE_at {h : Heap} {its : List Value} {ds : List PyData} {as : List Addr} {dx : PyData} (rs : ReadsAll h its ds as) (al : PySem.W.AlikeAll (dx :: ds)) {i : Nat} {u : Value} {d : PyData} (hi : its[i]? = some u) (hd : ds[i]? = some d) : standE its ds dx u = PyData.eqv d dx := by
  unfold standE
  cases e : PyData.eqv d dx with
  | true => exact @decide_eq_true _ (Classical.propDecidable _) ⟨i, d, hi, hd, e⟩
  | false =>
    refine @decide_eq_false _ (Classical.propDecidable _) fun ⟨j, d', hj, hd', e'⟩ => ?_
    obtain ⟨d1, b1, k1, r1⟩ := (reads_get rs).2 i u hi
    obtain ⟨d2, b2, k2, r2⟩ := (reads_get rs).2 j u hj
    rw [hd] at k1
    rw [hd'] at k2
    cases k1
    cases k2
    have := PySem.W.alike_unique d d' u _ _ (al.1 d (List.mem_cons_of_mem _ (List.mem_of_getElem? hd)) d' (List.mem_cons_of_mem _ (List.mem_of_getElem? hd'))) r1 r2
    subst this
    rw [e] at e'
    cases e'
theorem standE_any {h : Heap} {its : List Value} {ds : List PyData} {as : List Addr} {dx : PyData} (rs : ReadsAll h its ds as) (al : PySem.W.AlikeAll (dx :: ds)) : its.any (standE its ds dx) = ds.any fun d => PyData.eqv d dx := by
  have hl := (reads_get rs).1
  rw [Bool.eq_iff_iff, List.any_eq_true, List.any_eq_true]
  constructor
  · rintro ⟨u, hu, e⟩
    obtain ⟨i, hi⟩ := List.mem_iff_getElem?.mp hu
    obtain ⟨d, bs, hd, _⟩ := (reads_get rs).2 i u hi
    rw [standE_at rs al hi hd] at e
    exact ⟨d, List.mem_of_getElem? hd, e⟩
  · rintro ⟨d, hd, e⟩
    obtain ⟨i, hi⟩ := List.mem_iff_getElem?.mp hd
    have hlt : i < its.length := by rw [hl]; exact (List.getElem?_eq_some_iff.mp hi).1
    exact ⟨its[i], List.getElem_mem hlt, by rw [standE_at rs al (List.getElem?_eq_getElem hlt) hi]; exact e⟩
theorem standE_eq {A : Around} {s : Shared} {v : Value} {bs : List Addr} {its : List Value} {ds : List PyData} {as : List Addr} {dx : PyData} (rs : ReadsAll s.heap its ds as) (rx : Reads s.heap v dx bs) (al : PySem.W.AlikeAll (dx :: ds)) (hd : dx.depth ≤ 61) (hu : A.units + 63 < cLine) : ∀ u ∈ its, SeqAt.EqAt A s u v (standE its ds dx u) := fun u hm => by
  obtain ⟨i, hi⟩ := List.mem_iff_getElem?.mp hm
  obtain ⟨d, b1, k1, r1⟩ := (reads_get rs).2 i u hi
  rw [standE_at rs al hi k1]
  exact PySem.W.eqAt_alike d dx A s u v _ _ r1 rx (al.1 d (List.mem_cons_of_mem _ (List.mem_of_getElem? k1)) dx (by simp)) (by omega)
theorem units_in1 {A : Around} (h : A.units + 64 < cLine) : A.in1.units + 63 < cLine := by
  have : A.in1.units = A.units + 1 := rfl
  omega
theorem op_inD (hu : X.A.units + 64 < cLine) : OpR X (compareOp .In) (rInD X.K false) := by
  intro pins s σ H x y v u Q I rx ry h
  obtain ⟨p, ws, dx, ds, rfl, hq, hx, hds, al, hdx, q⟩ := h
  cases ry
  obtain ⟨bs, r1⟩ := Dp.reads I dx x v hx rx
  rcases hq with hq | hq
  · obtain ⟨its, r, pl, hz⟩ := I.list hq
    obtain ⟨as, rs⟩ := Dp.readsAll I ds ws its hds r
    refine SeqAt.in_listAt (standE its ds dx) pl.isList (fun w hw => standE_eq rs r1 al hdx (units_in1 hu) w (by simpa using hw)) ⟨.bl _, H, I, rfl, ?_⟩
    rw [show its.toArray.any (standE its ds dx) = its.any (standE its ds dx) by simp, standE_any rs al]
    exact q
  · obtain ⟨its, r, pl, hz⟩ := I.tuple hq
    obtain ⟨as, rs⟩ := Dp.readsAll I ds ws its hds r
    refine SeqAt.in_tupleAt (standE its ds dx) pl (fun w hw => standE_eq rs r1 al hdx (units_in1 hu) w (by simpa using hw)) ⟨.bl _, H, I, rfl, ?_⟩
    rw [show its.toArray.any (standE its ds dx) = its.any (standE its ds dx) by simp, standE_any rs al]
    exact q
theorem op_notInD (hu : X.A.units + 64 < cLine) : OpR X (compareOp .NotIn) (rInD X.K true) := by
  intro pins s σ H x y v u Q I rx ry h
  obtain ⟨p, ws, dx, ds, rfl, hq, hx, hds, al, hdx, q⟩ := h
  cases ry
  obtain ⟨bs, r1⟩ := Dp.reads I dx x v hx rx
  rcases hq with hq | hq
  · obtain ⟨its, r, pl, hz⟩ := I.list hq
    obtain ⟨as, rs⟩ := Dp.readsAll I ds ws its hds r
    refine SeqAt.notIn_listAt (standE its ds dx) pl.isList (fun w hw => standE_eq rs r1 al hdx (units_in1 hu) w (by simpa using hw)) ⟨.bl _, H, I, rfl, ?_⟩
    rw [show its.toArray.any (standE its ds dx) = its.any (standE its ds dx) by simp, standE_any rs al]
    exact q
  · obtain ⟨its, r, pl, hz⟩ := I.tuple hq
    obtain ⟨as, rs⟩ := Dp.readsAll I ds ws its hds r
    refine SeqAt.notIn_tupleAt (standE its ds dx) pl (fun w hw => standE_eq rs r1 al hdx (units_in1 hu) w (by simpa using hw)) ⟨.bl _, H, I, rfl, ?_⟩
    rw [show its.toArray.any (standE its ds dx) = its.any (standE its ds dx) by simp, standE_any rs al]
    exact q
/-- None in a list or tuple of data -/
def rInN (K : PySem.W.Frag) (neg : Bool) : R2 := fun x y H Q => ∃ p ws ds, x = .non ∧ y = .ref p ∧ (SqL K H p ws ∨ SqT K H p ws) ∧ DpAll K H ws ds ∧ PyData.canLayAll0 ds = true ∧ Q (.bl (if neg then !(ds.any fun d => PyData.eqv d .none) else ds.any fun d => PyData.eqv d .none)) H
def isNV : Value → Bool
  | .none => true
  | _ => false
theorem isNV_eq {h : Heap} {v : Value} {d : PyData} {as : List Addr} (r : Reads h v d as) : isNV v = PyData.eqv d .none := by
  cases r <;> simp [isNV, PyData.eqv]
theorem isNV_any {h : Heap} : ∀ {vs : List Value} {xs : List PyData} {as : List Addr}, ReadsAll h vs xs as → vs.any isNV = xs.any fun d => PyData.eqv d .none
  | _, _, _, .nil => rfl
  | _, _, _, .cons r t => by
    rw [List.any_cons, List.any_cons, isNV_eq r, isNV_any t]
theorem lay_get : ∀ {ds : List PyData}, PyData.canLayAll0 ds = true → ∀ (i : Nat) (d : PyData), ds[i]? = some d → d.canLay0 = true
  | [], _, i, d, e => by simp at e
  | x :: xs, h, i, d, e => by
    have h' : x.canLay0 = true ∧ PyData.canLayAll0 xs = true := by simpa [PyData.canLayAll0] using h
    cases i with
    | zero => simp at e; subst e; exact h'.1
    | succ i => exact lay_get h'.2 i d (by simpa using e)
theorem isNV_at {A : Around} {s : Shared} {its : List Value} {ds : List PyData} {as : List Addr} (rs : ReadsAll s.heap its ds as) (hl : PyData.canLayAll0 ds = true) (hu : A.units + 63 < cLine) : ∀ u ∈ its, SeqAt.EqAt A s u .none (isNV u) := fun u hm => by
  obtain ⟨i, hi⟩ := List.mem_iff_getElem?.mp hm
  obtain ⟨d, b1, k1, r1⟩ := (reads_get rs).2 i u hi
  rw [isNV_eq r1]
  have hd : PyData.depth .none ≤ 1 := by simp [PyData.depth]
  exact SeqAt.eqAt_reads d .none A s u .none _ _ r1 .none (lay_get hl i d k1) rfl (by omega)
theorem op_inN (hu : X.A.units + 64 < cLine) : OpR X (compareOp .In) (rInN X.K false) := by
  intro pins s σ H x y v u Q I rx ry h
  obtain ⟨p, ws, ds, rfl, rfl, hq, hds, hl, q⟩ := h
  cases ry
  cases rx
  rcases hq with hq | hq
  · obtain ⟨its, r, pl, hz⟩ := I.list hq
    obtain ⟨as, rs⟩ := Dp.readsAll I ds ws its hds r
    refine SeqAt.in_listAt isNV pl.isList (fun w hw => isNV_at rs hl (units_in1 hu) w (by simpa using hw)) ⟨.bl _, H, I, rfl, ?_⟩
    rw [show its.toArray.any isNV = its.any isNV by simp, isNV_any rs]
    exact q
  · obtain ⟨its, r, pl, hz⟩ := I.tuple hq
    obtain ⟨as, rs⟩ := Dp.readsAll I ds ws its hds r
    refine SeqAt.in_tupleAt isNV pl (fun w hw => isNV_at rs hl (units_in1 hu) w (by simpa using hw)) ⟨.bl _, H, I, rfl, ?_⟩
    rw [show its.toArray.any isNV = its.any isNV by simp, isNV_any rs]
    exact q
theorem op_notInN (hu : X.A.units + 64 < cLine) : OpR X (compareOp .NotIn) (rInN X.K true) := by
  intro pins s σ H x y v u Q I rx ry h
  obtain ⟨p, ws, ds, rfl, rfl, hq, hds, hl, q⟩ := h
  cases ry
  cases rx
  rcases hq with hq | hq
  · obtain ⟨its, r, pl, hz⟩ := I.list hq
    obtain ⟨as, rs⟩ := Dp.readsAll I ds ws its hds r
    refine SeqAt.notIn_listAt isNV pl.isList (fun w hw => isNV_at rs hl (units_in1 hu) w (by simpa using hw)) ⟨.bl _, H, I, rfl, ?_⟩
    rw [show its.toArray.any isNV = its.any isNV by simp, isNV_any rs]
    exact q
  · obtain ⟨its, r, pl, hz⟩ := I.tuple hq
    obtain ⟨as, rs⟩ := Dp.readsAll I ds ws its hds r
    refine SeqAt.notIn_tupleAt isNV pl (fun w hw => isNV_at rs hl (units_in1 hu) w (by simpa using hw)) ⟨.bl _, H, I, rfl, ?_⟩
    rw [show its.toArray.any isNV = its.any isNV by simp, isNV_any rs]
    exact q
/-- alike data by their order -/
def rOrd (K : PySem.W.Frag) (f : PyData → PyData → Bool) : R2 := fun x y H Q => ∃ d e, Dp K H x d ∧ Dp K H y e ∧ PySem.W.alike d e = true ∧ d ≠ .none ∧ d.depth ≤ 61 ∧ Q (.bl (f d e)) H
theorem op_ltD (hu : X.A.units + 64 < cLine) : OpR X (compareOp .Lt) (rOrd X.K fun d e => PySem.W.dataLt d e) := by
  intro pins s σ H x y v u Q I rx ry h
  obtain ⟨d, e, hd, he, ha, hn, dp, q⟩ := h
  obtain ⟨as, r1⟩ := Dp.reads I d x v hd rx
  obtain ⟨bs, r2⟩ := Dp.reads I e y u he ry
  exact PySem.W.lt_data r1 r2 ha hn (by omega) ⟨.bl _, H, I, rfl, q⟩
theorem op_leD (hu : X.A.units + 64 < cLine) : OpR X (compareOp .LtE) (rOrd X.K fun d e => !PySem.W.dataLt e d) := by
  intro pins s σ H x y v u Q I rx ry h
  obtain ⟨d, e, hd, he, ha, hn, dp, q⟩ := h
  obtain ⟨as, r1⟩ := Dp.reads I d x v hd rx
  obtain ⟨bs, r2⟩ := Dp.reads I e y u he ry
  exact PySem.W.le_data r1 r2 ha hn (by omega) ⟨.bl _, H, I, rfl, q⟩
theorem op_gtD (hu : X.A.units + 64 < cLine) : OpR X (compareOp .Gt) (rOrd X.K fun d e => PySem.W.dataLt e d) := by
  intro pins s σ H x y v u Q I rx ry h
  obtain ⟨d, e, hd, he, ha, hn, dp, q⟩ := h
  obtain ⟨as, r1⟩ := Dp.reads I d x v hd rx
  obtain ⟨bs, r2⟩ := Dp.reads I e y u he ry
  exact PySem.W.gt_data r1 r2 ha hn (by omega) ⟨.bl _, H, I, rfl, q⟩
theorem op_geD (hu : X.A.units + 64 < cLine) : OpR X (compareOp .GtE) (rOrd X.K fun d e => !PySem.W.dataLt d e) := by
  intro pins s σ H x y v u Q I rx ry h
  obtain ⟨d, e, hd, he, ha, hn, dp, q⟩ := h
  obtain ⟨as, r1⟩ := Dp.reads I d x v hd rx
  obtain ⟨bs, r2⟩ := Dp.reads I e y u he ry
  exact PySem.W.ge_data r1 r2 ha hn (by omega) ⟨.bl _, H, I, rfl, q⟩
def rC (K : PySem.W.Frag) : CmpOp → R2
  | .Lt => fun x y H Q => rI0 (fun i j => .bl (decide (i < j))) x y H Q ∨ rOrd K (fun d e => PySem.W.dataLt d e) x y H Q
  | .LtE => fun x y H Q => rI0 (fun i j => .bl (decide (i ≤ j))) x y H Q ∨ rOrd K (fun d e => !PySem.W.dataLt e d) x y H Q
  | .Gt => fun x y H Q => rI0 (fun i j => .bl (decide (j < i))) x y H Q ∨ rOrd K (fun d e => PySem.W.dataLt e d) x y H Q
  | .GtE => fun x y H Q => rI0 (fun i j => .bl (decide (j ≤ i))) x y H Q ∨ rOrd K (fun d e => !PySem.W.dataLt d e) x y H Q
  | .Eq => fun x y H Q => rEq x y H Q ∨ rEqD K x y H Q
  | .NotEq => fun x y H Q => rNe x y H Q ∨ rNeD K x y H Q
  | .Is => fun x y H Q => y = .non ∧ Q (.bl (decide (x = .non))) H
  | .IsNot => fun x y H Q => y = .non ∧ Q (.bl (!decide (x = .non))) H
  | .In => fun x y H Q => (∃ (c : Nat) (z : Str), x = .str ⟨#[c]⟩ ∧ y = .str z ∧ Q (.bl (decide (c ∈ z.cps.toList))) H) ∨ rIn K false x y H Q ∨ rInD K false x y H Q ∨ rInN K false x y H Q
  | .NotIn => fun x y H Q => (∃ (c : Nat) (z : Str), x = .str ⟨#[c]⟩ ∧ y = .str z ∧ Q (.bl (!decide (c ∈ z.cps.toList))) H) ∨ rIn K true x y H Q ∨ rInD K true x y H Q ∨ rInN K true x y H Q
theorem flat_dn {v : V} {d : PV} (h : Dn ct.K F M v d) (f : flatD d = true) : flatV v = true := by cases h <;> first | rfl | cases f
theorem flat_eq {v w : V} {d e : PV} (h : Dn ct.K F M v d) (h' : Dn ct.K F M w e) (f : flatD d = true) (f' : flatD e = true) : eqV v w = eqv d e := by
  cases h <;> first | (cases f; done) | skip
  all_goals cases h' <;> first | (cases f'; done) | skip
  all_goals unfold eqv
  all_goals rfl
theorem flat_all {w : V} {e : PV} (h' : Dn ct.K F M w e) (f' : flatD e = true) : ∀ {vs : List V} {ds : List PV}, Dns ct.K F M vs ds → ds.all flatD = true → vs.all flatV = true ∧ inV w vs = ds.any fun y => eqv y e
  | _, _, .nil, _ => ⟨rfl, rfl⟩
  | _, _, .cons (d := d) (ds := ds) h t, f => by
    rw [List.all_cons, Bool.and_eq_true] at f
    obtain ⟨a, b⟩ := flat_all h' f' t f.2
    refine ⟨by rw [List.all_cons, flat_dn h f.1, a]; rfl, ?_⟩
    show (eqV _ w || inV w _) = (eqv d e || _)
    rw [flat_eq h h' f.1 f', b]
theorem sign_ok {x z : Str} {b : Bool} (e : inSign x z = some b) : ∃ c : Nat, x = ⟨#[c]⟩ ∧ b = decide (c ∈ z.cps.toList) := by
  unfold inSign at e
  split at e
  · rename_i c hc
    cases e
    refine ⟨c, ?_, rfl⟩
    obtain ⟨⟨l⟩⟩ := x
    simp at hc
    rw [hc]
  · cases e
theorem any_data {e : PV} (he : shal 60 e = true) : ∀ {xs : List PV}, (∀ x ∈ xs, shal 60 x = true) → ((toDatas xs).any fun d => PyData.eqv d (toData e)) = xs.any fun y => eqv y e
  | [], _ => rfl
  | x :: xs, h => by
    show (PyData.eqv (toData x) (toData e) || (toDatas xs).any _) = (eqv x e || xs.any _)
    rw [any_data he fun y hy => h y (by simp [hy]), toData_eqv 60 60 x e (h x (by simp)) he]
theorem non_any : ∀ {xs : List PV}, (∀ x ∈ xs, shal 60 x = true) → ((toDatas xs).any fun d => PyData.eqv d .none) = xs.any fun y => !notNon y
  | [], _ => rfl
  | x :: xs, h => by
    show (PyData.eqv (toData x) .none || (toDatas xs).any _) = (!notNon x || xs.any _)
    rw [non_any fun y hy => h y (by simp [hy])]
    have hx := h x (by simp)
    congr 1
    cases x <;> first | (cases hx; done) | simp [toData, PyData.eqv, notNon]
theorem inP_ok {neg : Bool} {v : V} {p : Addr} {ws : List V} {dx : PV} {xs : List PV} {b : Bool} (sm : Same F H) (hv : DnO ct.K F H M v dx) (hq : SqL ct.K H p ws ∨ SqT ct.K H p ws) (d1 : Dns ct.K F M ws xs) (e : inP dx xs = some b) (q : Q (.bl (if neg then !b else b)) H) : rIn ct.K neg v (.ref p) H Q ∨ rInD ct.K neg v (.ref p) H Q ∨ rInN ct.K neg v (.ref p) H Q := by
  unfold inP at e
  split at e
  · rename_i hf
    cases e
    rw [Bool.and_eq_true] at hf
    rcases hv with hv | ⟨_, _, _, _, rfl, _⟩
    · obtain ⟨a1, a2⟩ := flat_all hv hf.1 d1 hf.2
      exact .inl ⟨_, ws, rfl, hq, flat_dn hv hf.1, a1, by rw [a2]; exact q⟩
    · cases hf.1
  · split at e
    · rename_i hok
      cases e
      obtain ⟨g1, g2⟩ := okD_of hok
      have hx := g1 dx (by simp)
      have hxs : ∀ x ∈ xs, shal 60 x = true := fun x hm => g1 x (by simp [hm])
      refine .inr (.inl ⟨_, ws, toData dx, toDatas xs, rfl, hq, hv.data sm hx, Dns.data sm 60 d1 (shalAll_of hxs), g2, (toData_lay 60 dx hx).2, ?_⟩)
      rw [any_data hx hxs]
      exact q
    · split at e
      · rename_i hn
        cases e
        rw [Bool.and_eq_true, List.all_eq_true] at hn
        have hdx : dx = .non := by cases dx <;> first | rfl | cases hn.1
        subst hdx
        refine .inr (.inr ⟨_, ws, toDatas xs, hv.non, rfl, hq, Dns.data sm 60 d1 (shalAll_of hn.2), (toDatas_lay 60 xs (shalAll_of hn.2)).1, ?_⟩)
        rw [non_any hn.2]
        exact q
      · cases e
theorem inO_ok {neg : Bool} {v w : V} {dx dy : PV} {b : Bool} (sm : Same F H) (hv : DnO ct.K F H M v dx) (hw : DnO ct.K F H M w dy) (e : inO dx dy = some b) (q : Q (.bl (if neg then !b else b)) H) :
    (∃ (c : Nat) (z : Str), v = .str ⟨#[c]⟩ ∧ w = .str z ∧ Q (.bl (if neg then !decide (c ∈ z.cps.toList) else decide (c ∈ z.cps.toList))) H) ∨ rIn ct.K neg v w H Q ∨ rInD ct.K neg v w H Q ∨ rInN ct.K neg v w H Q := by
  unfold inO at e
  split at e
  · split at e
    · obtain ⟨c, rfl, rfl⟩ := sign_ok e
      exact .inl ⟨c, _, hv.str, hw.str, q⟩
    · cases e
  · obtain ⟨l, ws, rfl, h1, d1⟩ := hw.lst sm
    exact .inr (inP_ok sm hv (.inl (SqL.of h1)) d1 e q)
  · obtain ⟨l, ws, rfl, h1, d1⟩ := hw.tup sm
    exact .inr (inP_ok sm hv (.inr h1) d1 e q)
  · cases e
theorem opC (hu : X.A.units + 64 < cLine) (op : CmpOp) : OpR X (compareOp op) (rC X.K op) := by
  cases op with
  | Lt => exact op_lt.or (op_ltD hu)
  | LtE => exact op_le.or (op_leD hu)
  | Gt => exact op_gt.or (op_gtD hu)
  | GtE => exact op_ge.or (op_geD hu)
  | Eq => exact op_eq.or (op_eqD hu)
  | NotEq => exact op_ne.or (op_neD hu)
  | Is => exact op_isN
  | IsNot => exact op_notN
  | In => exact op_in_sign.or (op_in_seq.or ((op_inD hu).or (op_inN hu)))
  | NotIn => exact op_notIn_sign.or (op_notIn_seq.or ((op_notInD hu).or (op_notInN hu)))
theorem ordP_ok {v w : V} {dx dy : PV} {r b : Bool} {f : PyData → PyData → Bool} (sm : Same F H) (hv : DnO ct.K F H M v dx) (hw : DnO ct.K F H M w dy) (e : ordP dx dy r = some b) (hr : r = f (toData dx) (toData dy)) (q : Q (.bl b) H) : rOrd ct.K f v w H Q := by
  unfold ordP at e
  split at e
  · rename_i hs
    cases e
    simp only [Bool.and_eq_true] at hs
    obtain ⟨⟨⟨h1, h2⟩, h3⟩, h4⟩ := hs
    refine ⟨_, _, hv.data sm h1, hw.data sm h2, h4, fun z => ?_, (toData_lay 60 _ h1).2, by rw [← hr]; exact q⟩
    cases dx <;> first | (cases h3; done) | (cases h1; done) | (cases z; done)
  · cases e
theorem cmpP_ok {op : CmpOp} {v w : V} {dx dy : PV} {b : Bool} (sm : Same F H) (hv : DnO ct.K F H M v dx) (hw : DnO ct.K F H M w dy) (e : cmpP op dx dy = some b) (q : Q (.bl b) H) : rC ct.K op v w H Q := by
  unfold cmpP at e
  split at e
  · cases e; exact .inl ⟨_, _, hv.int, hw.int, q⟩
  · cases e; exact .inl ⟨_, _, hv.int, hw.int, q⟩
  · cases e; exact .inl ⟨_, _, hv.int, hw.int, q⟩
  · cases e; exact .inl ⟨_, _, hv.int, hw.int, q⟩
  · exact .inr (ordP_ok sm hv hw e rfl q)
  · exact .inr (ordP_ok sm hv hw e rfl q)
  · exact .inr (ordP_ok sm hv hw e rfl q)
  · exact .inr (ordP_ok sm hv hw e rfl q)
  · cases e; rw [hv.str, hw.str]; exact .inl ⟨rfl, by rw [dec_str]; exact q⟩
  · split at e
    · rename_i hs
      cases e
      rw [Bool.and_eq_true] at hs
      refine .inr ?_
      exact ⟨_, _, hv.data sm hs.1, hw.data sm hs.2, shaped_of hs.1, shaped_of hs.2, by rw [toData_eqv 60 60 _ _ hs.1 hs.2]; exact q⟩
    · cases e
  · cases e; rw [hv.str, hw.str]; exact .inl ⟨rfl, by rw [dec_str]; exact q⟩
  · split at e
    · rename_i hs
      cases e
      rw [Bool.and_eq_true] at hs
      refine .inr ?_
      exact ⟨_, _, hv.data sm hs.1, hw.data sm hs.2, shaped_of hs.1, shaped_of hs.2, by rw [toData_eqv 60 60 _ _ hs.1 hs.2]; exact q⟩
    · cases e
  · refine ⟨hw.non, ?_⟩
    cases e
    rcases hv with h | ⟨p, vs, ds, rfl, rfl, _⟩
    · cases h <;> exact q
    · exact q
  · refine ⟨hw.non, ?_⟩
    cases e
    rcases hv with h | ⟨p, vs, ds, rfl, rfl, _⟩
    · cases h <;> exact q
    · exact q
  · exact inO_ok (neg := false) sm hv hw e q
  · obtain ⟨b', e', rfl⟩ := Option.map_eq_some_iff.mp e
    exact inO_ok (neg := true) sm hv hw e' q
  · cases e
theorem snd_cmp {op : CmpOp} (hK : X.K = ct.K) (hu : X.A.units + 64 < cLine) (ha : Snd ct X W x da) (hb : Snd ct X W y db) (hm : behindInMarks op y = false) : Snd ct X W (.Compare x [op] [y] pos) (dCmp op da db) where
  v := PE.imp (pe_cmpR (opC hu op) ha.b hb.b hm) fun σ H Q h => opnd2_rd (fun H => hdV ct.K H) h fun v w F H M s dx dy rl hv hw p => by
    obtain ⟨r, e, p⟩ := Pst.lift p
    obtain ⟨b, e', rfl⟩ := Option.map_eq_some_iff.mp e
    rw [hK]
    exact cmpP_ok rl.same hv hw e' (Pst.fin rl p (.bl _))
  b := PE.toB (PE.imp (pe_cmpR (opC hu op) ha.b hb.b hm) fun σ H Q h => opnd2_rd (fun H => hdV ct.K H) h fun v w F H M s dx dy rl hv hw p => by
    obtain ⟨r, e, p⟩ := Pst.lift p
    obtain ⟨b, e', rfl⟩ := Option.map_eq_some_iff.mp e
    rw [hK]
    exact cmpP_ok rl.same hv hw e' (Pst.fin rl p (.bl _)))
  t := PT.imp (pt_cmpR (opC hu op) ha.b hb.b hm) fun σ H Q h => opnd2_rd (fun H => hdT H) h fun v w F H M s dx dy rl hv hw p => by
    obtain ⟨b, e, p⟩ := Pst.lift p
    rw [hK]
    exact cmpP_ok (Q := fun x H' => ∃ k, x = .bl k ∧ Q k H') rl.same hv hw e ⟨b, rfl, Pst.fin rl p rfl⟩
end
end PI

set_option Elab.async false
set_option linter.all false
set_option autoImplicit false
set_option maxRecDepth 100000
set_option maxHeartbeats 4000000
namespace PI
open PySem L2
section
variable {ct : Ct} {X : Cx} {W : WX} {x y z : Expr} {pos : Pos} {da db dc : Den}
variable {σ : L2.St} {F H : Hp} {M : List Addr} {s : Ps} {Q : VK}

/-! ### a test, then .. -/
theorem tst_rd {α β : Type} {Dr : Hp → Hp → List Addr → Hp → β → α → Prop} {f : Ps → R Bool} {g : Bool → Ps → R α} {σ : L2.St} {H : Hp} {Q : β → Hp → Prop} {Kt : Bool → Hp → Prop}
    (hD : ∀ H H1 F' H' M' b a, (∀ p, H1 p = none → H p = none) → Dr F' H' M' H1 b a → Dr F' H' M' H b a)
    (h : ∃ F M s, Rl ct.K F H M σ s ∧ Pst ct W Dr σ F H M s Q ((f s).bind g))
    (hk : ∀ b F H M s, Rl ct.K F H M σ s → Pst ct W Dr σ F H M s Q (g b s) → Kt b H) : tTs ct W f σ H Kt := by
  obtain ⟨F, M, s, rl, p⟩ := h
  refine ⟨F, M, s, rl, ?_⟩
  have p1 := Pst.bind (f := f s) (Dr' := DrT) (hD H) p
  cases e : f s with
  | stuck => rw [e] at p1; exact p1
  | exc c fs s' => rw [e] at p1; exact p1
  | ok a s' =>
    rw [e] at p1
    intro b F' H' M' ex rl' d
    obtain ⟨b1, s1, F1, M1, ex1, rl1, d1, p2⟩ := p1 b F' H' M' ex rl' d
    subst d1
    exact hk b F1 H' M1 s1 rl1 p2
/-- a value, then .. -/
theorem val_rd {α β : Type} {Dr : Hp → Hp → List Addr → Hp → β → α → Prop} {f : Ps → R SV} {g : SV → Ps → R α} {σ : L2.St} {H : Hp} {Q : β → Hp → Prop} {Kt : V → Hp → Prop}
    (hD : ∀ H H1 F' H' M' b a, (∀ p, H1 p = none → H p = none) → Dr F' H' M' H1 b a → Dr F' H' M' H b a)
    (h : ∃ F M s, Rl ct.K F H M σ s ∧ Pst ct W Dr σ F H M s Q ((f s).bind g))
    (hk : ∀ v a F0 M0 s0 F H' M s, Rl ct.K F0 H M0 σ s0 → ExtE (Own σ s0.loc) F0 H M0 F H' M (Own σ s.loc) → Rl ct.K F H' M σ s → DnR ct.K F H' M H v a → Pst ct W Dr σ F H' M s Q (g a s) → Kt v H') : tV ct W f σ H Kt := by
  obtain ⟨F, M, s, rl, p⟩ := h
  refine ⟨F, M, s, rl, ?_⟩
  have p1 := Pst.bind (f := f s) (Dr' := DrV ct.K) (hD H) p
  cases e : f s with
  | stuck => rw [e] at p1; exact p1
  | exc c fs s' => rw [e] at p1; exact p1
  | ok a s' =>
    rw [e] at p1
    intro b F' H' M' ex rl' d
    obtain ⟨b1, s1, F1, M1, ex1, rl1, d1, p2⟩ := p1 b F' H' M' ex rl' d
    exact hk b b1 F M s F1 H' M1 s1 rl ex1 rl1 d1 p2
/-- .. known to both from then on -/
theorem fz_rd {α β : Type} {Dr : Hp → Hp → List Addr → Hp → β → α → Prop} {f : Ps → R SV} {g : SV → Ps → R α} {σ : L2.St} {H : Hp} {Q : β → Hp → Prop} {Kt : V → Hp → Prop}
    (hD : ∀ H H1 F' H' M' b a, (∀ p, H1 p = none → H p = none) → Dr F' H' M' H1 b a → Dr F' H' M' H b a)
    (h : ∃ F M s, Rl ct.K F H M σ s ∧ Pst ct W Dr σ F H M s Q ((f s).bind g))
    (hk : ∀ v a F H M s, Rl ct.K F H M σ s → Dn ct.K F M v a.pv → Pst ct W Dr σ F H M s Q (g a s) → Kt v H) : tV ct W f σ H Kt := by
  obtain ⟨F, M, s, rl, p⟩ := h
  refine ⟨F, M, s, rl, ?_⟩
  cases e : f s with
  | stuck => rw [e] at p; exact p
  | exc c fs s' => rw [e] at p; exact p
  | ok a s' =>
    rw [e] at p
    intro b F' H' M' ex rl' d
    obtain ⟨F2, e2, r2, d2⟩ := fz_ext rl ex rl' d
    exact hk b a F2 H' M' s' r2 d2 (Pst.at (r := g a s') e2 (fun _ _ _ _ _ => hD _ _ _ _ _ _ _ fun _ => e2.x.none_back) p)

theorem snd_not (hK : X.K = ct.K) (ha : Snd ct X W x da) : Snd ct X W (.UnaryOp .Not x pos) (dNot da) := by
  have hv : PE X (.UnaryOp .Not x pos) (tV ct W (dNot da).v) := PE.imp (pe_notT ha.b) fun σ H Q h => opnd1_rd (fun H => hdV ct.K H) h fun v F H M s dx rl hv p => by
    obtain ⟨r, e, p⟩ := Pst.lift p
    obtain ⟨b, e', rfl⟩ := Option.map_eq_some_iff.mp e
    exact ⟨b, by rw [hK]; exact tru_ofO hv rl.same e', Pst.fin rl p (.bl _)⟩
  refine ⟨hv, PE.toB hv, ?_⟩
  exact PT.imp (pt_not ha.t) fun σ H Q h => tst_rd (fun H => hdT H) h fun b F H M s rl p => Pst.fin rl p rfl

/-- a row of and, or -/
structure SndL (ct : Ct) (X : Cx) (W : WX) (op : BoolOp) (es : List Expr) (pos : Pos) (d : Den) : Prop where
  v : PE X (.BoolOp op es pos) (tV ct W d.v)
  t : PW X (.BoolOp op es pos) (tTs ct W d.t)
theorem sndL_one {op : BoolOp} (ha : Snd ct X W x da) : SndL ct X W op [x] pos da := by
  refine ⟨pe_one ha.v, ?_⟩
  cases op with
  | And => exact pw_and1 ha.t
  | Or => exact pw_or1 ha.t
theorem PW.imp {X : Cx} {e : Expr} {t t' : TT} (h : PW X e t) (i : ∀ σ H Q, t' σ H Q → t σ H Q) : PW X e t' := ⟨fun wh pins s σ H Q I q => h.run wh pins s σ H Q I (i σ H Q q)⟩
theorem sndL_and {rest : List Expr} (ha : Snd ct X W x da) (hb : SndL ct X W .And (y :: rest) pos db) : SndL ct X W .And (x :: y :: rest) pos (dAnd da db) where
  v := PE.imp (pe_and ha.v hb.v) fun σ H Q h => fz_rd (fun H => hdV ct.K H) h fun v a F H M s rl d p => by
    cases a with
    | own xs => exact p.elim
    | val d' =>
      cases d' with
      | bl c =>
        cases d
        refine ⟨c, rfl, ?_⟩
        cases c with
        | true => exact ⟨F, M, s, rl, p⟩
        | false => exact Pst.fin rl p (.bl _)
      | _ => exact p.elim
  t := PW.imp (pw_and ha.t hb.t) fun σ H Q h => tst_rd (fun H => hdT H) h fun b F H M s rl p => by
    cases b with
    | true => exact ⟨F, M, s, rl, p⟩
    | false => exact Pst.fin rl p rfl
theorem sndL_or {rest : List Expr} (ha : Snd ct X W x da) (hb : SndL ct X W .Or (y :: rest) pos db) : SndL ct X W .Or (x :: y :: rest) pos (dOr da db) where
  v := PE.imp (pe_or ha.v hb.v) fun σ H Q h => fz_rd (fun H => hdV ct.K H) h fun v a F H M s rl d p => by
    cases a with
    | own xs => exact p.elim
    | val d' =>
      cases d' with
      | bl c =>
        cases d
        refine ⟨c, rfl, ?_⟩
        cases c with
        | true => exact Pst.fin rl p (.bl _)
        | false => exact ⟨F, M, s, rl, p⟩
      | _ => exact p.elim
  t := PW.imp (pw_or ha.t hb.t) fun σ H Q h => tst_rd (fun H => hdT H) h fun b F H M s rl p => by
    cases b with
    | true => exact Pst.fin rl p rfl
    | false => exact ⟨F, M, s, rl, p⟩
theorem SndL.snd {op : BoolOp} {es : List Expr} {d : Den} (h : SndL ct X W op es pos d) (hv : d.vr = none) : Snd ct X W (.BoolOp op es pos) d := by
  refine ⟨h.v, ?_, h.t.pt⟩
  have e : d.b true = fun s => (d.v s).bind fun x s1 => .ok (.v x.pv) s1 := by
    funext s
    unfold Den.b
    rw [hv]
  rw [e]
  exact PE.toB h.v
theorem pt_ifExp {tA tB tC : TT} (hc : PT X x tA) (ha : PT X y tB) (hb : PT X z tC) : PT X (.IfExp x y z pos) (fun σ H Q => tA σ H fun c H1 => if c = true then tB σ H1 Q else tC σ H1 Q) := by
  refine ⟨fun pins s σ H Q I h => ?_⟩
  refine PyProof.Rows.isTrue_IfExp (thn (hc.run pins s σ H _ I h) fun d s1 ⟨H1, I1, q1⟩ => ?_)
  cases d with
  | true => exact ha.run pins s1 σ H1 Q I1 q1
  | false => exact hb.run pins s1 σ H1 Q I1 q1
theorem snd_ite (hc : Snd ct X W x dc) (ha : Snd ct X W y da) (hb : Snd ct X W z db) : Snd ct X W (.IfExp x y z pos) (dIte dc da db) := by
  have hv : PE X (.IfExp x y z pos) (tV ct W (dIte dc da db).v) := PE.imp (pe_ifExp hc.t ha.v hb.v) fun σ H Q h => tst_rd (fun H => hdV ct.K H) h fun b F H M s rl p => by
    cases b with
    | true => exact ⟨F, M, s, rl, p⟩
    | false => exact ⟨F, M, s, rl, p⟩
  refine ⟨hv, PE.toB hv, ?_⟩
  exact PT.imp (pt_ifExp hc.t ha.t hb.t) fun σ H Q h => tst_rd (fun H => hdT H) h fun b F H M s rl p => by
    cases b with
    | true => exact ⟨F, M, s, rl, p⟩
    | false => exact ⟨F, M, s, rl, p⟩

/-! ### a < b < c -/
theorem chain_rd {σ : L2.St} {H : Hp} {β : Type} {Dr : Hp → Hp → List Addr → Hp → β → Bool → Prop} {Q : β → Hp → Prop} {op op' : CmpOp} {Kt : V → Hp → Prop}
    (hD : ∀ H H1 F' H' M' b a, (∀ p, H1 p = none → H p = none) → Dr F' H' M' H1 b a → Dr F' H' M' H b a)
    (h : ∃ F M s, Rl ct.K F H M σ s ∧ Pst ct W Dr σ F H M s Q (chainR op op' da db dc s))
    (hk : ∀ b F H M s, Rl ct.K F H M σ s → Pst ct W Dr σ F H M s Q (.ok b s) → Kt (.bl b) H) :
    tChain (rC ct.K op) (rC ct.K op') (tBo ct W (da.b true)) (tBo ct W (db.b true)) (tBo ct W (dc.b true)) σ H Kt := by
  obtain ⟨F, M, s, rl, p⟩ := h
  refine ⟨F, M, s, rl, ?_⟩
  have p1 := Pst.bind (f := da.b true s) (Dr' := DrB ct.K σ) (hD H) p
  cases e : da.b true s with
  | stuck => rw [e] at p1; exact p1
  | exc c fs s' => rw [e] at p1; exact p1
  | ok a s' =>
    rw [e] at p1
    intro v F' H' M' ex rl' d
    obtain ⟨b1, s1, F1, M1, ex1, rl1, d1, p2⟩ := p1 v F' H' M' ex rl' d
    refine ⟨F1, M1, s1, rl1, ?_⟩
    have p3 := Pst.bind (f := db.b true s1) (Dr' := DrB ct.K σ) (hD H') p2
    cases e2 : db.b true s1 with
    | stuck => rw [e2] at p3; exact p3
    | exc c fs s' => rw [e2] at p3; exact p3
    | ok a2 s2' =>
      rw [e2] at p3
      intro w F2' H2' M2' ex2 rl2' dd
      obtain ⟨b2, s2, F2, M2, ex3, rl3, d3, p4⟩ := p3 w F2' H2' M2' ex2 rl2' dd
      cases q1 : deref s2 b1 with
      | none => rw [q1] at p4; exact p4.elim
      | some dx =>
        cases q2 : deref s2 b2 with
        | none => rw [q1, q2] at p4; exact p4.elim
        | some dy =>
          rw [q1, q2] at p4
          have hx := derefO rl3 (d1.mono ex3.x.fs ex3.x.pre) q1
          have hy := derefO rl3 d3 q2
          cases q3 : cmpP op dx dy with
          | none => simp only [q3] at p4; exact p4.elim
          | some k =>
            simp only [q3] at p4
            refine cmpP_ok rl3.same hx hy q3 ⟨k, rfl, ?_⟩
            cases k with
            | false => exact hk false F2 H2' M2 s2 rl3 p4
            | true =>
              refine ⟨F2, M2, s2, rl3, ?_⟩
              have p5 := Pst.bind (f := dc.b true s2) (Dr' := DrB ct.K σ) (hD H2') p4
              cases e3 : dc.b true s2 with
              | stuck => rw [e3] at p5; exact p5
              | exc c fs s' => rw [e3] at p5; exact p5
              | ok a3 s3' =>
                rw [e3] at p5
                intro u F3' H3' M3' ex4 rl4' d4'
                obtain ⟨b3, s3, F3, M3, ex5, rl5, d5, p6⟩ := p5 u F3' H3' M3' ex4 rl4' d4'
                cases q4 : deref s3 b2 with
                | none => rw [q4] at p6; exact p6.elim
                | some dy2 =>
                  cases q5 : deref s3 b3 with
                  | none => rw [q4, q5] at p6; exact p6.elim
                  | some dz =>
                    rw [q4, q5] at p6
                    obtain ⟨r, er, p7⟩ := Pst.lift p6
                    exact cmpP_ok rl5.same (derefO rl5 (d3.mono ex5.x.fs ex5.x.pre) q4) (derefO rl5 d5 q5) er (hk r F3 H3' M3 s3 rl5 p7)
theorem snd_chain {op op' : CmpOp} (hK : X.K = ct.K) (hu : X.A.units + 64 < cLine) (ha : Snd ct X W x da) (hb : Snd ct X W y db) (hc : Snd ct X W z dc) (hm : lastMarks [op, op'] [y, z] = false) : Snd ct X W (.Compare x [op, op'] [y, z] pos) (dChain op op' da db dc) := by
  have hv : PE X (.Compare x [op, op'] [y, z] pos) (tV ct W (dChain op op' da db dc).v) := PE.imp (pe_chain (opC hu op) (opC hu op') ha.b hb.b hc.b hm) fun σ H Q h => by
    obtain ⟨F, M, s, rl, p⟩ := h
    rw [hK]
    refine chain_rd (Dr := fun F' H' M' H0 v b => DrV ct.K F' H' M' H0 v (.val (.bl b))) (fun H => fun H1 F' H' M' b a hh d => d) ⟨F, M, s, rl, ?_⟩ fun b F H M s rl p => Pst.fin rl p (.bl _)
    have p : Pst ct W (DrV ct.K) σ F H M s Q ((chainR op op' da db dc s).bind fun b s1 => .ok (.val (.bl b)) s1) := p
    cases e : chainR op op' da db dc s with
    | stuck => rw [e] at p; exact p
    | exc c fs s' => rw [e] at p; exact p
    | ok a s' => rw [e] at p; exact p
  refine ⟨hv, PE.toB hv, ?_⟩
  exact PT.imp (pt_chain (opC hu op) (opC hu op') ha.b hb.b hc.b hm) fun σ H Q h => by
    rw [hK]
    exact chain_rd (fun H => hdT H) h fun b F H M s rl p => ⟨b, rfl, Pst.fin rl p rfl⟩
end
end PI

set_option Elab.async false
set_option linter.all false
set_option autoImplicit false
set_option maxRecDepth 100000
set_option maxHeartbeats 4000000
namespace PI
open PySem L2
def DnBs (K : PySem.W.Frag) (σ : L2.St) (F : Hp) (M : List Addr) : List V → List BV → Prop
  | [], [] => True
  | v :: vs, b :: bs => DnB K σ F M v b ∧ DnBs K σ F M vs bs
  | _, _ => False
def DnOs (K : PySem.W.Frag) (F H : Hp) (M : List Addr) : List V → List PV → Prop
  | [], [] => True
  | v :: vs, b :: bs => DnO K F H M v b ∧ DnOs K F H M vs bs
  | _, _ => False
abbrev DrBs (K : PySem.W.Frag) (σ : L2.St) : Hp → Hp → List Addr → Hp → List V → List BV → Prop := fun F _ M _ v x => DnBs K σ F M v x
def tBsR (ct : Ct) (W : WX) (f : Ps → R (List BV)) : TA := fun σ H Q => ∃ F M s, Rl ct.K F H M σ s ∧ Pst ct W (DrBs ct.K σ) σ F H M s Q (f s)
theorem PA.imp {X : Cx} {e : List Expr} {t t' : TA} (h : PA X e t) (i : ∀ σ H Q, t' σ H Q → t σ H Q) : PA X e t' := ⟨fun pos pins s σ H Q I q => h.run pos pins s σ H Q I (i σ H Q q)⟩

def noStar : Expr → Bool
  | .Starred .. => false
  | _ => true
theorem starEach_cons {e : Expr} (es : List Expr) (env : Env) (h : noStar e = true) : starEach (e :: es) env = (false, eval e env) :: starEach es env := by
  cases e <;> first | rfl | cases h
theorem starEach_any {env : Env} {pos : Pos} : ∀ {es : List Expr}, es.all noStar = true → (backTo pos (starEach es env)).any (·.1) = false
  | [], _ => rfl
  | e :: es, h => by
    rw [List.all_cons, Bool.and_eq_true] at h
    rw [starEach_cons es env h.1]
    have := starEach_any (env := env) (pos := pos) h.2
    simpa [backTo] using this

section
variable {ct : Ct} {X : Cx} {W : WX} {x y z : Expr} {pos : Pos} {da db dc : Den}
theorem Den.b_false (d : Den) (s : Ps) : d.b false s = (d.v s).bind fun x s1 => .ok (.v x.pv) s1 := by
  unfold Den.b
  cases d.vr <;> rfl
theorem Snd.bb (h : Snd ct X W x da) (b : Bool) : PE X x (tBo ct W (da.b b)) := by
  cases b with
  | true => exact h.b
  | false =>
    have e : da.b false = fun s => (da.v s).bind fun x s1 => .ok (.v x.pv) s1 := by funext s; exact Den.b_false da s
    rw [e]
    exact PE.toB h.v
theorem DnBs.mono {K : PySem.W.Frag} {σ : L2.St} {F F' : Hp} {M M' : List Addr} (e : Same F F') (m : M <+: M') : ∀ {vs : List V} {bs : List BV}, DnBs K σ F M vs bs → DnBs K σ F' M' vs bs
  | [], [], _ => trivial
  | _ :: _, _ :: _, h => ⟨h.1.mono e m, DnBs.mono e m h.2⟩
  | [], _ :: _, h => h.elim
  | _ :: _, [], h => h.elim
theorem derefsO {σ : L2.St} {F H : Hp} {M : List Addr} {s : Ps} (rl : Rl ct.K F H M σ s) : ∀ {vs : List V} {bs : List BV} {ds : List PV}, DnBs ct.K σ F M vs bs → derefs s bs = some ds → DnOs ct.K F H M vs ds
  | [], [], ds, _, e => by cases e; trivial
  | v :: vs, b :: bs, ds, h, e => by
    have e : (match deref s b, derefs s bs with
      | some d, some ds => some (d :: ds)
      | _, _ => none) = some ds := e
    cases q1 : deref s b with
    | none => rw [q1] at e; cases e
    | some d =>
      cases q2 : derefs s bs with
      | none => rw [q1, q2] at e; cases e
      | some ds' =>
        rw [q1, q2] at e
        cases e
        exact ⟨derefO rl h.1 q1, derefsO rl h.2 q2⟩
  | [], _ :: _, _, h, _ => h.elim
  | _ :: _, [], _, h, _ => h.elim
theorem DnOs.length {K : PySem.W.Frag} {F H : Hp} {M : List Addr} : ∀ {vs : List V} {ds : List PV}, DnOs K F H M vs ds → vs.length = ds.length
  | [], [], _ => rfl
  | _ :: _, _ :: _, h => by rw [List.length_cons, List.length_cons, DnOs.length h.2]
  | [], _ :: _, h => h.elim
  | _ :: _, [], h => h.elim

theorem pa_nilB {b : Bool} : PA X [] (tBsR ct W (Den.bs b [])) := PA.imp pa_nil fun σ H Q ⟨F, M, s, rl, p⟩ => Pst.fin rl p trivial
theorem pa_consB {b : Bool} {es : List Expr} {ds : List Den} (ha : Snd ct X W x da) (hr : PA X es (tBsR ct W (Den.bs b ds))) (hs : noStar x = true) : PA X (x :: es) (tBsR ct W (Den.bs b (da :: ds))) := by
  refine PA.imp (pa_cons (ha.bb b) hr (starEach_cons es X.env hs)) fun σ H Q ⟨F, M, s, rl, p⟩ => ?_
  refine ⟨F, M, s, rl, ?_⟩
  have p1 := Pst.bind (f := da.b b s) (Dr' := DrB ct.K σ) (fun _ _ _ _ _ _ _ d => d) p
  cases e : da.b b s with
  | stuck => rw [e] at p1; exact p1
  | exc c fs s' => rw [e] at p1; exact p1
  | ok a s' =>
    rw [e] at p1
    intro v F' H' M' ex rl' d
    obtain ⟨b1, s1, F1, M1, ex1, rl1, d1, p2⟩ := p1 v F' H' M' ex rl' d
    refine ⟨F1, M1, s1, rl1, ?_⟩
    have p3 := Pst.bind (f := Den.bs b ds s1) (Dr' := DrBs ct.K σ) (fun _ _ _ _ _ _ _ d => d) p2
    cases e2 : Den.bs b ds s1 with
    | stuck => rw [e2] at p3; exact p3
    | exc c fs s' => rw [e2] at p3; exact p3
    | ok a2 s2' =>
      rw [e2] at p3
      intro w F2' H2' M2' ex2 rl2' dd
      obtain ⟨b2, s2, F2, M2, ex3, rl3, d3, p4⟩ := p3 w F2' H2' M2' ex2 rl2' dd
      exact Pst.fin rl3 p4 ⟨d1.mono ex3.x.fs ex3.x.pre, d3⟩

theorem opnds_rd {α β : Type} {Dr : Hp → Hp → List Addr → Hp → β → α → Prop} {σ : L2.St} {H : Hp} {Q : β → Hp → Prop} {b : Bool} {ds : List Den} {f : List PV → Ps → R α} {Kt : List V → Hp → Prop}
    (hD : ∀ H H1 F' H' M' b a, (∀ p, H1 p = none → H p = none) → Dr F' H' M' H1 b a → Dr F' H' M' H b a)
    (h : ∃ F M s, Rl ct.K F H M σ s ∧ Pst ct W Dr σ F H M s Q (opnds b ds f s))
    (hk : ∀ vs F H M s es bs, Rl ct.K F H M σ s → DnBs ct.K σ F M vs bs → derefs s bs = some es → DnOs ct.K F H M vs es → Pst ct W Dr σ F H M s Q (f es s) → Kt vs H) :
    tBsR ct W (Den.bs b ds) σ H Kt := by
  obtain ⟨F, M, s, rl, p⟩ := h
  refine ⟨F, M, s, rl, ?_⟩
  have p1 := Pst.bind (f := Den.bs b ds s) (Dr' := DrBs ct.K σ) (hD H) p
  cases e : Den.bs b ds s with
  | stuck => rw [e] at p1; exact p1
  | exc c fs s' => rw [e] at p1; exact p1
  | ok a s' =>
    rw [e] at p1
    intro v F' H' M' ex rl' d
    obtain ⟨b1, s1, F1, M1, ex1, rl1, d1, p2⟩ := p1 v F' H' M' ex rl' d
    cases q : derefs s1 b1 with
    | none => rw [q] at p2; exact p2.elim
    | some dx =>
      rw [q] at p2
      exact hk v F1 H' M1 s1 dx b1 rl1 d1 q (derefsO rl1 d1 q) p2
/-- operands that were all copied -/
theorem bs_vals {s s' : Ps} {ds : List Den} : ∀ {bs : List BV}, Den.bs false ds s = .ok bs s' → ∀ b ∈ bs, ∃ d, b = .v d := by
  induction ds generalizing s s' with
  | nil => intro bs e b hb; cases e; cases hb
  | cons d ds ih =>
    intro bs e b hb
    have e : ((d.b false s).bind fun x s1 => (Den.bs false ds s1).bind fun xs s2 => .ok (x :: xs) s2) = .ok bs s' := e
    rw [Den.b_false] at e
    cases q : d.v s with
    | stuck => rw [q] at e; cases e
    | exc c fs s' => rw [q] at e; cases e
    | ok a s1 =>
      rw [q] at e
      have e : ((Den.bs false ds s1).bind fun xs s2 => R.ok (BV.v a.pv :: xs) s2) = .ok bs s' := e
      cases q2 : Den.bs false ds s1 with
      | stuck => rw [q2] at e; cases e
      | exc c fs s' => rw [q2] at e; cases e
      | ok a2 s2 =>
        rw [q2] at e
        cases e
        rcases List.mem_cons.mp hb with rfl | hb
        · exact ⟨_, rfl⟩
        · exact ih q2 b hb
theorem dns_of {σ : L2.St} {F : Hp} {M : List Addr} {s : Ps} {K : PySem.W.Frag} : ∀ {vs : List V} {bs : List BV} {es : List PV}, DnBs K σ F M vs bs → (∀ b ∈ bs, ∃ d, b = .v d) → derefs s bs = some es → Dns K F M vs es
  | [], [], es, _, _, e => by cases e; exact .nil
  | v :: vs, b :: bs, es, h, hb, e => by
    obtain ⟨d, rfl⟩ := hb b List.mem_cons_self
    have e : (match some d, derefs s bs with
      | some d, some ds => some (d :: ds)
      | _, _ => none) = some es := e
    cases q2 : derefs s bs with
    | none => rw [q2] at e; cases e
    | some ds' =>
      rw [q2] at e
      cases e
      exact .cons h.1 (dns_of h.2 (fun b hm => hb b (List.mem_cons_of_mem _ hm)) q2)
  | [], _ :: _, _, h, _, _ => h.elim
  | _ :: _, [], _, h, _, _ => h.elim
theorem bs_len {b : Bool} {ds : List Den} : ∀ {s s' : Ps} {bs : List BV}, Den.bs b ds s = .ok bs s' → bs.length = ds.length := by
  induction ds with
  | nil => intro s s' bs e; cases e; rfl
  | cons d ds ih =>
    intro s s' bs e
    have e : ((d.b b s).bind fun x s1 => (Den.bs b ds s1).bind fun xs s2 => .ok (x :: xs) s2) = .ok bs s' := e
    cases q : d.b b s with
    | stuck => rw [q] at e; cases e
    | exc c fs s' => rw [q] at e; cases e
    | ok a s1 =>
      rw [q] at e
      have e : ((Den.bs b ds s1).bind fun xs s2 => R.ok (a :: xs) s2) = .ok bs s' := e
      cases q2 : Den.bs b ds s1 with
      | stuck => rw [q2] at e; cases e
      | exc c fs s' => rw [q2] at e; cases e
      | ok a2 s2 =>
        rw [q2] at e
        cases e
        rw [List.length_cons, List.length_cons, ih q2]
theorem derefs_len {s : Ps} : ∀ {bs : List BV} {es : List PV}, derefs s bs = some es → es.length = bs.length
  | [], es, e => by cases e; rfl
  | b :: bs, es, e => by
    have e : (match deref s b, derefs s bs with
      | some d, some ds => some (d :: ds)
      | _, _ => none) = some es := e
    cases q1 : deref s b with
    | none => rw [q1] at e; cases e
    | some d =>
      cases q2 : derefs s bs with
      | none => rw [q1, q2] at e; cases e
      | some ds' =>
        rw [q1, q2] at e
        cases e
        rw [List.length_cons, List.length_cons, derefs_len q2]
/-- .. of copied operands -/
theorem opndsF_rd {α β : Type} {Dr : Hp → Hp → List Addr → Hp → β → α → Prop} {σ : L2.St} {H : Hp} {Q : β → Hp → Prop} {ds : List Den} {f : List PV → Ps → R α} {Kt : List V → Hp → Prop}
    (hD : ∀ H H1 F' H' M' b a, (∀ p, H1 p = none → H p = none) → Dr F' H' M' H1 b a → Dr F' H' M' H b a)
    (h : ∃ F M s, Rl ct.K F H M σ s ∧ Pst ct W Dr σ F H M s Q (opnds false ds f s))
    (hk : ∀ vs F H M s es, Rl ct.K F H M σ s → Dns ct.K F M vs es → es.length = ds.length → Pst ct W Dr σ F H M s Q (f es s) → Kt vs H) :
    tBsR ct W (Den.bs false ds) σ H Kt := by
  obtain ⟨F, M, s, rl, p⟩ := h
  refine ⟨F, M, s, rl, ?_⟩
  cases e : Den.bs false ds s with
  | stuck => unfold opnds at p; rw [e] at p; exact p
  | exc c fs s' => unfold opnds at p; rw [e] at p; exact p
  | ok a s' =>
    unfold opnds at p
    rw [e] at p
    intro v F' H' M' ex rl' d
    have p2 := Pst.at (F1 := F') (H1 := H') (M1 := M') (s1 := s') ex (fun _ _ _ _ _ => hD _ _ _ _ _ _ _ fun _ => ex.x.none_back) p
    have p2 : Pst ct W Dr σ F' H' M' s' Q (match derefs s' a with
      | some ds => f ds s'
      | none => .stuck) := p2
    cases q : derefs s' a with
    | none => rw [q] at p2; exact p2.elim
    | some dx =>
      rw [q] at p2
      exact hk v F' H' M' s' dx rl' (dns_of d (bs_vals e) q) (by rw [derefs_len q, bs_len e]) p2

/-! ### displays -/
theorem snd_tup {es : List Expr} {ds : List Den} {k1 : Nat} (hK : X.K = ct.K) (ha : PA X es (tBsR ct W (Den.bs false ds))) (hl : ds.length ≤ lim) : Snd ct X W (.Tuple es k1 pos) (dTup ds) :=
  Snd.ofV hK (PE.imp (pe_tup ha) fun σ H Q h => opndsF_rd (fun H => hdV ct.K H) h fun vs F H M s es rl d le p =>
    ⟨by rw [lim_eq, d.length, le]; exact hl, fun q hq => fin_tup rl p hq d⟩) fun _ => rfl
theorem snd_lst {es : List Expr} {ds : List Den} (hK : X.K = ct.K) (ha : PA X es (tBsR ct W (Den.bs false ds))) (hl : ds.length ≤ lim) : Snd ct X W (.List es pos) (dLst ds) :=
  Snd.ofV hK (PE.imp (pe_lst ha) fun σ H Q h => opndsF_rd (fun H => hdV ct.K H) h fun vs F H M s es rl d le p =>
    ⟨by rw [lim_eq, d.length, le]; exact hl, fun q hq => fin_lst rl p hq d⟩) fun _ => rfl

/-! ### displays with stars -/
abbrev DrS (K : PySem.W.Frag) : Hp → Hp → List Addr → Hp → List V → List PV → Prop := fun F _ M _ vs ds => Dns K F M vs ds
def tSp (ct : Ct) (W : WX) (f : Ps → R (List PV)) : TA := fun σ H Q => ∃ F M s, Rl ct.K F H M σ s ∧ Pst ct W (DrS ct.K) σ F H M s Q (f s)
def unStar (b : Bool) (x : Expr) : Option Expr := match b, x with
  | true, .Starred y _ => some y
  | false, y => if noStar y then some y else none
  | _, _ => none
theorem pa_nilS {fl : List Bool} : PA X [] (tSp ct W (spl fl [])) := PA.imp pa_nil fun σ H Q ⟨F, M, s, rl, p⟩ => Pst.fin rl p .nil
theorem splE {b : Bool} {fl : List Bool} {ds : List Den} {s : Ps} : spl (b :: fl) (da :: ds) s = (da.b false s).bind fun x s1 => match x with
    | .v d => (match splP b d with
      | some ys => (spl fl ds s1).bind fun xs s2 => .ok (ys ++ xs) s2
      | none => .stuck)
    | .s _ => .stuck := by
  rw [Den.b_false]
  show (da.v s).bind _ = _
  cases da.v s <;> rfl
theorem pa_consS {b : Bool} {fl : List Bool} {es : List Expr} {ds : List Den} {y : Expr} (hK : X.K = ct.K) (hu : unStar b x = some y) (ha : Snd ct X W y da) (hr : PA X es (tSp ct W (spl fl ds))) : PA X (x :: es) (tSp ct W (spl (b :: fl) (da :: ds))) := by
  have key : ∀ {σ : L2.St} {H : Hp} {Q : List V → Hp → Prop} {Kt : V → Hp → Prop}, tSp ct W (spl (b :: fl) (da :: ds)) σ H Q →
      (∀ v d ys F H M s, Rl ct.K F H M σ s → Dn ct.K F M v d → splP b d = some ys → tSp ct W (spl fl ds) σ H (fun ws H2 => ∀ zs, Dns ct.K F M zs ys → Q (zs ++ ws) H2) → Kt v H) → tBo ct W (da.b false) σ H Kt := by
    intro σ H Q Kt ⟨F, M, s, rl, p⟩ hk
    rw [splE] at p
    refine ⟨F, M, s, rl, ?_⟩
    have p1 := Pst.bind (f := da.b false s) (Dr' := DrB ct.K σ) (fun _ _ _ _ _ _ _ d => d) p
    cases e : da.b false s with
    | stuck => rw [e] at p1; exact p1
    | exc c fs s' => rw [e] at p1; exact p1
    | ok a s' =>
      rw [e] at p1
      intro v F' H' M' ex rl' d
      obtain ⟨b1, s1, F1, M1, ex1, rl1, d1, p2⟩ := p1 v F' H' M' ex rl' d
      cases b1 with
      | s i => exact p2.elim
      | v d0 =>
        have d1 : Dn ct.K F1 M1 v d0 := d1
        cases q : splP b d0 with
        | none => simp only [q] at p2; exact p2.elim
        | some ys =>
          simp only [q] at p2
          refine hk v d0 ys F1 H' M1 s1 rl1 d1 q ⟨F1, M1, s1, rl1, ?_⟩
          have p3 := Pst.bind (f := spl fl ds s1) (Dr' := DrS ct.K) (fun _ _ _ _ _ _ _ d => d) p2
          cases e2 : spl fl ds s1 with
          | stuck => rw [e2] at p3; exact p3
          | exc c fs s' => rw [e2] at p3; exact p3
          | ok a2 s2' =>
            rw [e2] at p3
            intro w F2' H2' M2' ex2 rl2' dd zs hzs
            obtain ⟨b2, s2, F2, M2, ex3, rl3, d3, p4⟩ := p3 w F2' H2' M2' ex2 rl2' dd
            exact Pst.fin rl3 p4 ((hzs.mono ex3.x.fs ex3.x.pre).append d3)
  cases b with
  | false =>
    have hu : (if noStar x then some x else none) = some y := by
      have : unStar false x = if noStar x then some x else none := by cases x <;> rfl
      rw [← this]; exact hu
    by_cases hn : noStar x = true
    · rw [if_pos hn] at hu
      cases hu
      refine PA.imp (pa_cons (ha.bb false) hr (starEach_cons es X.env hn)) fun σ H Q h => key h fun v d ys F H M s rl dn q k => ?_
      cases q
      obtain ⟨F2, M2, s2, rl2, p2⟩ := k
      exact ⟨F2, M2, s2, rl2, Pst.weak p2 fun ws H2 z => z [v] (.cons dn .nil)⟩
    · rw [if_neg hn] at hu; cases hu
  | true =>
    have : ∃ p, x = .Starred y p := by
      cases x <;> first | (cases hu; exact ⟨_, rfl⟩) | (cases hu; done)
    obtain ⟨p0, rfl⟩ := this
    refine PA.imp (StX.pa_star (ha.bb false) hr rfl) fun σ H Q h => key h fun v d ys F H M s rl dn q k => ?_
    obtain ⟨F2, M2, s2, rl2, p2⟩ := k
    cases d with
    | lst xs =>
      cases q
      cases dn with
      | lst h1 h2 => exact ⟨_, _, rfl, .inr (SqL.of (rl.same _ _ h1)), F2, M2, s2, rl2, Pst.weak p2 fun ws H2 z => z _ h2⟩
    | tup xs =>
      cases q
      cases dn with
      | tup h1 h2 => exact ⟨_, _, rfl, .inl (by rw [hK]; exact sqT_mono rl.same h1), F2, M2, s2, rl2, Pst.weak p2 fun ws H2 z => z _ h2⟩
    | _ => cases q
theorem dsp_rd {σ : L2.St} {H : Hp} {Q : VK} {t : Bool} {fl : List Bool} {ds : List Den} {Kt : List V → Hp → Prop} (h : tV ct W (dDsp t fl ds).v σ H Q)
    (hk : ∀ vs xs F H M s, Rl ct.K F H M σ s → Dns ct.K F M vs xs → xs.length ≤ lim → Pst ct W (DrV ct.K) σ F H M s Q (.ok (if t then .val (.tup xs) else .own xs) s) → Kt vs H) : tSp ct W (spl fl ds) σ H Kt := by
  obtain ⟨F, M, s, rl, p⟩ := h
  refine ⟨F, M, s, rl, ?_⟩
  have p1 := Pst.bind (f := spl fl ds s) (Dr' := DrS ct.K) (hdV ct.K H) p
  cases e : spl fl ds s with
  | stuck => rw [e] at p1; exact p1
  | exc c fs s' => rw [e] at p1; exact p1
  | ok a s' =>
    rw [e] at p1
    intro v F' H' M' ex rl' d
    obtain ⟨b1, s1, F1, M1, ex1, rl1, d1, p2⟩ := p1 v F' H' M' ex rl' d
    by_cases hl : b1.length ≤ lim
    · rw [if_pos hl] at p2
      exact hk v b1 F1 H' M1 s1 rl1 d1 hl p2
    · rw [if_neg hl] at p2; exact p2.elim
theorem snd_dspT {es : List Expr} {fl : List Bool} {ds : List Den} {k1 : Nat} (hK : X.K = ct.K) (ha : PA X es (tSp ct W (spl fl ds))) : Snd ct X W (.Tuple es k1 pos) (dDsp true fl ds) :=
  Snd.ofV hK (PE.imp (pe_tup ha) fun σ H Q h => dsp_rd h fun vs xs F H M s rl d le p =>
    ⟨by rw [lim_eq, d.length]; exact le, fun q hq => fin_tup rl p hq d⟩) fun _ => rfl
theorem snd_dspL {es : List Expr} {fl : List Bool} {ds : List Den} (hK : X.K = ct.K) (ha : PA X es (tSp ct W (spl fl ds))) : Snd ct X W (.List es pos) (dDsp false fl ds) :=
  Snd.ofV hK (PE.imp (pe_lst ha) fun σ H Q h => dsp_rd h fun vs xs F H M s rl d le p =>
    ⟨by rw [lim_eq, d.length]; exact le, fun q hq => fin_lst rl p hq d⟩) fun _ => rfl
/-! ### a[i] -/
theorem SqL.scr_at {K : PySem.W.Frag} {ns : List Int} {i : Int} {n : Int} (e : atP ns i = some n) : atI (ns.map V.int) i = some (V.int n) := by
  have e' : (ixN ns.length i).bind (fun j => ns[j]?) = some n := e
  show (ixN (ns.map V.int).length i).bind (fun j => (ns.map V.int)[j]?) = some (V.int n)
  rw [List.length_map]
  cases q : ixN ns.length i with
  | none => rw [q] at e'; cases e'
  | some j =>
    rw [q] at e'
    have e' : ns[j]? = some n := e'
    show (ns.map V.int)[j]? = some (V.int n)
    rw [List.getElem?_map, e']; rfl
theorem idxP_ok {σ : L2.St} {F H : Hp} {M : List Addr} {s : Ps} {Q : VK} {v w : V} {dx dy d : PV} (rl : Rl ct.K F H M σ s) (hv : DnO ct.K F H M v dx) (hw : DnO ct.K F H M w dy) (e : idxP s.sto dx dy = some d) (p : Pst ct W (DrV ct.K) σ F H M s Q (.ok (.val d) s)) : rIx ct.K v w H Q := by
  unfold idxP at e
  split at e
  · obtain ⟨l, vs, rfl, h1, d1⟩ := hv.lst rl.same
    obtain ⟨u, e1, e2⟩ := d1.at e
    exact .inl ⟨l, vs, _, u, rfl, hw.int, SqL.of h1, e1, Pst.fin rl p e2⟩
  · obtain ⟨l, vs, rfl, h1, d1⟩ := hv.tup rl.same
    obtain ⟨u, e1, e2⟩ := d1.at e
    exact .inr (.inl ⟨l, vs, _, u, rfl, hw.int, h1, e1, Pst.fin rl p e2⟩)
  · obtain ⟨n, e1, rfl⟩ := Option.map_eq_some_iff.mp e
    rcases hv with h | ⟨_, _, _, _, e, _⟩
    · cases h with
      | scr h1 => exact .inl ⟨_, _, _, _, rfl, hw.int, rl.same.seq h1, SqL.scr_at (K := ct.K) e1, Pst.fin rl p (.int _)⟩
    · cases e
  · split at e
    · rename_i hl
      obtain ⟨c, e1, rfl⟩ := Option.map_eq_some_iff.mp e
      exact .inr (.inr ⟨_, _, c, hv.str, hw.int, by rw [lim_eq]; exact hl, e1, Pst.fin rl p (.str _)⟩)
    · cases e
  · split at e
    · rename_i k i xs hk
      rcases hv with h | ⟨_, _, _, _, e, _⟩
      · cases h with
        | ref h1 =>
          obtain ⟨_, vs, h2, h3⟩ : F _ = none ∧ ∃ vs, H _ = some (.lst vs) ∧ Dns ct.K F M vs xs := rl.sto.ok _ _ _ hk h1
          obtain ⟨u, e1, e2⟩ := h3.at e
          exact .inl ⟨_, vs, _, u, rfl, hw.int, SqL.of h2, e1, Pst.fin rl p e2⟩
      · cases e
    · cases e
  · cases e
theorem snd_idx (hK : X.K = ct.K) (ha : Snd ct X W x da) (hb : Snd ct X W y db) (hs : PlainIx y) : Snd ct X W (.Subscript x y pos) (dIdx da db) :=
  Snd.ofV hK (PE.imp (pe_ix ix_seq ha.b hb.b hs) fun σ H Q h => opnd2_rd (fun H => hdV ct.K H) h fun v w F H M s dx dy rl hv hw p => by
    obtain ⟨r, e, p⟩ := Pst.lift p
    obtain ⟨d, e', rfl⟩ := Option.map_eq_some_iff.mp e
    rw [hK]
    exact idxP_ok rl hv hw e' p) fun _ => rfl

theorem Dns.drop {K : PySem.W.Frag} {F : Hp} {M : List Addr} : ∀ (n : Nat) {vs : List V} {ds : List PV}, Dns K F M vs ds → Dns K F M (vs.drop n) (ds.drop n)
  | 0, _, _, h => h
  | n + 1, _, _, .nil => .nil
  | n + 1, _, _, .cons _ t => Dns.drop n t
theorem Dns.take {K : PySem.W.Frag} {F : Hp} {M : List Addr} : ∀ (n : Nat) {vs : List V} {ds : List PV}, Dns K F M vs ds → Dns K F M (vs.take n) (ds.take n)
  | 0, _, _, _ => by simp; exact .nil
  | n + 1, _, _, .nil => .nil
  | n + 1, _, _, .cons h t => .cons h (Dns.take n t)
theorem Dns.cut {K : PySem.W.Frag} {F : Hp} {M : List Addr} {vs : List V} {ds : List PV} (h : Dns K F M vs ds) (lo hi : Option Int) : Dns K F M (cutV vs lo hi) (cutP ds lo hi) := by
  unfold cutV cutP
  rw [h.length]
  exact (h.drop _).take _
theorem cutP_whole {ds : List PV} {lo hi : Option Int} (h : HT.sIx ds.length 0 lo = 0 ∧ HT.sIx ds.length ds.length hi = ds.length) : cutP ds lo hi = ds := by
  unfold cutP
  rw [h.1, h.2]; simp
def rSl (K : PySem.W.Frag) : V → Option Int → Option Int → Hp → VK → Prop := fun x lo hi H Q => (rSlL K x lo hi H Q ∨ rSlA K x lo hi H Q) ∨ rSlS x lo hi H Q
theorem sl_all : SlR X (rSl X.K) := (sl_list.or sl_tupA).or sl_str
theorem slice_ok {σ : L2.St} {F H : Hp} {M : List Addr} {s : Ps} {Q : VK} {v : V} {dx : PV} {lo hi : Option Int} {z : SV} (rl : Rl ct.K F H M σ s) (hv : DnO ct.K F H M v dx) (e : sliceP lo hi dx = some z) (p : Pst ct W (DrV ct.K) σ F H M s Q (.ok z s)) : rSl ct.K v lo hi H Q := by
  unfold sliceP at e
  split at e
  · cases e
    obtain ⟨l, ws, rfl, h1, d1⟩ := hv.lst rl.same
    exact .inl (.inl ⟨_, ws, rfl, SqL.of h1, fun q hq => fin_lst rl p hq (d1.cut lo hi)⟩)
  · rename_i xs
    cases e
    rcases hv with h0 | ⟨_, _, _, _, e, _⟩
    · obtain ⟨l, ws, rfl, h1, d1⟩ := (show DnO ct.K F H M v (.tup xs) from .inl h0).tup rl.same
      refine .inl (.inr ⟨_, ws, rfl, h1, fun hw => ?_, fun _ q hq => fin_tup rl p hq (d1.cut lo hi)⟩)
      rw [d1.length] at hw
      rw [cutP_whole hw] at p
      exact Pst.fin rl p h0
    · cases e
  · split at e
    · rename_i hl
      cases e
      exact .inr ⟨_, hv.str, by rw [lim_eq]; exact hl, Pst.fin rl p (.str _)⟩
    · cases e
  · cases e
theorem snd_slo {p2 : Pos} (hK : X.K = ct.K) (ha : Snd ct X W x da) (hb : Snd ct X W y db) : Snd ct X W (.Subscript x (.Slice (some y) none none p2) pos) (dSlo da db) :=
  Snd.ofV hK (PE.imp (pe_slice sl_all ha.b (po_some hb.b) po_none) fun σ H Q h => opnd2_rd (fun H => hdV ct.K H) h fun v w F H M s dx dy rl hv hw p => by
    obtain ⟨r, e, p'⟩ := Pst.lift p
    clear p
    unfold sloP at e
    split at e
    · exact ⟨_, hw.int, by rw [hK]; exact slice_ok rl hv e p'⟩
    · cases e) fun _ => rfl
theorem snd_shi {p2 : Pos} (hK : X.K = ct.K) (ha : Snd ct X W x da) (hb : Snd ct X W y db) : Snd ct X W (.Subscript x (.Slice none (some y) none p2) pos) (dShi da db) :=
  Snd.ofV hK (PE.imp (pe_slice sl_all ha.b po_none (po_some hb.b)) fun σ H Q h => opnd2_rd (fun H => hdV ct.K H) h fun v w F H M s dx dy rl hv hw p => by
    obtain ⟨r, e, p'⟩ := Pst.lift p
    clear p
    unfold shiP at e
    split at e
    · exact ⟨_, hw.int, by rw [hK]; exact slice_ok rl hv e p'⟩
    · cases e) fun _ => rfl
theorem snd_sl2 {z : Expr} {dc : Den} {p2 : Pos} (hK : X.K = ct.K) (ha : Snd ct X W x da) (hb : Snd ct X W y db) (hc : Snd ct X W z dc) : Snd ct X W (.Subscript x (.Slice (some y) (some z) none p2) pos) (dSl2 da db dc) :=
  Snd.ofV hK (PE.imp (pe_slice sl_all ha.b (po_some hb.v) (po_some hc.b)) fun σ H Q h => sl2_rd (Kt := fun v i u H => ∃ j, u = .int j ∧ rSl X.K v (some i) (some j) H Q) h fun v i u F H M s dx dz rl hv hu p => by
    obtain ⟨r, e, p'⟩ := Pst.lift p
    clear p
    unfold shi2P at e
    split at e
    · exact ⟨_, hu.int, by rw [hK]; exact slice_ok rl hv e p'⟩
    · cases e) fun _ => rfl
theorem Dns.strs {K : PySem.W.Frag} {F : Hp} {M : List Addr} : ∀ {vs : List V} {ds : List PV} {bs : List Str}, Dns K F M vs ds → unStrs ds = some bs → vs = bs.map V.str
  | _, _, _, .nil, h => by cases h; rfl
  | _, _, _, .cons (d := d) h t, e => by
    cases d with
    | str b =>
      have e : (unStrs _).map (b :: ·) = some _ := e
      obtain ⟨bs, e1, rfl⟩ := Option.map_eq_some_iff.mp e
      cases h
      rw [t.strs e1]; rfl
    | _ => cases e
theorem snd_join {sep : Str} {j : Nat} {p2 apos : Pos} (hK : X.K = ct.K) (ha : Snd ct X W x da) (hs : noStar x = true) (hline : (apos.endLine == pos.line) = true) :
    Snd ct X W (.Call (.Attribute (.Constant (.str sep) j p2) "join" apos) [x] [] pos) (dJoin sep da) :=
  Snd.ofV hK (PE.imp (pe_join pe_str ha.b (starEach_cons [] X.env hs) rfl hline) fun σ H Q h => ⟨⟨_, rfl⟩, opnd1_rd (fun H => hdV ct.K H) h fun v F H M s dx rl hv p => by
    obtain ⟨r, e, p⟩ := Pst.lift p
    unfold joinP at e
    split at e
    · unfold joinL at e
      split at e
      · rename_i ys hy
        split at e
        · rename_i hl
          cases e
          obtain ⟨l, ws, rfl, h1, d1⟩ := hv.lst rl.same
          have ew := d1.strs hy
          subst ew
          exact ⟨_, _, ys, rfl, rfl, .inl (SqL.of h1), hl, Pst.fin rl p (.str _)⟩
        · cases e
      · cases e
    · unfold joinL at e
      split at e
      · rename_i ys hy
        split at e
        · rename_i hl
          cases e
          obtain ⟨l, ws, rfl, h1, d1⟩ := hv.tup rl.same
          have ew := d1.strs hy
          subst ew
          exact ⟨_, _, ys, rfl, rfl, .inr (by rw [hK]; exact h1), hl, Pst.fin rl p (.str _)⟩
        · cases e
      · cases e
    · cases e⟩) fun _ => rfl
/-! ### built-ins -/
/-- a built-in function or class by its name -/
def Pm.name : Pm → Str
  | .len => "len"
  | .int => "int"
  | .max2 => "max"
  | .min2 => "min"
  | .sum => "sum"
  | .all => "all"
  | .tup => "tuple"
  | .lst => "list"
  | .maxL => "max"
  | .minL => "min"
  | .srt => "sorted"
  | .str => "str"
  | .lstR => "list"
  | .tupR => "tuple"
  | .srtS => "sorted"
  | .lenS => "len"
  | .lstZ => "list"
def Pm.fn : Pm → Bool
  | .int => false
  | .tup => false
  | .lst => false
  | .str => false
  | .lstR => false
  | .tupR => false
  | .lstZ => false
  | _ => true
def Pm.id : Pm → String
  | .len => "len"
  | .int => "int"
  | .max2 => "max"
  | .min2 => "min"
  | .sum => "sum"
  | .all => "all"
  | .tup => "tuple"
  | .lst => "list"
  | .maxL => "max"
  | .minL => "min"
  | .srt => "sorted"
  | .str => "str"
  | .lstR => "list"
  | .tupR => "tuple"
  | .srtS => "sorted"
  | .lenS => "len"
  | .lstZ => "list"
theorem maxI_ok : ∀ {xs : List Int} {m : Int}, maxI xs = some m → m ∈ xs ∧ ∀ y ∈ xs, y ≤ m
  | x :: xs, m, h => by
    unfold maxI at h
    cases e : maxI xs with
    | none =>
      rw [e] at h
      cases h
      cases xs with
      | nil => simp
      | cons y ys => unfold maxI at e; split at e <;> cases e
    | some k =>
      rw [e] at h
      obtain ⟨h1, h2⟩ := maxI_ok e
      by_cases g : k ≤ x
      · have h : some (if k ≤ x then x else k) = some m := h
        rw [if_pos g] at h
        cases h
        exact ⟨by simp, fun y hy => by rcases List.mem_cons.mp hy with rfl | hy; · omega
                                       · have := h2 y hy; omega⟩
      · have h : some (if k ≤ x then x else k) = some m := h
        rw [if_neg g] at h
        cases h
        exact ⟨by simp [h1], fun y hy => by rcases List.mem_cons.mp hy with rfl | hy; · omega
                                            · exact h2 y hy⟩
theorem minI_ok : ∀ {xs : List Int} {m : Int}, minI xs = some m → m ∈ xs ∧ ∀ y ∈ xs, m ≤ y
  | x :: xs, m, h => by
    unfold minI at h
    cases e : minI xs with
    | none =>
      rw [e] at h
      cases h
      cases xs with
      | nil => simp
      | cons y ys => unfold minI at e; split at e <;> cases e
    | some k =>
      rw [e] at h
      obtain ⟨h1, h2⟩ := minI_ok e
      by_cases g : x ≤ k
      · have h : some (if x ≤ k then x else k) = some m := h
        rw [if_pos g] at h
        cases h
        exact ⟨by simp, fun y hy => by rcases List.mem_cons.mp hy with rfl | hy; · omega
                                       · have := h2 y hy; omega⟩
      · have h : some (if x ≤ k then x else k) = some m := h
        rw [if_neg g] at h
        cases h
        exact ⟨by simp [h1], fun y hy => by rcases List.mem_cons.mp hy with rfl | hy; · omega
                                            · exact h2 y hy⟩
theorem insI_perm (x : Int) : ∀ xs : List Int, (insI x xs).Perm (x :: xs)
  | [] => List.Perm.refl _
  | y :: ys => by
    unfold insI
    split
    · exact List.Perm.refl _
    · exact ((insI_perm x ys).cons y).trans (List.Perm.swap x y ys)
theorem insI_sorted (x : Int) : ∀ {xs : List Int}, xs.Pairwise (· ≤ ·) → (insI x xs).Pairwise (· ≤ ·)
  | [], _ => by simp [insI]
  | y :: ys, h => by
    unfold insI
    split
    · rename_i g
      exact List.pairwise_cons.mpr ⟨fun z hz => by
        rcases List.mem_cons.mp hz with rfl | hz
        · exact g
        · exact Int.le_trans g ((List.pairwise_cons.mp h).1 z hz), h⟩
    · rename_i g
      refine List.pairwise_cons.mpr ⟨fun z hz => ?_, insI_sorted x (List.pairwise_cons.mp h).2⟩
      rcases List.mem_cons.mp ((insI_perm x ys).mem_iff.mp hz) with rfl | hz
      · omega
      · exact (List.pairwise_cons.mp h).1 z hz
theorem srtI_perm : ∀ xs : List Int, (srtI xs).Perm xs
  | [] => List.Perm.refl _
  | x :: xs => (insI_perm x _).trans ((srtI_perm xs).cons x)
theorem srtI_sorted : ∀ xs : List Int, (srtI xs).Pairwise (· ≤ ·)
  | [] => List.Pairwise.nil
  | x :: xs => insI_sorted x (srtI_sorted xs)
theorem srtI_uniq {xs ys : List Int} (h : ys.Perm xs) (h' : ys.Pairwise (· ≤ ·)) : ys = srtI xs :=
  List.Perm.eq_of_pairwise (fun a b _ _ h1 h2 => Int.le_antisymm h1 h2) h' (srtI_sorted xs) (h.trans (srtI_perm xs).symm)
theorem Dns.of_ints {K : PySem.W.Frag} {F : Hp} {M : List Addr} : ∀ ns : List Int, Dns K F M (ns.map V.int) (ns.map PV.int)
  | [] => .nil
  | n :: ns => .cons (.int n) (Dns.of_ints ns)
theorem Dns.bls {K : PySem.W.Frag} {F : Hp} {M : List Addr} : ∀ {vs : List V} {ds : List PV} {bs : List Bool}, Dns K F M vs ds → unBls ds = some bs → vs = bs.map V.bl
  | _, _, _, .nil, h => by cases h; rfl
  | _, _, _, .cons (d := d) h t, e => by
    cases d with
    | bl b =>
      have e : (unBls _).map (b :: ·) = some _ := e
      obtain ⟨bs, e1, rfl⟩ := Option.map_eq_some_iff.mp e
      cases h
      rw [t.bls e1]; rfl
    | _ => cases e
def Pm.val (f : Pm) : Value := if f.fn then .builtin f.id else .type f.id
def rPrim (ct : Ct) (W : WX) (f : Pm) : List V → Hp → VK → Prop := fun vs H Q => ∃ σ F M s ds, Rl ct.K F H M σ s ∧ DnOs ct.K F H M vs ds ∧ Pst ct W (DrV ct.K) σ F H M s Q (liftO (primP f ds) s)
mutual
theorem toData_inj : ∀ (n m : Nat) (a b : PV), shal n a = true → shal m b = true → toData a = toData b → a = b
  | n, m, .non, b, ha, hb, e => by cases b <;> first | rfl | (cases e; done) | (cases m <;> cases hb)
  | n, m, .bl x, b, ha, hb, e => by cases b <;> first | (cases e; rfl) | (cases e; done) | (cases m <;> cases hb)
  | n, m, .int x, b, ha, hb, e => by cases b <;> first | (cases e; rfl) | (cases e; done) | (cases m <;> cases hb)
  | n, m, .str x, b, ha, hb, e => by cases b <;> first | (cases e; rfl) | (cases e; done) | (cases m <;> cases hb)
  | n, m, .tup xs, b, ha, hb, e => by
    cases n with
    | zero => cases ha
    | succ n =>
      cases b with
      | tup ys =>
        cases m with
        | zero => cases hb
        | succ m =>
          have e : PyData.tuple (toDatas xs) = PyData.tuple (toDatas ys) := e
          injection e with e
          rw [toDatas_inj n m xs ys ha hb e]
      | _ => first | (cases e; done) | (cases m <;> cases hb)
  | n, m, .lst xs, b, ha, hb, e => by
    cases n with
    | zero => cases ha
    | succ n =>
      cases b with
      | lst ys =>
        cases m with
        | zero => cases hb
        | succ m =>
          have e : PyData.list (toDatas xs) = PyData.list (toDatas ys) := e
          injection e with e
          rw [toDatas_inj n m xs ys ha hb e]
      | _ => first | (cases e; done) | (cases m <;> cases hb)
  | n, m, .scr _, b, ha, hb, e => by cases n <;> cases ha
  | n, m, .ref _, b, ha, hb, e => by cases n <;> cases ha
  | n, m, .rcd _ _, b, ha, hb, e => by cases n <;> cases ha
theorem toDatas_inj : ∀ (n m : Nat) (a b : List PV), shalAll n a = true → shalAll m b = true → toDatas a = toDatas b → a = b
  | n, m, [], [], _, _, _ => rfl
  | n, m, [], _ :: _, _, _, e => by cases e
  | n, m, _ :: _, [], _, _, e => by cases e
  | n, m, x :: xs, y :: ys, ha, hb, e => by
    have ha : (shal n x && shalAll n xs) = true := ha
    have hb : (shal m y && shalAll m ys) = true := hb
    rw [Bool.and_eq_true] at ha hb
    have e : toData x :: toDatas xs = toData y :: toDatas ys := e
    injection e with e1 e2
    rw [toData_inj n m x y ha.1 hb.1 e1, toDatas_inj n m xs ys ha.2 hb.2 e2]
end
theorem min_fold : ∀ (x : PV) (xs : List PV), toData (xs.foldl (fun a y => if ltP y a then y else a) x) = PySem.W.minD (toData x) (toDatas xs)
  | x, [] => rfl
  | x, y :: ys => by
    show toData (ys.foldl _ (if ltP y x then y else x)) = PySem.W.minD (if PySem.W.dataLt (toData y) (toData x) then toData y else toData x) (toDatas ys)
    rw [min_fold]
    congr 1
    unfold ltP
    split <;> rfl
theorem max_fold : ∀ (x : PV) (xs : List PV), toData (xs.foldl (fun a y => if ltP a y then y else a) x) = PySem.W.maxD (toData x) (toDatas xs)
  | x, [] => rfl
  | x, y :: ys => by
    show toData (ys.foldl _ (if ltP x y then y else x)) = PySem.W.maxD (if PySem.W.dataLt (toData x) (toData y) then toData y else toData x) (toDatas ys)
    rw [max_fold]
    congr 1
    unfold ltP
    split <;> rfl
theorem fold_mem {f : PV → PV → Bool} : ∀ (x : PV) (xs : List PV), xs.foldl (fun a y => if f y a then y else a) x ∈ x :: xs
  | x, [] => by simp
  | x, y :: ys => by
    rw [List.foldl_cons]
    have := fold_mem (f := f) (if f y x then y else x) ys
    rcases List.mem_cons.mp this with h | h
    · rw [h]; split <;> simp
    · simp [h]
/-- min, max of a list of data -/
theorem ext_ok {pins : List (Addr × Obj)} {sh : Shared} {σ σ' : L2.St} {F H : Hp} {M : List Addr} {s : Ps} {Q : VK} {mx : Bool} {v : V} {us : List Value} {x : PV} {xs : List PV} {r : PV} (hK : X.K = ct.K) (hc : X.calm = true) (hu : X.A.units + 64 < cLine) (I : Inv X pins σ H sh) (hr : Vals [v] us)
    (rl : Rl ct.K F H M σ' s) (hv : DnO ct.K F H M v (.lst (x :: xs))) (hok : okD (x :: xs) = true) (er : r = if mx then xs.foldl (fun a y => if ltP a y then y else a) x else xs.foldl (fun a y => if ltP y a then y else a) x)
    (p : Pst ct W (DrV ct.K) σ' F H M s Q (.ok (.val r) s)) : wpAny (model X.prog X.w) X.A (call (.builtin (if mx then "max" else "min")) us) (EP X pins σ Q) X.xe sh := by
  obtain ⟨l, ws, rfl, h1, d1⟩ := hv.lst rl.same
  obtain ⟨u, rfl, ru⟩ := hr.one
  cases (show u = Value.ref l from ru)
  obtain ⟨g1, g2⟩ := okD_of hok
  have hlay := toDatas_lay 60 (x :: xs) (shalAll_of g1)
  have hsq : SqL X.K H l ws := SqL.of h1
  obtain ⟨its, rv, pl, hz⟩ := I.list hsq
  have hdp : DpAll X.K H ws (toDatas (x :: xs)) := by rw [hK]; exact Dns.data rl.same 60 d1 (shalAll_of g1)
  obtain ⟨as, hra⟩ := Dp.readsAll I _ ws its hdp rv
  have hra' : ReadsAll sh.heap its.toArray.toList (toData x :: toDatas xs) as := by rw [List.toList_toArray]; exact hra
  have hr0 : r ∈ x :: xs := by
    rw [er]
    cases mx with
    | true => exact fold_mem (f := fun y a => ltP a y) x xs
    | false => exact fold_mem (f := fun y a => ltP y a) x xs
  have fin : ∀ (i : Nat) (v : Value) (h' : Heap) (tk : Tok) (bs : List Addr), its.toArray[i]? = some v → Reads h' v (toData r) bs → (∀ b o, sh.heap.get? b = some o → h'.get? b = some o) → EP X pins σ Q v { sh with heap := h', toks := tk } := fun i v h' tk bs hi hrd hk => by
    have hi : its[i]? = some v := by simpa using hi
    have hil : i < its.length := (List.getElem?_eq_some_iff.mp hi).1
    have hwl : i < ws.length := by rw [rv.length]; exact hil
    have hdl : i < (x :: xs).length := by rw [← d1.length]; exact hwl
    obtain ⟨w, e1, e2⟩ := d1.get (i := i) (d := (x :: xs)[i]) (by simp [hdl])
    obtain ⟨u', e3, e4⟩ := rv.get e1
    rw [hi] at e3
    cases e3
    have hmem : (x :: xs)[i] ∈ x :: xs := List.getElem_mem hdl
    have hdw : Dp X.K H w (toData (x :: xs)[i]) := by rw [hK]; exact e2.data rl.same 60 (g1 _ hmem)
    obtain ⟨as2, r2⟩ := Dp.reads I _ w v hdw e4
    have r3 := PySem.W.reads_keeps hk r2
    have ea : PySem.W.alike (toData (x :: xs)[i]) (toData r) = true := g2.1 _ (by rw [toDatas_eq]; exact List.mem_map_of_mem hmem) _ (by rw [toDatas_eq]; exact List.mem_map_of_mem hr0)
    have eq := PySem.W.alike_unique _ _ v _ _ ea r3 hrd
    have eq2 := toData_inj 60 60 _ _ (g1 _ hmem) (g1 _ hr0) eq
    refine ⟨w, H, I.kept (t' := tk) hk, e4, ?_⟩
    rw [eq2] at e2
    exact Pst.fin rl p e2
  have hun : X.A.units + 1 + PyData.depthAll (toData x :: toDatas xs) < cLine := by
    have : PyData.depthAll (toDatas (x :: xs)) ≤ 61 := hlay.2
    have h3 : PyData.depthAll (toData x :: toDatas xs) ≤ 61 := this
    omega
  cases mx with
  | false =>
    have er : r = xs.foldl (fun a y => if ltP y a then y else a) x := er
    refine PySem.W.min_list_data (I.ok.hd hc) pl.isList hra' g2 hun fun i v h' tk bs hi hrd hk => fin i v h' tk bs hi ?_ hk
    rw [er, min_fold]; exact hrd
  | true =>
    have er : r = xs.foldl (fun a y => if ltP a y then y else a) x := er
    refine PySem.W.max_list_data (I.ok.hd hc) pl.isList hra' g2 hun fun i v h' tk bs hi hrd hk => fin i v h' tk bs hi ?_ hk
    rw [er, max_fold]; exact hrd
/-- sorted(..) of data -/
theorem each_of {K : PySem.W.Frag} {F : Hp} {M : List Addr} : ∀ {ws : List V} {ds : List PV} {us : List Value}, Dns K F M ws ds → Vals ws us → PySem.W.EachIs (fun u d => ∃ w, RelV w u ∧ Dn K F M w d) us ds
  | _, _, _, .nil, .nil => .nil
  | _, _, _, .cons h t, .cons r rt => .cons ⟨_, r, h⟩ (each_of t rt)
theorem of_each {K : PySem.W.Frag} {F : Hp} {M : List Addr} : ∀ {us : List Value} {ds : List PV}, PySem.W.EachIs (fun u d => ∃ w, RelV w u ∧ Dn K F M w d) us ds → ∃ ws, Vals ws us ∧ Dns K F M ws ds
  | _, _, .nil => ⟨[], .nil, .nil⟩
  | _, _, .cons ⟨w, r, h⟩ t => by
    obtain ⟨ws, a, b⟩ := of_each t
    exact ⟨w :: ws, .cons r a, .cons h b⟩
theorem reads_each {pins : List (Addr × Obj)} {sh : Shared} {σ : L2.St} {F H : Hp} {M : List Addr} (hK : X.K = ct.K) (I : Inv X pins σ H sh) (sm : Same F H) : ∀ {ws : List V} {xs : List PV} {its : List Value}, (∀ x ∈ xs, shal 60 x = true) → Dns ct.K F M ws xs → Vals ws its → PySem.W.EachIs (fun v b => ∃ as, Reads sh.heap v (toData b) as) its xs
  | _, _, _, _, .nil, .nil => .nil
  | _, _, _, g, .cons h t, .cons r rt => .cons (Dp.reads I _ _ _ (by rw [hK]; exact h.data sm 60 (g _ (by simp))) r) (reads_each hK I sm (fun x hx => g x (by simp [hx])) t rt)
theorem sbl_ok {xs : List PV} (hok : okD xs = true) (h : (xs.all tupNe || xs.all fun a => !isTupP a) = true) : PySem.W.Sortable (xs.map toData) := by
  rw [Bool.or_eq_true] at h
  unfold okD at hok
  simp only [Bool.and_eq_true, List.all_eq_true] at hok
  rcases h with h | h
  · refine .inl fun d hd => ?_
    obtain ⟨x, hx, rfl⟩ := List.mem_map.mp hd
    have hx := List.all_eq_true.mp h x hx
    cases x with
    | tup ys =>
      cases ys with
      | nil => cases hx
      | cons y ys => exact ⟨toData y, toDatas ys, rfl⟩
    | _ => cases hx
  · refine .inr fun d hd => ?_
    obtain ⟨x, hx, rfl⟩ := List.mem_map.mp hd
    have h1 := List.all_eq_true.mp h x hx
    have h2 := hok.1 x hx
    cases x <;> first | (cases h1; done) | (cases h2.1; done) | (cases h2.2; done) | exact ⟨(by intro z; cases z), by intro _ z; cases z⟩
theorem srt_ok {pins : List (Addr × Obj)} {sh : Shared} {σ σ' : L2.St} {F H : Hp} {M : List Addr} {s : Ps} {Q : VK} {v : V} {us : List Value} {xs ys : List PV} (hK : X.K = ct.K) (hu : X.A.units + 64 < cLine) (I : Inv X pins σ H sh) (hr : Vals [v] us)
    (rl : Rl ct.K F H M σ' s) (hv : DnO ct.K F H M v (.lst xs)) (e : srtDP xs = some ys) (p : Pst ct W (DrV ct.K) σ' F H M s Q (.ok (.own ys) s)) : wpAny (model X.prog X.w) X.A (call (.builtin "sorted") us) (EP X pins σ Q) X.xe sh := by
  unfold srtDP at e
  split at e
  · rename_i hs
    cases e
    simp only [Bool.and_eq_true, decide_eq_true_eq] at hs
    obtain ⟨⟨hok, hsb⟩, hl⟩ := hs
    obtain ⟨l, ws, rfl, h1, d1⟩ := hv.lst rl.same
    obtain ⟨u, rfl, ru⟩ := hr.one
    cases (show u = Value.ref l from ru)
    obtain ⟨g1, g2⟩ := okD_of hok
    obtain ⟨its, rv, pl, hz⟩ := I.list (SqL.of h1)
    have hal : PySem.W.AllAlike (xs.map toData) := fun a ha b hb => g2.1 a (by rw [toDatas_eq]; exact ha) b (by rw [toDatas_eq]; exact hb)
    have hun : ∀ b, b ∈ xs → X.A.units + 2 + (toData b).depth < cLine := fun b hb => by
      have := (toData_lay 60 b (g1 b hb)).2
      omega
    have fin : ∀ out, out.length = xs.length → PySem.W.EachIs (fun u d => ∃ w, RelV w u ∧ Dn ct.K F M w d) out (xs.mergeSort (PySem.W.dataLe false toData)) → EP X pins σ Q (.ref (sh.heap.objs.size + 1)) { sh with heap := PyProof.Rows.sortedAll sh.heap its out.toArray } := fun out hlen he => by
      obtain ⟨ws', rv', d'⟩ := of_each he
      rw [PySem.W.dataLe_eq] at d'
      obtain ⟨ep, he'⟩ := PyProof.Rows.sortedAll_at sh.heap its out.toArray
      have hlz : ws'.length ≤ sizeLine := by rw [rv'.length, hlen, lim_eq]; exact hl
      exact ⟨.ref _, upd H (sh.heap.objs.size + 1) (.lst ws'), I.laid (t' := sh.toks) (fun _ _ => PyProof.Rows.sortedAll_old) (Nat.le_succ _) ⟨hlz, out, ep, rv', he'⟩, rfl, fin_lst rl p (I.hok.fresh (Nat.le_succ _)) d'⟩
    unfold sblP at hsb
    rw [Bool.or_eq_true] at hsb
    rcases hsb with hsb | hsb
    · exact PySem.W.sorted_data (R := fun u d => ∃ w, RelV w u ∧ Dn ct.K F M w d) (enc := toData) pl.isList (each_of d1 rv) (reads_each hK I rl.same g1 d1 rv) hal (sbl_ok hok hsb) (by rw [lim_eq]; exact hl) hun fin
    · rw [Bool.and_eq_true] at hsb
      refine sorted_tups (R := fun u d => ∃ w, RelV w u ∧ Dn ct.K F M w d) (enc := toData) pl.isList (each_of d1 rv) (reads_each hK I rl.same g1 d1 rv) hal (fun b hb => ?_) ?_ (by rw [lim_eq]; exact hl) hun fin
      · have := List.all_eq_true.mp hsb.1 b hb
        cases b with
        | tup ys => exact ⟨_, rfl⟩
        | _ => cases this
      · have h0 := hsb.2
        cases xs with
        | nil => cases h0
        | cons x xs =>
          have h0 : tup0 x = true := h0
          cases x with
          | tup ys =>
            cases ys with
            | nil => rfl
            | cons y ys => cases h0
          | _ => cases h0
  · cases e
theorem vals_ext : ∀ {ws : List V} {us : List Value}, ws.length = us.length → (∀ (j : Nat) (w : V) (u : Value), ws[j]? = some w → us[j]? = some u → RelV w u) → Vals ws us
  | [], [], _, _ => .nil
  | w :: ws, u :: us, hl, h => .cons (h 0 w u rfl rfl) (vals_ext (by simpa using hl) fun j w' u' a b => h (j + 1) w' u' (by simpa using a) (by simpa using b))
  | [], _ :: _, hl, _ => by simp at hl
  | _ :: _, [], hl, _ => by simp at hl
theorem dns_chars {K : PySem.W.Frag} {F : Hp} {M : List Addr} : ∀ L : List Nat, Dns K F M (L.map fun c => V.str ⟨#[c]⟩) (L.map fun c => PV.str ⟨#[c]⟩)
  | [] => .nil
  | c :: L => .cons (.str _) (dns_chars L)
theorem prim_ok (hK : X.K = ct.K) (hc : X.calm = true) (hu : X.A.units + 64 < cLine) (f : Pm) (hf : f.two = false) : CallR X f.val (rPrim ct W f) := by
  intro pins sh σ H vs us Q I r ⟨σ', F, M, s, ds, rl, hd, pz⟩
  obtain ⟨z, e, p⟩ := Pst.lift pz
  clear pz
  unfold primP at e
  split at e
  · rename_i xs
    cases e
    match vs, hd with
    | [v], h =>
      obtain ⟨l, ws, rfl, h1, d1⟩ := h.1.lst rl.same
      exact call_len pins sh σ H _ us Q I r ⟨_, xs.length, rfl, .inl ⟨ws, SqL.of h1, by rw [d1.length]⟩, Pst.fin rl p (.int _)⟩
  · rename_i xs
    cases e
    match vs, hd with
    | [v], h =>
      obtain ⟨l, ws, rfl, h1, d1⟩ := h.1.tup rl.same
      exact call_len pins sh σ H _ us Q I r ⟨_, xs.length, rfl, .inr ⟨ws, by rw [hK]; exact h1, by rw [d1.length]⟩, Pst.fin rl p (.int _)⟩
  · rename_i ns
    cases e
    match vs, hd with
    | [v], h =>
      rcases h.1 with h | ⟨_, _, _, _, e, _⟩
      · cases h with
        | scr h1 => exact call_len pins sh σ H _ us Q I r ⟨_, ns.length, rfl, .inl ⟨_, by rw [hK]; exact rl.same.seq h1, by rw [List.length_map]⟩, Pst.fin rl p (.int _)⟩
      · cases e
  · rename_i zz
    split at e
    · rename_i hl
      cases e
      match vs, hd with
      | [v], h =>
        rw [h.1.str] at r
        exact call_len pins sh σ H _ us Q I r ⟨_, zz.length, rfl, ⟨by rw [lim_eq]; exact hl, rfl⟩, Pst.fin rl p (.int _)⟩
    · cases e
  · cases e
    match vs, hd with
    | [v], h =>
      rw [h.1.int] at r
      exact call_int1 pins sh σ H _ us Q I r (.inl ⟨_, rfl, Pst.fin rl p (.int _)⟩)
  · cases e
    match vs, hd with
    | [v], h =>
      rw [h.1.bl] at r
      exact call_int1 pins sh σ H _ us Q I r (.inr ⟨_, rfl, Pst.fin rl p (.int _)⟩)
  · cases e
    match vs, hd with
    | [v, w], h =>
      rw [h.1.int, h.2.1.int] at r
      exact call_max2 hc pins sh σ H _ us Q I r ⟨_, _, rfl, Pst.fin rl p (.int _)⟩
  · cases e
    match vs, hd with
    | [v, w], h =>
      rw [h.1.int, h.2.1.int] at r
      exact call_min2 hc pins sh σ H _ us Q I r ⟨_, _, rfl, Pst.fin rl p (.int _)⟩
  · obtain ⟨ns, e1, rfl⟩ := Option.map_eq_some_iff.mp e
    match vs, hd with
    | [v], h =>
      obtain ⟨l, ws, rfl, h1, d1⟩ := h.1.lst rl.same
      have ew := d1.ints e1
      subst ew
      exact cr_sum hc pins sh σ H _ us Q I r ⟨_, ns, rfl, SqL.of h1, Pst.fin rl p (.int _)⟩
  · obtain ⟨bs, e1, rfl⟩ := Option.map_eq_some_iff.mp e
    match vs, hd with
    | [v], h =>
      obtain ⟨l, ws, rfl, h1, d1⟩ := h.1.lst rl.same
      have ew := d1.bls e1
      subst ew
      exact cr_all hc pins sh σ H _ us Q I r ⟨_, bs, rfl, SqL.of h1, Pst.fin rl p (.bl _)⟩
  · cases e
    match vs, hd with
    | [v], h =>
      obtain ⟨l, ws, rfl, h1, d1⟩ := h.1.lst rl.same
      exact call_tuple_of pins sh σ H _ us Q I r ⟨_, ws, rfl, .inl ⟨SqL.of h1, fun q hq => fin_tup rl p hq d1⟩⟩
  · rename_i xs
    cases e
    match vs, hd with
    | [v], h =>
      rcases h.1 with h0 | ⟨_, _, _, _, e, _⟩
      · obtain ⟨l, ws, rfl, h1, d1⟩ := (show DnO ct.K F H M v (.tup xs) from .inl h0).tup rl.same
        exact call_tuple_of pins sh σ H _ us Q I r ⟨_, ws, rfl, .inr ⟨by rw [hK]; exact h1, Pst.fin rl p h0⟩⟩
      · cases e
  · cases e
    match vs, hd with
    | [v], h =>
      obtain ⟨l, ws, rfl, h1, d1⟩ := h.1.lst rl.same
      exact call_list_of pins sh σ H _ us Q I r ⟨_, ws, rfl, .inl (SqL.of h1), fun q hq => fin_lst rl p hq d1⟩
  · cases e
    match vs, hd with
    | [v], h =>
      obtain ⟨l, ws, rfl, h1, d1⟩ := h.1.tup rl.same
      exact call_list_of pins sh σ H _ us Q I r ⟨_, ws, rfl, .inr (by rw [hK]; exact h1), fun q hq => fin_lst rl p hq d1⟩
  · rename_i zz
    split at e
    · rename_i hl
      cases e
      match vs, hd with
      | [v], h =>
        rw [h.1.str] at r
        obtain ⟨u, rfl, ru⟩ := r.one
        obtain ⟨t, rfl⟩ := ru
        have hz : zz.cps.size ≤ sizeLine := by rw [lim_eq]; exact hl
        refine call_list_str (I.ok.hd hc) zz t (fun h' tk acc c hk hS hacc => ?_) hz
        have hv : Vals (zz.cps.toList.map fun c => V.str ⟨#[c]⟩) acc.toList := vals_ext (by rw [List.length_map, Array.length_toList, Array.length_toList, hacc.1]) fun j w u hw hu => by
          obtain ⟨c, tc, e1, e2⟩ := hacc.2 j u (by rw [← hu, Array.getElem?_toList])
          rw [List.getElem?_map, Array.getElem?_toList, e1] at hw
          cases hw
          exact ⟨tc, e2⟩
        have hlen : (zz.cps.toList.map fun c => V.str ⟨#[c]⟩).length ≤ sizeLine := by rw [List.length_map, Array.length_toList]; exact hz
        exact ⟨.ref _, upd H sh.heap.objs.size (.lst (zz.cps.toList.map fun c => V.str ⟨#[c]⟩)), I.laid (t' := tk) hk (Nat.le_refl _) ⟨hlen, acc.toList, c, hv, by rw [Array.toArray_toList]; exact hS⟩, rfl, fin_lst rl p (I.hok.fresh (Nat.le_refl _)) (dns_chars zz.cps.toList)⟩
    · cases e
  · rename_i xs
    match vs, hd with
    | [v], h =>
      unfold maxPV at e
      split at e
      · rename_i ns e1
        obtain ⟨m, e2, rfl⟩ := Option.map_eq_some_iff.mp e
        obtain ⟨l, ws, rfl, h1, d1⟩ := h.1.lst rl.same
        have ew := d1.ints e1
        subst ew
        obtain ⟨m1, m2⟩ := maxI_ok e2
        exact cr_max hc pins sh σ H _ us Q I r ⟨_, ns, rfl, SqL.of h1, List.length_pos_of_mem m1, fun m' h1 h2 => by
          rw [Int.le_antisymm (m2 _ h1) (h2 _ m1)]
          exact Pst.fin rl p (.int _)⟩
      · obtain ⟨m, e2, rfl⟩ := Option.map_eq_some_iff.mp e
        cases xs with
        | nil => cases e2
        | cons x xs =>
          have e2 : (if okD (x :: xs) then some (xs.foldl (fun a y => if ltP a y then y else a) x) else none) = some m := e2
          by_cases hok : okD (x :: xs) = true
          · rw [if_pos hok] at e2
            exact ext_ok (mx := true) hK hc hu I r rl h.1 hok (Option.some.inj e2).symm p
          · rw [if_neg hok] at e2; cases e2
  · rename_i xs
    match vs, hd with
    | [v], h =>
      unfold minPV at e
      split at e
      · rename_i ns e1
        obtain ⟨m, e2, rfl⟩ := Option.map_eq_some_iff.mp e
        obtain ⟨l, ws, rfl, h1, d1⟩ := h.1.lst rl.same
        have ew := d1.ints e1
        subst ew
        obtain ⟨m1, m2⟩ := minI_ok e2
        exact cr_min hc pins sh σ H _ us Q I r ⟨_, ns, rfl, SqL.of h1, List.length_pos_of_mem m1, fun m' h1 h2 => by
          rw [Int.le_antisymm (h2 _ m1) (m2 _ h1)]
          exact Pst.fin rl p (.int _)⟩
      · obtain ⟨m, e2, rfl⟩ := Option.map_eq_some_iff.mp e
        cases xs with
        | nil => cases e2
        | cons x xs =>
          have e2 : (if okD (x :: xs) then some (xs.foldl (fun a y => if ltP y a then y else a) x) else none) = some m := e2
          by_cases hok : okD (x :: xs) = true
          · rw [if_pos hok] at e2
            exact ext_ok (mx := false) hK hc hu I r rl h.1 hok (Option.some.inj e2).symm p
          · rw [if_neg hok] at e2; cases e2
  · rename_i xs
    match vs, hd with
    | [v], h =>
      split at e
      · rename_i ns e1
        cases e
        obtain ⟨l, ws, rfl, h1, d1⟩ := h.1.lst rl.same
        have ew := d1.ints e1
        subst ew
        exact cr_sortedI pins sh σ H _ us Q I r ⟨_, ns, rfl, SqL.of h1, fun ns' q hp hs hq => by
          rw [srtI_uniq hp hs]
          exact fin_lst rl p hq (Dns.of_ints _)⟩
      · obtain ⟨ys, e2, rfl⟩ := Option.map_eq_some_iff.mp e
        exact srt_ok hK hu I r rl h.1 e2 p
  · rename_i xs
    match vs, hd with
    | [v], h =>
      obtain ⟨ns, e1, rfl⟩ := Option.map_eq_some_iff.mp e
      obtain ⟨l, ws, rfl, h1, d1⟩ := h.1.tup rl.same
      have ew := d1.ints e1
      subst ew
      obtain ⟨its, rv, ⟨ob, g1, g2, m, g3⟩, hz⟩ := I.tuple (hK ▸ h1)
      rw [Vals.ref1 r]
      refine sorted_tupI g1 g2 g3 rv.ints (by rw [← rv.length]; exact hz) fun h' q out ns' c old hq hob hi hp hs => ?_
      have hlen : (ns'.map V.int).length ≤ sizeLine := by
        rw [List.length_map, hp.length_eq]
        rw [List.length_map] at hz
        exact hz
      have hfr := I.hok.fresh hq
      refine ⟨.ref q, upd H q (.lst (ns'.map V.int)), I.laid (t' := sh.toks) old hq ⟨hlen, out, c, vals_of_ints hi, hob⟩, rfl, ?_⟩
      rw [srtI_uniq hp hs] at *
      exact fin_lst rl p hfr (Dns.of_ints _)
  · split at e
    · rename_i hl
      cases e
      match vs, hd with
      | [v], h =>
        rw [h.1.int] at r
        exact call_str_int pins sh σ H _ us Q I r ⟨_, rfl, hl, Pst.fin rl p (.str _)⟩
    · cases e
  · split at e
    · rename_i nn hn
      split at e
      · rename_i hl
        cases e
        match vs, hd with
        | [v], h =>
          rw [h.1.str] at r
          exact call_int_str pins sh σ H _ us Q I r ⟨_, nn, rfl, hn, hl, Pst.fin rl p (.int _)⟩
      · cases e
    · cases e
  · cases hf
  · cases hf
  · cases hf
  · cases hf
  · cases hf
  · cases hf
  · cases e
theorem pm_boot (f : Pm) : bootBuiltins f.name = some f.val := by
  cases f <;> decide +kernel
theorem pm_ok (f : Pm) : f.name ≠ "__name__" ∧ (f.name == ("__debug__" : Str)) = false := by
  cases f <;> decide +kernel
theorem snd_prim {f : Pm} {p : Pos} {es : List Expr} {ds : List Den} (hf : f.two = false) (hK : X.K = ct.K) (hc : X.calm = true) (hu : X.A.units + 64 < cLine) (hg : Gl X f.name) (hm : X.mg f.name = none) (ha : PA X (x :: es) (tBsR ct W (Den.bs true ds))) (hs : (x :: es).all noStar = true) :
    Snd ct X W (.Call (.Name f.name p) (x :: es) [] pos) (dPrim f ds) := by
  have hs' : noStar x = true ∧ es.all noStar = true := by rw [List.all_cons, Bool.and_eq_true] at hs; exact hs
  have key : PE X (.Call (.Name f.name p) (x :: es) [] pos) (tCB (rPrim ct W f) (tBsR ct W (Den.bs true ds))) := by
    have hv := pm_boot f
    have hr := prim_ok (W := W) hK hc hu f hf
    by_cases hf : f.fn = true
    · rw [show f.val = .builtin f.id from by unfold Pm.val; rw [if_pos hf]] at hv hr
      exact pe_callB hr hg hm hv ha (pm_ok f).1 (pm_ok f).2 (starEach_cons es X.env hs'.1) (starEach_any hs'.2)
    · rw [show f.val = .type f.id from by unfold Pm.val; rw [if_neg hf]] at hv hr
      exact pe_callTy hr hg hm hv ha (pm_ok f).1 (pm_ok f).2 (starEach_cons es X.env hs'.1) (starEach_any hs'.2)
  exact Snd.ofV hK (PE.imp key fun σ H Q h => opnds_rd (fun H => hdV ct.K H) h fun vs F H M s es bs rl _ _ d p => ⟨σ, F, M, s, es, rl, d, p⟩) fun _ => rfl
/-! ### isinstance(x, T), T a built-in class -/
def isiTys : List String := ["int", "bool", "str", "tuple", "list"]
def tyName : PV → Option String
  | .non => some "NoneType"
  | .bl _ => some "bool"
  | .int _ => some "int"
  | .str _ => some "str"
  | .tup _ => some "tuple"
  | .lst _ => some "list"
  | _ => none
def isiB (a t : String) : Bool := a == t || (a == "bool" && t == "int")
theorem isi_kit : (["NoneType", "bool", "int", "str", "tuple", "list"].all fun a => isiTys.all fun t => kitB a t == some (isiB a t)) = true := by decide +kernel
theorem isi_boot : (isiTys.all fun t => bootBuiltins (Str.ofString t) == some (Value.type t) && Str.ofString t != "__name__" && !(Str.ofString t == ("__debug__" : Str))) = true := by decide +kernel
theorem isiP_eq {t : String} {d : PV} {b : Bool} (e : isiP t d = some b) : ∃ a, tyName d = some a ∧ a ∈ ["NoneType", "bool", "int", "str", "tuple", "list"] ∧ (t ∈ isiTys → b = isiB a t) := by
  cases d with
  | non =>
    cases e
    refine ⟨_, rfl, by simp, fun h => ?_⟩
    simp only [isiTys, List.mem_cons, List.not_mem_nil, or_false] at h
    rcases h with rfl | rfl | rfl | rfl | rfl <;> decide
  | bl _ =>
    cases e
    refine ⟨_, rfl, by simp, fun h => ?_⟩
    simp only [isiTys, List.mem_cons, List.not_mem_nil, or_false] at h
    rcases h with rfl | rfl | rfl | rfl | rfl <;> decide
  | int _ =>
    cases e
    refine ⟨_, rfl, by simp, fun h => ?_⟩
    simp only [isiTys, List.mem_cons, List.not_mem_nil, or_false] at h
    rcases h with rfl | rfl | rfl | rfl | rfl <;> decide
  | str _ =>
    cases e
    refine ⟨_, rfl, by simp, fun h => ?_⟩
    simp only [isiTys, List.mem_cons, List.not_mem_nil, or_false] at h
    rcases h with rfl | rfl | rfl | rfl | rfl <;> decide
  | tup _ =>
    cases e
    refine ⟨_, rfl, by simp, fun h => ?_⟩
    simp only [isiTys, List.mem_cons, List.not_mem_nil, or_false] at h
    rcases h with rfl | rfl | rfl | rfl | rfl <;> decide
  | lst _ =>
    cases e
    refine ⟨_, rfl, by simp, fun h => ?_⟩
    simp only [isiTys, List.mem_cons, List.not_mem_nil, or_false] at h
    rcases h with rfl | rfl | rfl | rfl | rfl <;> decide
  | _ => cases e
theorem ty_of {F H : Hp} {M : List Addr} {v : V} {d : PV} {a : String} (sm : Same F H) (h : DnO ct.K F H M v d) (e : tyName d = some a) : TyX ct.K H v (.type a) := by
  rcases h with h | ⟨p, vs, ds, rfl, rfl, h1, h2, _⟩
  · cases h with
    | non => cases e; exact .base .non
    | bl b => cases e; exact .base (.bl b)
    | int i => cases e; exact .base (.int i)
    | str x => cases e; exact .base (.str x)
    | tup q r =>
      cases e
      rcases q with (q | ⟨o, q⟩) | ⟨o, its, n, hk, hc, _⟩
      · exact .base (.tup (sm _ _ q))
      · exact .fTuple (sm _ _ q)
      · exact .kTuple hk hc
    | lst q r => cases e; exact .base (.lst (sm _ _ q))
    | scr q => cases e
    | ref q => cases e
    | rcd _ _ _ _ _ => cases e
  · cases e; exact .base (.lst h1)
theorem snd_isi {t : String} {p p2 : Pos} (hK : X.K = ct.K) (ht : t ∈ isiTys) (hg : Gl X "isinstance") (hm : X.mg "isinstance" = none) (hgt : Gl X (Str.ofString t)) (hmt : X.mg (Str.ofString t) = none) (ha : Snd ct X W x da) (hs : noStar x = true) :
    Snd ct X W (.Call (.Name "isinstance" p) [x, .Name (Str.ofString t) p2] [] pos) (dIsi da t) := by
  have hb := List.all_eq_true.mp isi_boot t ht
  simp only [Bool.and_eq_true, beq_iff_eq, bne_iff_ne, Bool.not_eq_true'] at hb
  have hT : PE X (.Name (Str.ofString t) p2) (tC (.ty t)) := pe_bltn hgt hmt hb.1.1 rfl hb.1.2 hb.2
  have key : PE X (.Call (.Name "isinstance" p) [x, .Name (Str.ofString t) p2] [] pos) (tCB (rIsi X.K) (tCons (tBo ct W (da.b true)) (tCons (tC (.ty t)) tNil))) :=
    pe_callB call_isi hg hm (by decide +kernel) (pa_cons ha.b (pa_cons hT pa_nil) (starEach_cons _ X.env hs)) (by decide) (by decide) (starEach_cons _ X.env hs) rfl
  refine Snd.ofV hK (PE.imp key fun σ H Q h => opnd1_rd (fun H => hdV ct.K H) h fun v F H M s dx rl hv p => ?_) fun _ => rfl
  obtain ⟨r, e, p⟩ := Pst.lift p
  obtain ⟨b, e', rfl⟩ := Option.map_eq_some_iff.mp e
  obtain ⟨a, ea, ma, eb⟩ := isiP_eq e'
  have kk := List.all_eq_true.mp (List.all_eq_true.mp isi_kit a ma) t ht
  rw [beq_iff_eq] at kk
  exact ⟨v, .ty t, .type a, .type t, b, rfl, .ty t, by rw [hK]; exact ty_of rl.same hv ea, by rw [eb ht]; exact kit_ty kk, Pst.fin rl p (.bl _)⟩

/-! ### name.append(e) -/
theorem Rl.setOwn {σ : L2.St} {F H : Hp} {M : List Addr} {s : Ps} (rl : Rl ct.K F H M σ s) {i : Nat} {xs ys : List PV} {p : Addr} {ws : List V} (h : s.loc[i]? = some (some (.own xs))) (hp : σ[i]? = some (some (.ref p))) (d : Dns ct.K F M ws ys) :
    ExtE (Own σ s.loc) F H M F (upd H p (.lst ws)) M (Own σ (s.loc.set i (some (.own ys)))) ∧ Rl ct.K F (upd H p (.lst ws)) M σ { s with loc := s.loc.set i (some (.own ys)) } := by
  obtain ⟨q, vs, e1, e2, e3, e4, e5⟩ : ∃ p vs, σ[i]? = some (some (V.ref p)) ∧ F p = none ∧ H p = some (.lst vs) ∧ Dns ct.K F M vs xs ∧ p ∉ M := rl.slot i _ h
  rw [hp] at e1
  have e1 : p = q := V.ref.inj (Option.some.inj (Option.some.inj e1))
  subst e1
  have hi : i < s.loc.length := (List.getElem?_eq_some_iff.mp h).1
  have hown : Own σ s.loc p := ⟨i, xs, h, hp⟩
  have back : ∀ q, Own σ (s.loc.set i (some (.own ys))) q → Own σ s.loc q := fun q ⟨j, zs, a1, a2⟩ => by
    by_cases hj : i = j
    · subst hj
      rw [hp] at a2
      have : p = q := V.ref.inj (Option.some.inj (Option.some.inj a2))
      subst this
      exact hown
    · rw [List.getElem?_set_ne hj] at a1; exact ⟨j, zs, a1, a2⟩
  refine ⟨⟨⟨Same.refl _, fun q o a1 a2 a3 => ?_, fun q o a1 => ?_, fun q o a => .inl a, List.prefix_refl _, fun _ a => .inl a, fun q a => .inl (back q a)⟩, back⟩, ⟨same_mut rl.same e2, by simpa using rl.len, fun j o e => ?_, fun j k us zs q a1 a2 a3 a4 => ?_, ⟨rl.sto.len, rl.sto.nd, fun k so a q1 q2 => ?_⟩⟩⟩
  · rw [upd_ne fun z => a3 (by rw [z]; exact hown)]; exact a1
  · by_cases z : q = p
    · subst z; exact ⟨_, upd_same⟩
    · exact ⟨o, by rw [upd_ne z]; exact a1⟩
  · have e : (s.loc.set i (some (.own ys)))[j]? = some o := e
    by_cases hj : i = j
    · subst hj
      rw [List.getElem?_set_self hi] at e
      cases e
      exact ⟨p, ws, hp, e2, upd_same, d, e5⟩
    · rw [List.getElem?_set_ne hj] at e
      have q := rl.slot j o e
      cases o with
      | none => trivial
      | some sv =>
        cases sv with
        | val d' => exact q
        | own zs =>
          obtain ⟨q, us, w1, w2, w3, w4, w5⟩ := q
          have ne : q ≠ p := fun z => hj (rl.inj i j xs zs p h e hp (by rw [w1, z]))
          exact ⟨q, us, w1, w2, by rw [upd_ne ne]; exact w3, w4, w5⟩
  · have back : ∀ {j : Nat} {zs : List PV}, (s.loc.set i (some (.own ys)))[j]? = some (some (.own zs)) → ∃ us, s.loc[j]? = some (some (.own us)) := fun {j zs} a => by
      by_cases hj : i = j
      · subst hj; exact ⟨xs, h⟩
      · rw [List.getElem?_set_ne hj] at a; exact ⟨zs, a⟩
    obtain ⟨u1, b1⟩ := back a1
    obtain ⟨u2, b2⟩ := back a2
    exact rl.inj j k u1 u2 q b1 b2 a3 a4
  · have z := rl.sto.ok k so a q1 q2
    have ne : a ≠ p := fun z => e5 (by rw [← z]; exact List.mem_of_getElem? q2)
    exact z.mono (Same.refl _) (List.prefix_refl _) z.some.1 (by rw [upd_ne ne])
theorem own_of {σ : L2.St} {F H : Hp} {M : List Addr} {s : Ps} {i : Nat} (rl : Rl ct.K F H M σ s) (h : isOwn i s = true) : ∃ xs p vs, s.loc[i]? = some (some (.own xs)) ∧ σ[i]? = some (some (V.ref p)) ∧ F p = none ∧ H p = some (.lst vs) ∧ Dns ct.K F M vs xs ∧ p ∉ M := by
  unfold isOwn at h
  split at h
  · rename_i xs q
    obtain ⟨p, vs, e1, e2, e3, e4, e5⟩ := rl.slot i _ q
    exact ⟨xs, p, vs, q, e1, e2, e3, e4, e5⟩
  · cases h
theorem few1 {env : Env} {cpos : Pos} (h : noStar y = true) : ((backTo cpos (starEach [y] env)).all (fun x => !x.1) && (backToKw cpos (keywordEach [] env)).all (fun x => x.1.isSome)
      && decide (([y] : List Expr).length + ([] : List Keyword).length + (if ([] : List Keyword).isEmpty then 0 else 1) < 30)) = true := by
  rw [starEach_cons [] env h]
  rfl
theorem snd_app {i : Nat} {apos pn : Pos} {nm : Str} (hK : X.K = ct.K) (hx : PE X (.Name nm pn) (tVar i)) (ha : Snd ct X W y da) (hs : noStar y = true) (hline : (apos.endLine == pos.line) = true) : Snd ct X W (.Call (.Attribute (.Name nm pn) "append" apos) [y] [] pos) (dApp i da) := by
  have key : PE X (.Call (.Attribute (.Name nm pn) "append" apos) [y] [] pos) (tBM X.K "list" rAppend (tVar i) (tCons (tV ct W da.v) tNil)) :=
    pe_bm PySem.F.plainAttrs_list PySem.F.slot_list_append PySem.F.type_list_append mt_append hx (pa_cons ha.v pa_nil (starEach_cons _ X.env hs)) rfl (few1 hs) hline (starEach_cons _ X.env hs) rfl
  refine Snd.ofV hK (PE.imp key fun σ H Q h => ?_) fun _ => rfl
  obtain ⟨F, M, s, rl, p⟩ := h
  by_cases ho : isOwn i s = true
  · simp only [ho, if_true] at p
    obtain ⟨xs0, pp, vs0, q0, e1, e2, e3, e4, e5⟩ := own_of rl ho
    refine ⟨_, e1, .inl ⟨rfl, vs0, SqL.of e3⟩, ?_⟩
    refine fz_rd (fun H => hdV ct.K H) ⟨F, M, s, rl, p⟩ fun v a F H M s rl d p => ?_
    unfold appP at p
    split at p
    · rename_i xs q
      split at p
      · rename_i hl
        obtain ⟨p2, vs, f1, f2, f3, f4, f5⟩ := rl.slot i _ q
        rw [e1] at f1
        have f1 : pp = p2 := V.ref.inj (Option.some.inj (Option.some.inj f1))
        subst f1
        obtain ⟨ex, rl2⟩ := rl.setOwn q e1 (f4.append (.cons d .nil))
        exact ⟨pp, vs, v, rfl, rfl, f3, by rw [lim_eq, f4.length]; exact hl, p _ F _ M ex rl2 .non⟩
      · exact p.elim
    · exact p.elim
  · simp only [ho] at p
    exact p.elim
theorem Dns.erase {K : PySem.W.Frag} {F : Hp} {M : List Addr} : ∀ (n : Nat) {vs : List V} {ds : List PV}, Dns K F M vs ds → Dns K F M (vs.eraseIdx n) (ds.eraseIdx n)
  | _, _, _, .nil => by simp; exact .nil
  | 0, _, _, .cons _ t => by simpa using t
  | n + 1, _, _, .cons h t => by
    rw [List.eraseIdx_cons_succ, List.eraseIdx_cons_succ]
    exact .cons h (Dns.erase n t)
theorem snd_ext {i : Nat} {apos pn : Pos} {nm : Str} (hK : X.K = ct.K) (hx : PE X (.Name nm pn) (tVar i)) (ha : Snd ct X W y da) (hs : noStar y = true) (hline : (apos.endLine == pos.line) = true) : Snd ct X W (.Call (.Attribute (.Name nm pn) "extend" apos) [y] [] pos) (dExt i da) := by
  have key : PE X (.Call (.Attribute (.Name nm pn) "extend" apos) [y] [] pos) (tBM X.K "list" rExtend (tVar i) (tCons (tV ct W da.v) tNil)) :=
    pe_bm PySem.F.plainAttrs_list PySem.F.slot_list_extend PySem.F.type_list_extend mt_extend hx (pa_cons ha.v pa_nil (starEach_cons _ X.env hs)) rfl (few1 hs) hline (starEach_cons _ X.env hs) rfl
  refine Snd.ofV hK (PE.imp key fun σ H Q h => ?_) fun _ => rfl
  obtain ⟨F, M, s, rl, p⟩ := h
  by_cases ho : isOwn i s = true
  · simp only [ho, if_true] at p
    obtain ⟨xs0, pp, vs0, q0, e1, e2, e3, e4, e5⟩ := own_of rl ho
    refine ⟨_, e1, .inl ⟨rfl, vs0, SqL.of e3⟩, ?_⟩
    refine fz_rd (fun H => hdV ct.K H) ⟨F, M, s, rl, p⟩ fun v a F H M s rl d p => ?_
    unfold extP at p
    split at p
    · rename_i xs ys q qa
      split at p
      · rename_i hl
        obtain ⟨p2, vs, f1, f2, f3, f4, f5⟩ := rl.slot i _ q
        rw [e1] at f1
        have f1 : pp = p2 := V.ref.inj (Option.some.inj (Option.some.inj f1))
        subst f1
        rw [qa] at d
        cases d with
        | lst k1 k2 =>
          obtain ⟨ex, rl2⟩ := rl.setOwn q e1 (f4.append k2)
          exact ⟨pp, _, vs, _, rfl, rfl, f3, rl.same _ _ k1, by rw [lim_eq, f4.length, k2.length]; exact hl, p _ F _ M ex rl2 .non⟩
      · exact p.elim
    · exact p.elim
  · simp only [ho] at p
    exact p.elim
theorem snd_pop {i : Nat} {apos pn : Pos} {nm : Str} (hK : X.K = ct.K) (hx : PE X (.Name nm pn) (tVar i)) (ha : Snd ct X W y da) (hs : noStar y = true) (hline : (apos.endLine == pos.line) = true) : Snd ct X W (.Call (.Attribute (.Name nm pn) "pop" apos) [y] [] pos) (dPop i da) := by
  have key : PE X (.Call (.Attribute (.Name nm pn) "pop" apos) [y] [] pos) (tBM X.K "list" rPopAt (tVar i) (tCons (tV ct W da.v) tNil)) :=
    pe_bm PySem.F.plainAttrs_list PySem.F.slot_list_pop PySem.F.type_list_pop mt_popAt hx (pa_cons ha.v pa_nil (starEach_cons _ X.env hs)) rfl (few1 hs) hline (starEach_cons _ X.env hs) rfl
  refine Snd.ofV hK (PE.imp key fun σ H Q h => ?_) fun _ => rfl
  obtain ⟨F, M, s, rl, p⟩ := h
  by_cases ho : isOwn i s = true
  · simp only [ho, if_true] at p
    obtain ⟨xs0, pp, vs0, q0, e1, e2, e3, e4, e5⟩ := own_of rl ho
    refine ⟨_, e1, .inl ⟨rfl, vs0, SqL.of e3⟩, ?_⟩
    refine fz_rd (fun H => hdV ct.K H) ⟨F, M, s, rl, p⟩ fun v a F H M s rl d p => ?_
    unfold popP at p
    split at p
    · rename_i xs k q qa
      split at p
      · rename_i j hj
        split at p
        · rename_i y0 hy0
          split at p
          · rename_i hl
            obtain ⟨p2, vs, f1, f2, f3, f4, f5⟩ := rl.slot i _ q
            rw [e1] at f1
            have f1 : pp = p2 := V.ref.inj (Option.some.inj (Option.some.inj f1))
            subst f1
            rw [qa] at d
            cases d
            obtain ⟨g1, g2, g3, g4⟩ := ixN_seq hj
            obtain ⟨w0, hw0, dw0⟩ := f4.get hy0
            obtain ⟨ex, rl2⟩ := rl.setOwn q e1 (f4.erase j)
            have hl' : xs.length ≤ 16777216 := hl
            exact ⟨pp, vs, k, j, w0, rfl, rfl, f3, by omega, by omega, by rw [f4.length]; exact g1, hw0, p _ F _ M ex rl2 dw0⟩
          · exact p.elim
        · exact p.elim
      · exact p.elim
    · exact p.elim
  · simp only [ho] at p
    exact p.elim
end
end PI

set_option Elab.async false
set_option linter.all false
set_option autoImplicit false
set_option maxRecDepth 100000
set_option maxHeartbeats 4000000
/-! set(l), l a list: by what the update does -/
namespace PI
open PySem L2 PyProof.Rows
/-- the new set, with nothing in it -/
abbrev nset (w : World) : Obj := { cls := .type "set", dict := none, data := .set #[] 0 (.fresh 0 0 (!w.params.followText "set-order")) }
section
variable {P : Program} {w : World} {A : Around} {E : Value → Shared → Prop} {s : Shared}
theorem set_by_list {l : Addr} {items : Array Value} {Q : Value → Shared → Prop} {Rw : Heap → Prop} (hh : A.handled = none) (hl : s.heap.IsList l items)
    (loop : ∀ (A' : Around) (s2 : Shared) (R : Result → Shared → Prop), A'.handled = none → s2 = { s with heap := (s.heap.push (nset w)).push { cls := .type "list_iterator", data := .fields #[.ref l, .int 0 0] } } →
      (∀ s3, Moved [s.heap.objs.size, (s.heap.push (nset w)).objs.size] (fun a b => b = a) s2 s3 → Rw s3.heap → R (.ok (.ret .none)) s3) → codeAny (model P w) A' (.builtin "set.update.loop" ⟨[.ref s.heap.objs.size, .ref (s.heap.push (nset w)).objs.size], []⟩) R s2)
    (h : ∀ (h' : Heap) (tk : Nat), Rw h' → (∀ b o, s.heap.get? b = some o → h'.get? b = some o) → Q (.ref s.heap.objs.size) { s with heap := h', toks := tk }) : wpAny (model P w) A (call (.type "set") [.ref l]) Q E s := by
  obtain ⟨c, tl, q1⟩ := F.called_set.mro
  have q2 := F.called_set.made; have q3 := F.called_set.sub; have q4 := F.called_set.notType; have q5 := F.called_set.canCreate; have q6 := F.typeCall_set_1 (.ref l)
  refine wpAny_call (codeAny_of_tree ?_)
  show wpAny (model P w) _ (callAny (.type "set") _) _ _ s
  refine wpAny_pure ⟨Code.quiet_builtin _ (by decide +kernel), codeAny_builtin F.entry_type_call ?_⟩; rw [Around.under_plain (weight_type_call_type "set" [.ref l] []) rfl]
  repeat (any_goals (first | assumption | wp_step))
  refine codeAny_mono (code_set_led1 (.ref l) (E := E) (Q₁ := fun o s1 => o = .ref s.heap.objs.size ∧ s1 = { s with heap := s.heap.push (nset w) }) ⟨rfl, rfl⟩) fun r1 s1 z1 => ?_
  match r1, z1 with
  | .error e, z1 => exact z1
  | .ok (.ret o), ⟨e1, e2⟩ =>
    subst e1 e2
    have n1 : (s.heap.push (nset w)).get? s.heap.objs.size = some (nset w) := Heap.get?_push_size _ rfl
    have n2 : Shared.TypeIs { s with heap := s.heap.push (nset w) } (.ref s.heap.objs.size) "set" := ⟨_, n1, rfl⟩
    have n3 := F.called_set.init.lookup; have n4 := F.called_set.init.bind (.ref s.heap.objs.size)
    repeat (any_goals (first | assumption | wp_step))
    refine codeAny_mono (codeAny_call_builtin (R := wants (fun r s2 => r = .none ∧ ∃ h' tk, s2 = { s with heap := h', toks := tk } ∧ Rw h' ∧ ∀ b o, s.heap.get? b = some o → h'.get? b = some o) E) F.called_set.init.plain F.entry_set_init (check_set_init_1 n2 ?_)) fun r2 s2 z2 => ?_
    · obtain ⟨⟨oc, od, oa, os⟩, hol, hcl, nl, hdl⟩ := hl
      simp only at hcl hdl
      subst hcl hdl
      have m1 : (s.heap.push (nset w)).get? l = some { cls := .type "list", dict := od, data := .seq items nl, slots := os } := Heap.get?_push_of_some _ hol
      have m2 := F.sub_list_set; have m3 := F.sub_list_frozenset; have m4 : (Value.type "list" == Value.type "dict") = false := by decide
      have m5 : (s.heap.push (nset w)).IsList l items := ⟨_, m1, rfl, nl, rfl⟩
      unfold Builtin.«set.__init__» noKeywords Builtin.Frozenset.updateFrom
      generalize hit : pyIter = it
      wp_walk
      subst hit
      refine wpAny_pyIter_list m5 ?_
      refine wpAny_bind (wpAny_runValue (loop _ _ _ (by simp [hh]) rfl fun s3 mv hR => ?_))
      obtain ⟨h', g', d', tk', os'⟩ := s3
      have eg : g' = s.gens := mv.gens
      have ed : d' = s.drawn := mv.drawn
      have eo : os' = s.os := mv.os
      subst eg ed eo
      show wpAny _ _ _ _ _ _
      refine wpAny_pure ?_
      show wpAny _ _ (ret Value.none) _ _ _
      refine wpAny_pure ⟨rfl, h', tk', rfl, hR, fun b o e => mv.heap b o ?_ (Heap.get?_push_of_some _ (Heap.get?_push_of_some _ e))⟩
      have hb := Heap.lt_size e
      rw [Heap.size_push]
      simp only [List.mem_cons, List.not_mem_nil, or_false, not_or]
      exact ⟨Nat.ne_of_lt hb, Nat.ne_of_lt (Nat.lt_succ_of_lt hb)⟩
    · match r2, z2 with
      | .error e, z2 => exact z2
      | .ok (.ret r), ⟨e1, h', tk, e2, hR, hk⟩ =>
        subst e1 e2
        repeat (any_goals (first | assumption | wp_step))
        exact h _ _ hR hk
theorem ints_at {items : Array Value} {ns : List Int} (hi : IntsAre items.toList ns) (i : Nat) (v : Value) (hv : items[i]? = some v) : ∃ k t, ns[i]? = some k ∧ v = .int k t := by
  have hl : items.size = ns.length := by rw [← Array.length_toList]; exact IntsAre.length hi
  have hlt : i < ns.length := by rw [← hl]; exact (Array.getElem?_eq_some_iff.mp hv).1
  obtain ⟨t, e⟩ := IntsAre.int_at hi i v (by rw [Array.getElem?_toList]; exact hv)
  refine ⟨ns[i], t, List.getElem?_eq_getElem hlt, ?_⟩
  rw [e]
  simp [hlt]
/-- set(l) of a list of whole numbers -/
theorem set_by_ints {l : Addr} {items : Array Value} (ns : List Int) {Q : Value → Shared → Prop} (hh : A.handled = none) (hl : s.heap.IsList l items) (hi : IntsAre items.toList ns) (hb : ns.length + 1 < scanBound)
    (h : ∀ (h' : Heap) (tk c : Nat), SetR w h' s.heap.objs.size (fun j => decide (j ∈ ns)) c → c ≤ ns.length → (∀ b o, s.heap.get? b = some o → h'.get? b = some o) → Q (.ref s.heap.objs.size) { s with heap := h', toks := tk }) : wpAny (model P w) A (call (.type "set") [.ref l]) Q E s := by
  have hsz : items.size = ns.length := by rw [← Array.length_toList]; exact IntsAre.length hi
  refine set_by_list (Rw := fun h' => ∃ c, SetR w h' s.heap.objs.size (fun j => decide (j ∈ ns)) c ∧ c ≤ ns.length) hh hl (fun A' s2 R hA e2 hR => ?_) fun h' tk ⟨c, a1, a2⟩ hk => h h' tk c a1 a2 hk
  subst e2
  have hol : ∃ o, s.heap.get? l = some o := by
    obtain ⟨o, ho, _⟩ := hl
    exact ⟨o, ho⟩
  obtain ⟨o, ho⟩ := hol
  have hlt := Heap.lt_size ho
  have hz : (s.heap.push (nset w)).objs.size = s.heap.objs.size + 1 := Heap.size_push ..
  have m5 : (s.heap.push (nset w)).IsList l items := hl.push _
  refine set_update_ints ((Walks.list (by simp [hA]) (s.heap.push (nset w)).objs.size l (by rw [hz]; exact Nat.ne_of_lt (Nat.lt_succ_of_lt hlt)) items).toS) s.heap.objs.size (by rw [hz]; simp only [List.mem_cons, List.not_mem_nil, or_false, not_or]; exact ⟨Nat.ne_of_lt (Nat.lt_succ_self _), Nat.ne_of_gt hlt⟩) ns hsz hb (fun i v hv => ints_at hi i v hv) (items.size - 0) 0 _ (by omega) (Nat.zero_le _) ⟨⟨_, Heap.get?_push_size _ rfl, rfl, rfl⟩, m5.push _⟩ ⟨0, Nat.le_refl 0, setR_new_at (Heap.get?_push_of_some _ (Heap.get?_push_size _ rfl))⟩ fun s3 c mv hc hS => hR s3 mv ⟨c, hS, by omega⟩
theorem nubS_snoc (xs : List Str) (x : Str) : nubS (xs ++ [x]) = if x ∈ nubS xs then nubS xs else nubS xs ++ [x] := by
  unfold nubS
  rw [List.foldl_append]
  rfl
theorem nubS_le (xs : List Str) : (nubS xs).length ≤ xs.length := by
  have key : ∀ (xs acc : List Str), (xs.foldl (fun acc x => if x ∈ acc then acc else acc ++ [x]) acc).length ≤ acc.length + xs.length := by
    intro xs
    induction xs with
    | nil => intro acc; simp
    | cons x xs ih =>
      intro acc
      rw [List.foldl_cons, List.length_cons]
      have := ih (if x ∈ acc then acc else acc ++ [x])
      split at this
      · rename_i h
        rw [if_pos h]
        omega
      · rename_i h
        rw [if_neg h]
        rw [List.length_append, List.length_singleton] at this
        omega
  have := key xs []
  rw [List.length_nil, Nat.zero_add] at this
  exact this
theorem set_upd_strs {I : Addr} {fp wr : List Addr} {G : Array GenState → Array GenState → Prop} {n : Nat} {Pv : Nat → Value → Prop} {St : Nat → Shared → Prop} {R : Result → Shared → Prop} (W : WalksS P w A.in1 I fp wr G n Pv St) (S : Addr) (hSf : S ∉ fp) (xs : List Str) (hn : n = xs.length) (hb : xs.length + 1 < scanBound)
    (hval : ∀ i v, Pv i v → ∃ k t, xs[i]? = some k ∧ v = .str k t) : ∀ (k i : Nat) (s : Shared), n - i = k → i ≤ n → St i s → s.heap.SetOf (PySem.strKind P w) S (fun j => decide (j ∈ nubS (xs.take i))) (nubS (xs.take i)).length →
      (∀ s', Moved (S :: wr) G s s' → s'.heap.SetOf (PySem.strKind P w) S (fun j => decide (j ∈ nubS xs)) (nubS xs).length → R (.ok (.ret .none)) s') → codeAny (model P w) A (.builtin "set.update.loop" ⟨[.ref S, .ref I], []⟩) R s := by
  have nw : S ∉ wr := fun h => hSf (W.sub _ h)
  have sb : ∀ b ∈ wr, b ∈ S :: wr := fun b hb => List.mem_cons_of_mem _ hb
  intro k
  induction k with
  | zero =>
    intro i s hk' hi hst ⟨o, es, ep, t, ho, rest⟩ hR
    have hin : i = n := by omega
    subst hin
    rw [List.take_of_length_le (by omega)] at rest
    refine codeAny_builtin F.entry_set_update_loop ?_; rw [Around.under_plainId F.plain_set_update_loop _]
    show wpAny (model P w) A.in1 (pyNext (.ref I) >>= _) _ _ s
    refine wpAny_bind (W.done s _ _ hst fun s' hm => ?_)
    show wpAny (model P w) A.in1 (ret Value.none) _ _ s'
    exact wpAny_pure (hR s' (hm.mono sb) ⟨o, es, ep, t, hm.heap S _ nw ho, rest⟩)
  | succ k ih =>
    intro i s hk' hi hst ⟨o, es, ep, t, ho, rest⟩ hR
    have hlt : i < n := by omega
    refine codeAny_builtin F.entry_set_update_loop ?_; rw [Around.under_plainId F.plain_set_update_loop _]
    show wpAny (model P w) A.in1 (pyNext (.ref I) >>= _) _ _ s
    refine wpAny_bind (W.item i s _ _ hlt hst fun v s' hP hst' hm => ?_)
    obtain ⟨z, tz, hz, rfl⟩ := hval i v hP
    have hS' : s'.heap.SetOf (PySem.strKind P w) S (fun j => decide (j ∈ nubS (xs.take i))) (nubS (xs.take i)).length := ⟨o, es, ep, t, hm.heap S _ nw ho, rest⟩
    show wpAny (model P w) A.in1 (holding [Value.str z tz] (setAdd S (.str z tz)) >>= _) _ _ s'
    refine wpAny_bind (wpAny_holding ?_)
    unfold setAdd
    refine wpAny_holding (wpAny_bind ((PySem.strKind P w).pyHash (k := z) (strKind_is _ _ _ _) ?_))
    have hle := nubS_le (xs.take i)
    rw [List.length_take] at hle
    refine wpAny_setAddHashed_of (knd := PySem.strKind P w) (s := { s' with toks := s'.toks + 1 }) (strKind_is _ _ _ _) rfl hS' (by omega) fun h' hsb hS2 => ?_
    have et : nubS (xs.take (i + 1)) = if z ∈ nubS (xs.take i) then nubS (xs.take i) else nubS (xs.take i) ++ [z] := by
      rw [List.take_add_one, hz]
      exact nubS_snoc _ _
    have hS3 : h'.SetOf (PySem.strKind P w) S (fun j => decide (j ∈ nubS (xs.take (i + 1)))) (nubS (xs.take (i + 1))).length := by
      refine PyProof.Rows.SetOf_congr hS2 (fun j => ?_) ?_
      · rw [et]
        by_cases hm : z ∈ nubS (xs.take i)
        · by_cases hj : j = z
          · subst hj; simp [hm]
          · simp [hm, hj]
        · simp [hm]
      · rw [et]
        by_cases hm : z ∈ nubS (xs.take i) <;> simp [hm]
    refine wpAny_pure ⟨plainId_quiet F.plain_set_update_loop _, ih (i + 1) _ (by omega) hlt (W.frame _ s' _ _ hst' (Nat.le_succ _) fun b hb o e => ?_) hS3 fun s'' hm'' hS'' => ?_⟩
    · rw [hsb.2 b (fun h : b = S => hSf (by rw [← h]; exact hb))]; exact e
    · refine hR s'' (Moved.trans W.gtrans ((hm.mono sb).then_heap (Nat.le_succ _) fun b o hb e => ?_) hm'') hS''
      rw [hsb.2 b (fun h : b = S => hb (by rw [h]; exact List.mem_cons_self))]; exact e
theorem strs_at2 {items : Array Value} {xs : List Str} (hi : StrsAre items.toList xs) (hl : items.size = xs.length) (i : Nat) (v : Value) (hv : items[i]? = some v) : ∃ k t, xs[i]? = some k ∧ v = .str k t := by
  have hlt : i < xs.length := by rw [← hl]; exact (Array.getElem?_eq_some_iff.mp hv).1
  obtain ⟨t, e⟩ := SS.strs_at hi i v (by rw [Array.getElem?_toList]; exact hv)
  refine ⟨xs[i], t, List.getElem?_eq_getElem hlt, ?_⟩
  rw [e]
  simp [hlt]
/-- set(l) of a list of texts -/
theorem set_by_strs {l : Addr} {items : Array Value} (xs : List Str) {Q : Value → Shared → Prop} (hh : A.handled = none) (hl : s.heap.IsList l items) (hi : StrsAre items.toList xs) (hsz : items.size = xs.length) (hb : xs.length + 1 < scanBound)
    (h : ∀ (h' : Heap) (tk : Nat), h'.SetOf (PySem.strKind P w) s.heap.objs.size (fun j => decide (j ∈ nubS xs)) (nubS xs).length → (∀ b o, s.heap.get? b = some o → h'.get? b = some o) → Q (.ref s.heap.objs.size) { s with heap := h', toks := tk }) : wpAny (model P w) A (call (.type "set") [.ref l]) Q E s := by
  refine set_by_list (Rw := fun h' => h'.SetOf (PySem.strKind P w) s.heap.objs.size (fun j => decide (j ∈ nubS xs)) (nubS xs).length) hh hl (fun A' s2 R hA e2 hR => ?_) h
  subst e2
  obtain ⟨o, ho⟩ : ∃ o, s.heap.get? l = some o := by
    obtain ⟨o, ho, _⟩ := hl
    exact ⟨o, ho⟩
  have hlt := Heap.lt_size ho
  have hz : (s.heap.push (nset w)).objs.size = s.heap.objs.size + 1 := Heap.size_push ..
  have m5 : (s.heap.push (nset w)).IsList l items := hl.push _
  have h0 : ((s.heap.push (nset w)).push { cls := .type "list_iterator", data := .fields #[.ref l, .int 0 0] }).SetOf (PySem.strKind P w) s.heap.objs.size (fun j => decide (j ∈ nubS (xs.take 0))) (nubS (xs.take 0)).length :=
    PyProof.Rows.SetOf_congr ((PyProof.Rows.setObjOf_fresh (knd := PySem.strKind P w) _).setOf (Heap.get?_push_of_some _ (Heap.get?_push_size _ rfl)) (by unfold scanBound; omega)) (fun j => by simp [nubS]) rfl
  exact set_upd_strs ((Walks.list (by simp [hA]) (s.heap.push (nset w)).objs.size l (by rw [hz]; exact Nat.ne_of_lt (Nat.lt_succ_of_lt hlt)) items).toS) s.heap.objs.size (by rw [hz]; simp only [List.mem_cons, List.not_mem_nil, or_false, not_or]; exact ⟨Nat.ne_of_lt (Nat.lt_succ_self _), Nat.ne_of_gt hlt⟩) xs hsz hb (fun i v hv => strs_at2 hi hsz i v hv) (items.size - 0) 0 _ (by omega) (Nat.zero_le _) ⟨⟨_, Heap.get?_push_size _ rfl, rfl, rfl⟩, m5.push _⟩ h0 fun s3 mv hS => hR s3 mv hS
end
end PI

set_option Elab.async false
set_option linter.all false
set_option autoImplicit false
set_option maxRecDepth 100000
set_option maxHeartbeats 4000000
namespace PI
open PySem L2 PyProof.Rows
section
variable {ct : Ct} {X : Cx} {W : WX} {pos : Pos}
/-! ### list(range(i, j, c)) -/
/-- the arguments of range(..) -/
inductive RgA : List V → Int → Int → Int → Prop
  | one (j : Int) : RgA [.int j] 0 j 1
  | two (i j : Int) : RgA [.int i, .int j] i j 1
  | three (i j c : Int) : RgA [.int i, .int j, .int c] i j c
def rRg (G : List V → Addr → Hp → Hp) : List V → Hp → VK → Prop := fun vs H Q => ∃ (i j c : Int) (n : Nat), RgA vs i j c ∧ RgC i j c n ∧ n ≤ 2 ^ 24 ∧ ∀ q, H q = none → Q (.ref q) (G ((stpI i c n).map V.int) q H)
def gLst (vs : List V) (q : Addr) (H : Hp) : Hp := upd H q (.lst vs)
def gTupl (vs : List V) (q : Addr) (H : Hp) : Hp := upd H q (.tup vs)
theorem vals_stp {a c : Int} {n : Nat} {acc : Array Value} (h : ItemsOf (fun i v => ∃ t, v = .int (a + i * c) t) acc n) : Vals ((stpI a c n).map V.int) acc.toList := by
  have e : acc.toList.length = n := by rw [Array.length_toList]; exact h.1
  unfold stpI
  rw [List.map_map, ← e]
  refine vals_of_get acc.toList _ fun j u hj => ?_
  obtain ⟨t, rfl⟩ := h.2 j u (by rw [← hj, Array.getElem?_toList])
  exact ⟨t, rfl⟩
theorem rg_obj {x : Expr} {xs : List Expr} {ta : TA} {p2 q2 : Pos} {G : List V → Addr → Hp → Hp} (hg2 : Gl X "range") (hm2 : X.mg "range" = none) (ha : PA X (x :: xs) ta) (s1 : noStar x = true) (s2 : xs.all noStar = true)
    {pins : List (Addr × Obj)} {s : Shared} {σ : L2.St} {H : Hp} {Q : VK} (I : Inv X pins σ H s) (h : ta σ H fun vs H1 => rRg G vs H1 Q) :
    wpAny (model X.prog X.w) X.A (eval (.Call (.Name "range" p2) (x :: xs) [] q2) X.env) (fun v s' => ∃ (r : Addr) (i j c : Int) (t u w : Tok) (n : Nat) (H' : Hp), v = .ref r ∧ IsRange s'.heap r i j c t u w ∧ Inv X pins σ H' s' ∧ RgC i j c n ∧ n ≤ 2 ^ 24 ∧ ∀ q, H' q = none → Q (.ref q) (G ((stpI i c n).map V.int) q H')) X.xe s := by
  have ea := ha.run q2 pins s σ H _ I h
  refine Call_ (ld_blt I hg2 hm2 boot_range (PyProof.Rows.callWith_type1 (thn ea fun us s1 hz => ?_) (starEach_cons xs X.env s1) (starEach_any s2)))
  obtain ⟨vs, H1, I1, r1, q1⟩ := hz
  obtain ⟨i, j, c, n, ra, hr, hn, qq⟩ := q1
  cases ra with
  | one j =>
    match us, r1 with
    | [_], .cons ⟨t, rfl⟩ .nil =>
      exact call_range_1 ⟨_, 0, j, 1, _, _, _, n, H1, rfl, IsRange.new .., I1.kept fun b o e => Heap.get?_push_of_some _ e, hr, hn, qq⟩
  | two i j =>
    match us, r1 with
    | [_, _], .cons ⟨t, rfl⟩ (.cons ⟨t', rfl⟩ .nil) =>
      exact call_range_2 ⟨_, i, j, 1, _, _, _, n, H1, rfl, IsRange.new .., I1.kept fun b o e => Heap.get?_push_of_some _ e, hr, hn, qq⟩
  | three i j c =>
    match us, r1 with
    | [_, _, _], .cons ⟨t, rfl⟩ (.cons ⟨t', rfl⟩ (.cons ⟨t'', rfl⟩ .nil)) =>
      refine call_range_3 hr.1 ?_ (.inl (PyProof.noPylong_small hr.2.1))
      exact ⟨_, i, j, c, t, t', t'', n, H1, rfl, IsRange.new .., I1.kept fun b o e => Heap.get?_push_of_some _ e, hr, hn, qq⟩
theorem stp_size {i c : Int} {n : Nat} (hn : n ≤ 2 ^ 24) : ((stpI i c n).map V.int).length ≤ sizeLine := by
  rw [sizeLine_eq]
  simp [stpI]
  omega
theorem pe_lstR {x : Expr} {xs : List Expr} {ta : TA} {p p2 q2 pos : Pos} (hc : X.calm = true) (hg : Gl X "list") (hm : X.mg "list" = none) (hg2 : Gl X "range") (hm2 : X.mg "range" = none) (ha : PA X (x :: xs) ta) (s1 : noStar x = true) (s2 : xs.all noStar = true) :
    PE X (.Call (.Name "list" p) [.Call (.Name "range" p2) (x :: xs) [] q2] [] pos) (tCB (rRg gLst) ta) := by
  have na : starEach [.Call (.Name "range" p2) (x :: xs) [] q2] X.env = (false, eval (.Call (.Name "range" p2) (x :: xs) [] q2) X.env) :: starEach [] X.env := rfl
  refine ⟨fun pins s σ H Q I h => ?_⟩
  have inner := rg_obj (p2 := p2) (q2 := q2) hg2 hm2 ha s1 s2 I h
  refine Call_ (ld_blt I hg hm boot_list (PyProof.Rows.callWith_type1 (args_cons (thn inner fun v s1 ⟨r, i, j, c, t, u, w, n, H1, ex, hr, I1, rg, hn, qq⟩ => args_nil ?_) na) na))
  subst ex
  refine call_list_range (n := n) (I1.ok.hd hc) hr rg.2.2.1 rg.2.2.2 hn fun h' tk acc c' hk e' hi => ?_
  refine ⟨.ref s1.heap.objs.size, gLst ((stpI i c n).map V.int) s1.heap.objs.size H1, I1.laid hk (Nat.le_refl _) (show ObjOk X.prog X.w _ _ _ (.lst ((stpI i c n).map V.int)) from ⟨stp_size hn, acc.toList, c', vals_stp hi, ?_⟩), rfl, qq _ (I1.hok.fresh (Nat.le_refl _))⟩
  rw [Array.toArray_toList]; exact e'
theorem pe_tupR {x : Expr} {xs : List Expr} {ta : TA} {p p2 q2 pos : Pos} (hc : X.calm = true) (hg : Gl X "tuple") (hm : X.mg "tuple" = none) (hg2 : Gl X "range") (hm2 : X.mg "range" = none) (ha : PA X (x :: xs) ta) (s1 : noStar x = true) (s2 : xs.all noStar = true) :
    PE X (.Call (.Name "tuple" p) [.Call (.Name "range" p2) (x :: xs) [] q2] [] pos) (tCB (rRg gTupl) ta) := by
  have na : starEach [.Call (.Name "range" p2) (x :: xs) [] q2] X.env = (false, eval (.Call (.Name "range" p2) (x :: xs) [] q2) X.env) :: starEach [] X.env := rfl
  refine ⟨fun pins s σ H Q I h => ?_⟩
  have inner := rg_obj (p2 := p2) (q2 := q2) hg2 hm2 ha s1 s2 I h
  refine Call_ (ld_blt I hg hm boot_tuple (PyProof.Rows.callWith_type1 (args_cons (thn inner fun v s1 ⟨r, i, j, c, t, u, w, n, H1, ex, hr, I1, rg, hn, qq⟩ => args_nil ?_) na) na))
  subst ex
  refine call_tuple_range (n := n) (I1.ok.hd hc) hr rg.2.2.1 rg.2.2.2 hn fun h' tk acc hk hi => ?_
  have I2 : Inv X pins σ H1 { s1 with heap := h', toks := tk } := I1.kept hk
  refine ⟨.ref h'.objs.size, gTupl ((stpI i c n).map V.int) h'.objs.size H1, I2.laid (t' := tk) (fun b o e => Heap.get?_push_of_some _ e) (Nat.le_refl _) (show ObjOk X.prog X.w _ _ _ (.tup ((stpI i c n).map V.int)) from ⟨stp_size hn, acc.toList, vals_stp hi, ?_⟩), rfl, qq _ (I2.hok.fresh (Nat.le_refl _))⟩
  rw [Array.toArray_toList]; exact IsTup.new _ _
theorem stpP_rg {i j c : Int} {ds : List PV} (h : stpP i j c = some ds) : RgC i j c (Builtin.Range.rangeSize i j c).toNat ∧ (Builtin.Range.rangeSize i j c).toNat ≤ 2 ^ 24 ∧ ds = (stpI i c (Builtin.Range.rangeSize i j c).toNat).map .int := by
  unfold stpP at h
  split at h
  · rename_i hh
    obtain ⟨h1, h2, h3, h4⟩ := hh
    cases h
    exact ⟨⟨by omega, by omega, h3, PyProof.Rows.rangeSize_toNat i j c⟩, by omega, rfl⟩
  · cases h
theorem rngL_a {F H : Hp} {M : List Addr} {vs : List V} {es : List PV} {its : List PV} (d : DnOs ct.K F H M vs es) (e : rngL es = some its) : ∃ i j c, RgA vs i j c ∧ stpP i j c = some its := by
  match es, e, d with
  | [.int j], e, d =>
    match vs, d with
    | [v1], h =>
      have k1 := h.1.int
      subst k1
      exact ⟨0, j, 1, .one j, e⟩
  | [.int i, .int j], e, d =>
    match vs, d with
    | [v1, v2], h =>
      have k1 := h.1.int
      have k2 := h.2.1.int
      subst k1 k2
      exact ⟨i, j, 1, .two i j, e⟩
  | [.int i, .int j, .int c], e, d =>
    match vs, d with
    | [v1, v2, v3], h =>
      have k1 := h.1.int
      have k2 := h.2.1.int
      have k3 := h.2.2.1.int
      subst k1 k2 k3
      exact ⟨i, j, c, .three i j c, e⟩
/-! ### sorted(set(l)), len(set(l)) -/
theorem inuI_mem (x k : Int) : ∀ xs : List Int, k ∈ inuI x xs ↔ k = x ∨ k ∈ xs
  | [] => by simp [inuI]
  | y :: ys => by
    unfold inuI
    split
    · simp
    · split
      · rename_i h
        subst h
        simp
      · rw [List.mem_cons, List.mem_cons, inuI_mem x k ys]
        constructor
        · rintro (h | h | h) <;> simp [h]
        · rintro (h | h | h) <;> simp [h]
theorem inuI_asc (x : Int) : ∀ {xs : List Int}, xs.Pairwise (· < ·) → (inuI x xs).Pairwise (· < ·)
  | [], _ => by simp [inuI]
  | y :: ys, h => by
    have hy := List.pairwise_cons.mp h
    unfold inuI
    split
    · rename_i g
      exact List.pairwise_cons.mpr ⟨fun z hz => by
        rcases List.mem_cons.mp hz with rfl | hz
        · exact g
        · exact Int.lt_trans g (hy.1 z hz), h⟩
    · split
      · exact h
      · refine List.pairwise_cons.mpr ⟨fun z hz => ?_, inuI_asc x hy.2⟩
        rcases (inuI_mem x z ys).mp hz with rfl | hz
        · omega
        · exact hy.1 z hz
theorem snuI_mem (k : Int) : ∀ xs : List Int, k ∈ snuI xs ↔ k ∈ xs
  | [] => by simp [snuI]
  | x :: xs => by
    unfold snuI
    rw [inuI_mem, snuI_mem k xs, List.mem_cons]
theorem snuI_asc : ∀ xs : List Int, (snuI xs).Pairwise (· < ·)
  | [] => .nil
  | x :: xs => inuI_asc x (snuI_asc xs)
theorem asc_nodup {xs : List Int} (h : xs.Pairwise (· < ·)) : xs.Nodup := h.imp fun h => by omega
theorem asc_uniq {xs ys : List Int} (h1 : xs.Pairwise (· < ·)) (h2 : ys.Pairwise (· < ·)) (h : ∀ k, k ∈ xs ↔ k ∈ ys) : xs = ys :=
  List.Perm.eq_of_pairwise (fun a b _ _ h1 h2 => by omega) (h1.imp fun h => Int.le_of_lt h) (h2.imp fun h => Int.le_of_lt h) ((List.perm_ext_iff_of_nodup (asc_nodup h1) (asc_nodup h2)).mpr fun k => h k)
theorem setR_count {w : World} {h : Heap} {a : Addr} {ns : List Int} {c : Nat} (R : SetR w h a (fun j => decide (j ∈ ns)) c) : c = (snuI ns).length := by
  obtain ⟨o, es, ep, t, _, _, _, _, nd, hm, _, _, hn, _, _⟩ := R
  have : (es.toList.map keyOf).Perm (snuI ns) := (List.perm_ext_iff_of_nodup nd (asc_nodup (snuI_asc ns))).mpr fun k => by
    rw [← hm k, snuI_mem]
    exact decide_eq_true_iff
  have := this.length_eq
  rw [List.length_map, Array.length_toList] at this
  omega
theorem vals_ints : ∀ {ns : List Int} {us : List Value}, Vals (ns.map V.int) us → IntsAre us ns
  | [], _, .nil => .nil
  | n :: ns, _, .cons r t => by
    obtain ⟨k, rfl⟩ := r
    exact .cons n k (vals_ints t)
/-- what set(..) makes -/
theorem set_obj {x : Expr} {xs : List Expr} {ta : TA} {p2 q2 : Pos} {T : List Int → Hp → Prop} (hc : X.calm = true) (hg2 : Gl X "set") (hm2 : X.mg "set" = none) (ha : PA X (x :: xs) ta) (s1 : noStar x = true) (s2 : xs.all noStar = true)
    {pins : List (Addr × Obj)} {s : Shared} {σ : L2.St} {H : Hp} (I : Inv X pins σ H s) (h : ta σ H fun vs H1 => ∃ l ns, vs = [V.ref l] ∧ SqL X.K H1 l (ns.map V.int) ∧ ns.length ≤ 3000 ∧ T ns H1) :
    wpAny (model X.prog X.w) X.A (eval (.Call (.Name "set" p2) (x :: xs) [] q2) X.env) (fun v s' => ∃ (a : Addr) (ns : List Int) (H' : Hp), v = .ref a ∧ SetR X.w s'.heap a (fun j => decide (j ∈ ns)) (snuI ns).length ∧ ns.length ≤ 3000 ∧ Inv X pins σ H' s' ∧ T ns H') X.xe s := by
  have ea := ha.run q2 pins s σ H _ I h
  refine Call_ (ld_blt I hg2 hm2 boot_set (callWith_type1 (thn ea fun us s1 hz => ?_) (starEach_cons xs X.env s1) (starEach_any s2)))
  obtain ⟨vs, H1, I1, r1, l, ns, rfl, hs, hn, hT⟩ := hz
  obtain ⟨its, rv, pl, _⟩ := I1.list hs
  rw [Vals.ref1 r1]
  refine set_by_ints ns (I1.ok.hd hc) pl.isList (by simpa using vals_ints rv) (by unfold scanBound; omega) fun h' tk c hS _ hk => ?_
  refine ⟨_, ns, H1, rfl, ?_, hn, I1.kept (t' := tk) hk, hT⟩
  rw [← setR_count hS]
  exact hS
theorem pe_srtS {x : Expr} {xs : List Expr} {ta : TA} {p p2 q2 pos : Pos} (hc : X.calm = true) (hg : Gl X "sorted") (hm : X.mg "sorted" = none) (hg2 : Gl X "set") (hm2 : X.mg "set" = none) (ha : PA X (x :: xs) ta) (s1 : noStar x = true) (s2 : xs.all noStar = true) :
    PE X (.Call (.Name "sorted" p) [.Call (.Name "set" p2) (x :: xs) [] q2] [] pos) (fun σ H Q => ta σ H fun vs H1 => ∃ l ns, vs = [V.ref l] ∧ SqL X.K H1 l (ns.map V.int) ∧ ns.length ≤ 3000 ∧ (snuI ns).length < 64 ∧ ∀ q, H1 q = none → Q (.ref q) (upd H1 q (.lst ((snuI ns).map V.int)))) := by
  have na : starEach [.Call (.Name "set" p2) (x :: xs) [] q2] X.env = (false, eval (.Call (.Name "set" p2) (x :: xs) [] q2) X.env) :: starEach [] X.env := rfl
  refine ⟨fun pins s σ H Q I h => ?_⟩
  have inner := set_obj (p2 := p2) (q2 := q2) (T := fun ns H1 => (snuI ns).length < 64 ∧ ∀ q, H1 q = none → Q (.ref q) (upd H1 q (.lst ((snuI ns).map V.int)))) hc hg2 hm2 ha s1 s2 I h
  refine Call_ (ld_blt I hg hm boot_sorted (callWith_builtin1 (args_cons (thn inner fun v s1 ⟨a, ns, H1, ex, R, hn, I1, h64, qq⟩ => args_nil ?_) na) na rfl))
  subst ex
  refine sorted_set R (I1.ok.hd hc) h64 fun s' q out c ms k g o hp hob hi hs hmem hl => ?_
  have em : ms = snuI ns := asc_uniq hs (snuI_asc ns) fun k => by rw [hmem k, snuI_mem]; exact decide_eq_true_iff
  subst em
  have hfr : H1 q = none := I1.hok.fresh hp
  have hlen : ((snuI ns).map V.int).length ≤ sizeLine := by rw [List.length_map, sizeLine_eq]; omega
  have J : Inv X pins σ (upd H1 q (.lst ((snuI ns).map V.int))) { s1 with heap := s'.heap, gens := s'.gens, drawn := s'.drawn, toks := s'.toks } :=
    I1.call (ch := []) (Un.laid k hp hfr) (I1.hok.laid k hp ⟨hlen, out.toList, c, vals_of_ints hi, hob⟩) (by rw [g]; exact I1.bare) (fun _ z => nomatch z)
  have es : s' = { s1 with heap := s'.heap, gens := s'.gens, drawn := s'.drawn, toks := s'.toks } := by
    cases s'; cases s1; cases o; rfl
  rw [es]
  exact ⟨.ref q, _, J, rfl, qq q hfr⟩
/-- .. of texts, or of a tuple of whole numbers -/
theorem set_objL {x : Expr} {xs : List Expr} {ta : TA} {p2 q2 : Pos} {T : Nat → Hp → Prop} (hc : X.calm = true) (hg2 : Gl X "set") (hm2 : X.mg "set" = none) (ha : PA X (x :: xs) ta) (s1 : noStar x = true) (s2 : xs.all noStar = true)
    {pins : List (Addr × Obj)} {s : Shared} {σ : L2.St} {H : Hp} (I : Inv X pins σ H s) (h : ta σ H fun vs H1 => (∃ l ns, vs = [V.ref l] ∧ (SqL X.K H1 l (ns.map V.int) ∨ SqT X.K H1 l (ns.map V.int)) ∧ ns.length ≤ 3000 ∧ T (snuI ns).length H1) ∨ ∃ l zs, vs = [V.ref l] ∧ SqL X.K H1 l (zs.map V.str) ∧ zs.length ≤ 3000 ∧ T (nubS zs).length H1) :
    wpAny (model X.prog X.w) X.A (eval (.Call (.Name "set" p2) (x :: xs) [] q2) X.env) (fun v s' => ∃ (a : Addr) (n : Nat) (H' : Hp) (o : Obj) (es : Array (Int × Value)) (ep : Nat) (t : SetTable), v = .ref a ∧ s'.heap.get? a = some o ∧ o.ExactSet ∧ o.data = .set es ep t ∧ t.fits es.size = true ∧ es.size = n ∧ n < scanBound ∧ Inv X pins σ H' s' ∧ T n H') X.xe s := by
  have ea := ha.run q2 pins s σ H _ I h
  refine Call_ (ld_blt I hg2 hm2 boot_set (callWith_type1 (thn ea fun us s1 hz => ?_) (starEach_cons xs X.env s1) (starEach_any s2)))
  obtain ⟨vs, H1, I1, r1, hq⟩ := hz
  have fin : ∀ (ns : List Int) (h' : Heap) (tk c : Nat), SetR X.w h' s1.heap.objs.size (fun j => decide (j ∈ ns)) c → (∀ b o, s1.heap.get? b = some o → h'.get? b = some o) → T (snuI ns).length H1 → ∃ (a : Addr) (n : Nat) (H' : Hp) (o : Obj) (es : Array (Int × Value)) (ep : Nat) (t : SetTable), Value.ref s1.heap.objs.size = .ref a ∧ h'.get? a = some o ∧ o.ExactSet ∧ o.data = .set es ep t ∧ t.fits es.size = true ∧ es.size = n ∧ n < scanBound ∧ Inv X pins σ H' { s1 with heap := h', toks := tk } ∧ T n H' := fun ns h' tk c hS hk hT => by
    have hc := setR_count hS
    obtain ⟨o, es, ep, t, ho, hex, hd, _, _, _, hb, hf, hn2, _, _⟩ := hS
    exact ⟨_, c, H1, o, es, ep, t, rfl, ho, hex, hd, hf, hn2, by omega, I1.kept (t' := tk) hk, by rw [hc]; exact hT⟩
  rcases hq with ⟨l, ns, rfl, hs, hn, hT⟩ | ⟨l, zs, rfl, hs, hn, hT⟩
  · rw [Vals.ref1 r1]
    rcases hs with hs | hs
    · obtain ⟨its, rv, pl, _⟩ := I1.list hs
      exact set_by_ints ns (I1.ok.hd hc) pl.isList (by simpa using vals_ints rv) (by unfold scanBound; omega) fun h' tk c hS _ hk => fin ns h' tk c hS hk hT
    · obtain ⟨its, rv, pl, _⟩ := I1.tuple hs
      exact call_set_tupI ns (I1.ok.hd hc) pl (by simpa using vals_ints rv) (by unfold scanBound; omega) fun h' tk c hS _ hk => fin ns h' tk c hS hk hT
  · obtain ⟨its, rv, pl, _⟩ := I1.list hs
    rw [Vals.ref1 r1]
    have hsz : its.toArray.size = zs.length := by rw [List.size_toArray, ← rv.length, List.length_map]
    refine set_by_strs zs (I1.ok.hd hc) pl.isList (by simpa using strsAre_of rv) hsz (by unfold scanBound; omega) fun h' tk ⟨o, es, ep, t, ho, hex, hd, _, _, hb, hf, hn2⟩ hk => ?_
    exact ⟨_, (nubS zs).length, H1, o, es, ep, t, rfl, ho, hex, hd, hf, hn2, by omega, I1.kept (t' := tk) hk, hT⟩
theorem pe_lenS {x : Expr} {xs : List Expr} {ta : TA} {p p2 q2 pos : Pos} (hc : X.calm = true) (hg : Gl X "len") (hm : X.mg "len" = none) (hg2 : Gl X "set") (hm2 : X.mg "set" = none) (ha : PA X (x :: xs) ta) (s1 : noStar x = true) (s2 : xs.all noStar = true) :
    PE X (.Call (.Name "len" p) [.Call (.Name "set" p2) (x :: xs) [] q2] [] pos) (fun σ H Q => ta σ H fun vs H1 => (∃ l ns, vs = [V.ref l] ∧ (SqL X.K H1 l (ns.map V.int) ∨ SqT X.K H1 l (ns.map V.int)) ∧ ns.length ≤ 3000 ∧ Q (.int (snuI ns).length) H1) ∨ ∃ l zs, vs = [V.ref l] ∧ SqL X.K H1 l (zs.map V.str) ∧ zs.length ≤ 3000 ∧ Q (.int (nubS zs).length) H1) := by
  have na : starEach [.Call (.Name "set" p2) (x :: xs) [] q2] X.env = (false, eval (.Call (.Name "set" p2) (x :: xs) [] q2) X.env) :: starEach [] X.env := rfl
  refine ⟨fun pins s σ H Q I h => ?_⟩
  have inner := set_objL (p2 := p2) (q2 := q2) (T := fun n H1 => Q (.int (n : Nat)) H1) hc hg2 hm2 ha s1 s2 I h
  refine Call_ (ld_blt I hg hm boot_len (callWith_builtin1 (args_cons (thn inner fun v s1 ⟨a, n, H1, o, es, ep, t, ex, ho, hex, hd, hf, hn2, hb, I1, qq⟩ => args_nil ?_) na) na rfl))
  subst ex
  exact call_len_set ho hex hd hf (by unfold scanBound at hb; omega) ⟨.int (n : Nat), H1, I1.tok _, ⟨_, by rw [hn2]⟩, qq⟩
/-! ### list(zip(a, b)) of two tuples -/
theorem addP_get {F : Hp} : ∀ {L : List (Addr × V × V)}, (L.map (·.1)).Nodup → ∀ p ∈ L, addP F L p.1 = some (.tup [p.2.1, p.2.2])
  | [], _, p, h => by cases h
  | q :: L, hn, p, h => by
    have hn' := List.nodup_cons.mp hn
    rw [addP]
    rcases List.mem_cons.mp h with rfl | h
    · rw [upd_same]
    · have ne : p.1 ≠ q.1 := fun z => hn'.1 (List.mem_map.mpr ⟨p, h, z⟩)
      rw [upd_ne ne]
      exact addP_get hn'.2 p h
theorem addP_rl {F H : Hp} {M : List Addr} {σ : L2.St} {s : Ps} {O : Addr → Prop} (rl : Rl ct.K F H M σ s) : ∀ {L : List (Addr × V × V)}, (L.map (·.1)).Nodup → (∀ p ∈ L, H p.1 = none) → Rl ct.K (addP F L) (addP H L) M σ s ∧ Ext O F H M (addP F L) (addP H L) M O
  | [], _, _ => ⟨rl, Ext.refl⟩
  | q :: L, hn, hq => by
    have hn' := List.nodup_cons.mp hn
    obtain ⟨r1, x1⟩ := addP_rl rl (L := L) hn'.2 fun p hp => hq p (List.mem_cons_of_mem _ hp)
    have hno : addP H L q.1 = none := by
      rw [addP_none fun p hp z => hn'.1 (List.mem_map.mpr ⟨p, hp, z⟩)]
      exact hq q (by simp)
    exact ⟨r1.new hno, x1.trans (Ext.new r1 hno)⟩
theorem zip_dns {F : Hp} {M : List Addr} : ∀ {L : List (Addr × V × V)} {ws ws2 : List V} {xs ys : List PV}, L.map (·.2) = ws.zip ws2 → ws.length = ws2.length → Dns ct.K F M ws xs → Dns ct.K F M ws2 ys → ∀ {G : Hp}, (∀ p ∈ L, G p.1 = some (.tup [p.2.1, p.2.2])) → Same F G → Dns ct.K G M (L.map fun p => V.ref p.1) (zipL xs ys)
  | L, [], ws2, xs, ys, e, hl, d1, d2, G, hG, sm => by
    cases d1
    have : L = [] := by simpa using e
    subst this
    rw [zipL]
    · exact .nil
    · intro x xs' y ys' h; cases h
  | L, w :: ws, [], xs, ys, e, hl, d1, d2, G, hG, sm => by simp at hl
  | [], w :: ws, w2 :: ws2, xs, ys, e, hl, d1, d2, G, hG, sm => by simp at e
  | p :: L, w :: ws, w2 :: ws2, _, _, e, hl, .cons a1 d1, .cons a2 d2, G, hG, sm => by
    rw [List.map_cons, List.zip_cons_cons] at e
    obtain ⟨e1, e2⟩ := List.cons.inj e
    have g := hG p (by simp)
    rw [e1] at g
    rw [List.map_cons, zipL]
    exact .cons (.tup (SqT.of g) (.cons (a1.mono sm (List.prefix_refl _)) (.cons (a2.mono sm (List.prefix_refl _)) .nil))) (zip_dns e2 (by simpa using hl) d1 d2 (fun q hq => hG q (List.mem_cons_of_mem _ hq)) sm)
theorem fin_zip {F H : Hp} {M : List Addr} {σ : L2.St} {s : Ps} {Q : VK} {ws ws2 : List V} {xs ys : List PV} (rl : Rl ct.K F H M σ s) (p : Pst ct W (DrV ct.K) σ F H M s Q (.ok (.own (zipL xs ys)) s)) (d1 : Dns ct.K F M ws xs) (d2 : Dns ct.K F M ws2 ys) (hl : ws.length = ws2.length)
    {L : List (Addr × V × V)} {q : Addr} (n1 : (L.map (·.1)).Nodup) (n2 : L.map (·.2) = ws.zip ws2) (n3 : ∀ p ∈ L, H p.1 = none) (n4 : H q = none) (n5 : ∀ p ∈ L, p.1 ≠ q) : Q (.ref q) (upd (addP H L) q (.lst (L.map fun p => V.ref p.1))) := by
  obtain ⟨r1, x1⟩ := addP_rl (O := Own σ s.loc) rl n1 n3
  have hq : addP H L q = none := by rw [addP_none n5]; exact n4
  exact p _ (addP F L) _ M ⟨x1.trans (Ext.newH r1 hq), fun _ h => h⟩ (r1.newH hq) ⟨q, _, rfl, r1.same.free hq, upd_same, zip_dns n2 hl d1 d2 (addP_get n1) x1.fs, r1.notM hq, n4⟩
theorem snd_two {f : Pm} {p p2 q2 : Pos} {es : List Expr} {ds : List Den} (hf : f.two = true) (hK : X.K = ct.K) (hc : X.calm = true) (hg : Gl X f.name) (hm : X.mg f.name = none) (hg2 : Gl X f.inn) (hm2 : X.mg f.inn = none) {x : Expr} (ha : PA X (x :: es) (tBsR ct W (Den.bs true ds))) (hs : (x :: es).all noStar = true) :
    Snd ct X W (.Call (.Name f.name p) [.Call (.Name f.inn p2) (x :: es) [] q2] [] pos) (dPrim f ds) := by
  have hs : noStar x = true ∧ es.all noStar = true := by rw [List.all_cons, Bool.and_eq_true] at hs; exact hs
  cases f with
  | lstR =>
    have key := pe_lstR (p := p) (p2 := p2) (q2 := q2) (pos := pos) hc hg hm hg2 hm2 ha hs.1 hs.2
    refine Snd.ofV hK (PE.imp key fun σ H Q h => opnds_rd (fun H => hdV ct.K H) h fun vs F H M s es bs rl _ _ d pz => ?_) fun _ => rfl
    obtain ⟨v, e, pf⟩ := Pst.lift pz
    have e : (rngL es).map SV.own = some v := e
    obtain ⟨its, e1, rfl⟩ := Option.map_eq_some_iff.mp e
    obtain ⟨i, j, c, ra, e2⟩ := rngL_a d e1
    obtain ⟨g1, g2, rfl⟩ := stpP_rg e2
    exact ⟨i, j, c, _, ra, g1, g2, fun q hq => fin_lst rl pf hq (Dns.of_ints _)⟩
  | tupR =>
    have key := pe_tupR (p := p) (p2 := p2) (q2 := q2) (pos := pos) hc hg hm hg2 hm2 ha hs.1 hs.2
    refine Snd.ofV hK (PE.imp key fun σ H Q h => opnds_rd (fun H => hdV ct.K H) h fun vs F H M s es bs rl _ _ d pz => ?_) fun _ => rfl
    obtain ⟨v, e, pf⟩ := Pst.lift pz
    have e : (rngL es).map (fun xs => SV.val (.tup xs)) = some v := e
    obtain ⟨its, e1, rfl⟩ := Option.map_eq_some_iff.mp e
    obtain ⟨i, j, c, ra, e2⟩ := rngL_a d e1
    obtain ⟨g1, g2, rfl⟩ := stpP_rg e2
    exact ⟨i, j, c, _, ra, g1, g2, fun q hq => fin_tup rl pf hq (Dns.of_ints _)⟩
  | lstZ =>
    have key := pe_lstZ (p := p) (p2 := p2) (q2 := q2) (pos := pos) hc hg hm hg2 hm2 ha (starEach_cons es X.env hs.1) (starEach_any hs.2)
    refine Snd.ofV hK (PE.imp key fun σ H Q h => opnds_rd (fun H => hdV ct.K H) h fun vs F H M s es bs rl _ _ d pz => ?_) fun _ => rfl
    obtain ⟨v, e, pf⟩ := Pst.lift pz
    match es, e, vs, d with
    | [.tup xs, .tup ys], e, [v1, v2], d =>
      have e : (if xs.length = ys.length then some (SV.own (zipL xs ys)) else none) = some v := e
      split at e
      · rename_i hh
        cases e
        obtain ⟨l, ws, rfl, h1, d1⟩ := d.1.tup rl.same
        obtain ⟨l2, ws2, rfl, h2, d2⟩ := d.2.1.tup rl.same
        have hl : ws.length = ws2.length := by rw [d1.length, d2.length]; exact hh
        exact ⟨l, l2, ws, ws2, rfl, by rw [hK]; exact h1, by rw [hK]; exact h2, hl, fun L q n1 n2 n3 n4 n5 => fin_zip rl pf d1 d2 hl n1 n2 n3 n4 n5⟩
      · cases e
  | srtS =>
    have key := pe_srtS (p := p) (p2 := p2) (q2 := q2) (pos := pos) hc hg hm hg2 hm2 ha hs.1 hs.2
    refine Snd.ofV hK (PE.imp key fun σ H Q h => opnds_rd (fun H => hdV ct.K H) h fun vs F H M s es bs rl _ _ d pz => ?_) fun _ => rfl
    obtain ⟨v, e, pf⟩ := Pst.lift pz
    match es, e, vs, d with
    | [.lst xs], e, [v1], d =>
      have e : (match unInts xs with
        | some ns => if ns.length ≤ 3000 ∧ (snuI ns).length < 64 then some (SV.own ((snuI ns).map .int)) else none
        | none => none) = some v := e
      split at e
      · rename_i ns e1
        split at e
        · rename_i hh
          cases e
          obtain ⟨l, ws, rfl, h1, d1⟩ := d.1.lst rl.same
          have ew := d1.ints e1
          subst ew
          exact ⟨l, ns, rfl, SqL.of h1, hh.1, hh.2, fun q hq => fin_lst rl pf hq (Dns.of_ints _)⟩
        · cases e
      · cases e
  | lenS =>
    have key := pe_lenS (p := p) (p2 := p2) (q2 := q2) (pos := pos) hc hg hm hg2 hm2 ha hs.1 hs.2
    refine Snd.ofV hK (PE.imp key fun σ H Q h => opnds_rd (fun H => hdV ct.K H) h fun vs F H M s es bs rl _ _ d pz => ?_) fun _ => rfl
    obtain ⟨v, e, pf⟩ := Pst.lift pz
    match es, e, vs, d with
    | [.lst xs], e, [v1], d =>
      have e : (match unInts xs with
        | some ns => if ns.length ≤ 3000 then some (SV.val (.int (snuI ns).length)) else none
        | none => match unStrs xs with
          | some zs => if zs.length ≤ 3000 then some (SV.val (.int (nubS zs).length)) else none
          | none => none) = some v := e
      obtain ⟨l, ws, rfl, h1, d1⟩ := d.1.lst rl.same
      split at e
      · rename_i ns e1
        split at e
        · rename_i hh
          cases e
          have ew := d1.ints e1
          subst ew
          exact .inl ⟨l, ns, rfl, .inl (SqL.of h1), hh, Pst.fin rl pf (.int _)⟩
        · cases e
      · split at e
        · rename_i zs e1
          split at e
          · rename_i hh
            cases e
            have ew := d1.strs e1
            subst ew
            exact .inr ⟨l, zs, rfl, SqL.of h1, hh, Pst.fin rl pf (.int _)⟩
          · cases e
        · cases e
    | [.tup xs], e, [v1], d =>
      have e : (match unInts xs with
        | some ns => if ns.length ≤ 3000 then some (SV.val (.int (snuI ns).length)) else none
        | none => none) = some v := e
      obtain ⟨l, ws, rfl, h1, d1⟩ := d.1.tup rl.same
      split at e
      · rename_i ns e1
        split at e
        · rename_i hh
          cases e
          have ew := d1.ints e1
          subst ew
          exact .inl ⟨l, ns, rfl, .inr (by rw [hK]; exact h1), hh, Pst.fin rl pf (.int _)⟩
        · cases e
      · cases e
  | _ => cases hf
/-- two names at once, not both of them plain: by a pair -/
theorem ps_parC {i j : Nat} {x y : Str} {a b : Expr} {ta : TA} {px py pt : Pos} {kt k2 : Nat} {pt2 : Pos} (hc : X.calm = true) (hN : X.N.Nodup) (hi : X.N[i]? = some x) (hj : X.N[j]? = some y)
    (hx : L2.Loc X.env.scope x) (fx : X.fn x = true ∨ X.env.scope.names.lookup x = some .local) (hy : L2.Loc X.env.scope y) (fy : X.fn y = true ∨ X.env.scope.names.lookup y = some .local) (ha : PA X [a, b] ta)
    (hw : swappedStores [.Tuple [.Name x px, .Name y py] kt pt] (.Tuple [a, b] k2 pt2) X.env = pure none)
    (hs : swapsWithSole [.Tuple [.Name x px, .Name y py] kt pt] (.Tuple [a, b] k2 pt2) pos.line X.env = pure false := by rfl) :
    PS X (.Assign [.Tuple [.Name x px, .Name y py] kt pt] (.Tuple [a, b] k2 pt2) pos) (tPar i j ta) := by
  refine ⟨fun pins s σ H D I h => ?_⟩
  have h : ta σ H fun vs H1 => ∃ v w, vs = [v, w] ∧ D.nx ((σ.set i (some v)).set j (some w)) H1 := h
  have ea := ha.run pt2 pins s σ H _ I h
  have tup : wpAny (model X.prog X.w) X.A (eval (.Tuple [a, b] k2 pt2) X.env) (fun t s1 => ∃ (r : Addr) (u1 u2 : Value) (v w : V) (H1 : Hp), t = .ref r ∧ s1.heap.IsTuple r #[u1, u2] ∧ Inv X pins σ H1 s1 ∧ RelV v u1 ∧ RelV w u2 ∧ D.nx ((σ.set i (some v)).set j (some w)) H1) X.xe s := by
    refine Tuple_ (thn ea fun us s1 hz => ?_)
    obtain ⟨vs, H1, I1, r1, v, w, rfl, q1⟩ := hz
    match us, r1 with
    | [u1, u2], .cons g1 (.cons g2 .nil) =>
      refine wpAny_newObj_type ?_ (by show 2 ≤ sizeLine; decide)
      exact ⟨_, u1, u2, v, w, H1, rfl, IsTup.new s1.heap _, I1.kept (t' := s1.toks) fun b o e => Heap.get?_push_of_some _ e, g1, g2, q1⟩
  refine wpAny_Assign_stores (thn tup fun t s1 hz => ?_) hs hw
  obtain ⟨r, u1, u2, v, w, H1, rfl, ht, I1, g1, g2, q1⟩ := hz
  show wpAny _ _ (assign (.Tuple [.Name x px, .Name y py] kt pt) X.env (.ref r)) _ _ _
  refine assign_Tuple_tuple (I1.ok.hd hc) ht rfl rfl fun h' hx' => ?_
  have I2 : Inv X pins σ H1 { s1 with heap := h' } := I1.kept (t' := s1.toks) fun b o e => hx' b o (Nat.ne_of_lt (Heap.lt_size e)) e
  show wpAny _ _ (assignInOrder [assign (.Name x px) X.env, assign (.Name y py) X.env] [u1, u2]) _ _ _
  refine assignInOrder_cons (wpAny_assign_Name (store_ok I2 hN hi hx g1 (fun s2 I3 => ?_) fx))
  refine assignInOrder_cons (wpAny_assign_Name (store_ok I3 hN hj hy g2 (fun s3 I4 => assignInOrder_nil ?_) fy))
  exact ⟨_, H1, I4, q1⟩
/-- three names at once, not all of them plain: by a tuple -/
theorem ps_par3C {i j l : Nat} {x y z : Str} {a b c : Expr} {ta : TA} {px py pz pt : Pos} {kt k2 : Nat} {pt2 : Pos} (hc : X.calm = true) (hN : X.N.Nodup) (hi : X.N[i]? = some x) (hj : X.N[j]? = some y) (hl : X.N[l]? = some z)
    (hx : L2.Loc X.env.scope x) (fx : X.fn x = true ∨ X.env.scope.names.lookup x = some .local) (hy : L2.Loc X.env.scope y) (fy : X.fn y = true ∨ X.env.scope.names.lookup y = some .local) (hz : L2.Loc X.env.scope z) (fz : X.fn z = true ∨ X.env.scope.names.lookup z = some .local) (ha : PA X [a, b, c] ta)
    (hw : swappedStores [.Tuple [.Name x px, .Name y py, .Name z pz] kt pt] (.Tuple [a, b, c] k2 pt2) X.env = pure none)
    (hs : swapsWithSole [.Tuple [.Name x px, .Name y py, .Name z pz] kt pt] (.Tuple [a, b, c] k2 pt2) pos.line X.env = pure false := by rfl) :
    PS X (.Assign [.Tuple [.Name x px, .Name y py, .Name z pz] kt pt] (.Tuple [a, b, c] k2 pt2) pos) (tPar3 i j l ta) := by
  refine ⟨fun pins s σ H D I h => ?_⟩
  have h : ta σ H fun vs H1 => ∃ u v w, vs = [u, v, w] ∧ D.nx (((σ.set i (some u)).set j (some v)).set l (some w)) H1 := h
  have ea := ha.run pt2 pins s σ H _ I h
  have tup : wpAny (model X.prog X.w) X.A (eval (.Tuple [a, b, c] k2 pt2) X.env) (fun t s1 => ∃ (r : Addr) (u1 u2 u3 : Value) (u v w : V) (H1 : Hp), t = .ref r ∧ s1.heap.IsTuple r #[u1, u2, u3] ∧ Inv X pins σ H1 s1 ∧ RelV u u1 ∧ RelV v u2 ∧ RelV w u3 ∧ D.nx (((σ.set i (some u)).set j (some v)).set l (some w)) H1) X.xe s := by
    refine Tuple_ (thn ea fun us s1 hz => ?_)
    obtain ⟨vs, H1, I1, r1, u, v, w, rfl, q1⟩ := hz
    match us, r1 with
    | [u1, u2, u3], .cons g1 (.cons g2 (.cons g3 .nil)) =>
      refine wpAny_newObj_type ?_ (by show 3 ≤ sizeLine; decide)
      exact ⟨_, u1, u2, u3, u, v, w, H1, rfl, IsTup.new s1.heap _, I1.kept (t' := s1.toks) fun b o e => Heap.get?_push_of_some _ e, g1, g2, g3, q1⟩
  refine wpAny_Assign_stores (thn tup fun t s1 hz' => ?_) hs hw
  obtain ⟨r, u1, u2, u3, u, v, w, H1, rfl, ht, I1, g1, g2, g3, q1⟩ := hz'
  show wpAny _ _ (assign (.Tuple [.Name x px, .Name y py, .Name z pz] kt pt) X.env (.ref r)) _ _ _
  refine assign_Tuple_tuple (I1.ok.hd hc) ht rfl rfl fun h' hx' => ?_
  have I2 : Inv X pins σ H1 { s1 with heap := h' } := I1.kept (t' := s1.toks) fun b o e => hx' b o (Nat.ne_of_lt (Heap.lt_size e)) e
  show wpAny _ _ (assignInOrder [assign (.Name x px) X.env, assign (.Name y py) X.env, assign (.Name z pz) X.env] [u1, u2, u3]) _ _ _
  refine assignInOrder_cons (wpAny_assign_Name (store_ok I2 hN hi hx g1 (fun s2 I3 => ?_) fx))
  refine assignInOrder_cons (wpAny_assign_Name (store_ok I3 hN hj hy g2 (fun s3 I4 => ?_) fy))
  refine assignInOrder_cons (wpAny_assign_Name (store_ok I4 hN hl hz g3 (fun s4 I5 => assignInOrder_nil ?_) fz))
  exact ⟨_, H1, I5, q1⟩
end
end PI

set_option Elab.async false
set_option linter.all false
set_option autoImplicit false
set_option maxRecDepth 100000
set_option maxHeartbeats 4000000
/-! Texts cut by steps; min and max with a default. -/
namespace PI
open PySem L2 PySem.Spec PyProof.Rows
section
variable {ct : Ct} {X : Cx} {W : WX} {x y z : Expr} {pos : Pos} {da db dc : Den}
/-- z[i::k] of a text -/
def rSls : V → Option Int → Option Int → Hp → VK → Prop := fun x lo st H Q => ∃ (z : Str) (i c : Int), x = .str z ∧ lo = some i ∧ st = some c ∧ 0 < c ∧ z.length ≤ sizeLine ∧ (Builtin.Str.strSliceIndices (some i) none c z.length).length ≤ sizeLine ∧ Q (.str (stpS z i c)) H
def tSls (te : TE) (tl tk : TO) : TE := fun σ H Q => te σ H fun x H1 => tl σ H1 fun l H2 => tk σ H2 fun c H3 => rSls x l c H3 Q
theorem pe_sls {te : TE} {tl tk : TO} {p2 : Pos} (he : PE X x te) (hl : PO X (some y) tl) (hk : PO X (some z) tk) : PE X (.Subscript x (.Slice (some y) none (some z) p2) pos) (tSls te tl tk) := by
  refine ⟨fun pins s σ H Q I h => ?_⟩
  refine Subscript_ (thn (he.run pins s σ H _ I h) fun v s1 hz => ?_)
  obtain ⟨w, H1, I1, r1, q1⟩ := hz
  refine wpAny_Slice (thn (hl.run pins s1 σ H1 _ I1 q1) fun vl s2 hz2 => ?_)
  obtain ⟨l, H2, I2, pl, q2⟩ := hz2
  refine thn (po_none.run pins s2 σ H2 (fun o H3 => o = none ∧ H3 = H2) I2 ⟨rfl, rfl⟩) fun vu s3 hz3 => ?_
  obtain ⟨u, H3, I3, pu, eu, e3⟩ := hz3
  subst eu e3
  refine thn (hk.run pins s3 σ H3 _ I3 q2) fun vs s4 hz4 => ?_
  obtain ⟨o, H4, I4, ps, q4⟩ := hz4
  obtain ⟨zz, i, c, rfl, rfl, rfl, hc, hz, hp, q⟩ := q4
  obtain ⟨t, rfl⟩ := r1
  have I5 : Inv X pins σ H4 { s4 with heap := s4.heap.push { cls := .type "slice", data := .fields #[vl, vu, vs] } } := I4.kept (t' := s4.toks) fun b ob q => Heap.get?_push_of_some _ q
  obtain ⟨l', rfl, el⟩ := IsPart.raw pl
  obtain ⟨u', rfl, eu⟩ := IsPart.raw pu
  obtain ⟨k', rfl, ek⟩ := IsPart.raw ps
  show wpAny (model X.prog X.w) X.A (subscriptTail x (.Slice (some y) none (some z) p2) (.str zz t) (.ref s4.heap.objs.size)) (EP X pins σ Q) X.xe { s4 with heap := s4.heap.push { cls := .type "slice", data := .fields #[partValue l', partValue u', partValue k'] } }
  refine tail_any (ops := [.str zz t, .ref s4.heap.objs.size]) (typeIs_str _ _ _) F.slot_str_getitem.lookup ?_ (by with_unfolding_all rfl)
  have eg : (k'.map (·.1)).getD 1 = c := by rw [ek]; rfl
  refine wpAny_getItem_str_slice (l := l') (u := u') (st := k') ⟨_, Heap.get?_push_size _ rfl, rfl, rfl⟩ (by rw [eg]; exact beq_eq_false_iff_ne.mpr (by omega)) ?_
  unfold sliceMade slicePicked
  rw [eg, el, eu]
  unfold stpS at q
  by_cases cc : (c == 1 && (Builtin.Str.strSliceIndices (some i) none c zz.length).length == zz.length) = true
  · rw [if_pos cc] at q ⊢
    exact ⟨.str zz, H4, I5, ⟨t, rfl⟩, q⟩
  · rw [if_neg cc] at q ⊢
    refine ⟨?_, .str _, H4, I5.tok _, ⟨_, rfl⟩, q⟩
    show (List.filterMap _ _).toArray.size ≤ _
    rw [List.size_toArray]
    exact Nat.le_trans (List.length_filterMap_le _ _) hp
theorem snd_sls {p2 : Pos} (hK : X.K = ct.K) (ha : Snd ct X W x da) (hb : Snd ct X W y db) (hc : Snd ct X W z dc) : Snd ct X W (.Subscript x (.Slice (some y) none (some z) p2) pos) (dSls da db dc) :=
  Snd.ofV hK (PE.imp (pe_sls ha.b (po_some hb.v) (po_some hc.b)) fun σ H Q h => sls_rd (Kt := fun v i u H => ∃ j, u = .int j ∧ rSls v (some i) (some j) H Q) h fun v i u F H M s dx dz rl hv hu p => by
    obtain ⟨r, e, p'⟩ := Pst.lift p
    clear p
    unfold slstP at e
    split at e
    · rename_i zz k
      split at e
      · rename_i hh
        cases e
        exact ⟨_, hu.int, zz, i, k, hv.str, rfl, rfl, hh.2.1, by rw [lim_eq]; exact hh.1, by rw [lim_eq]; exact hh.2.2, Pst.fin rl p' (.str _)⟩
      · cases e
    · cases e) fun _ => rfl
/-! ### min(x, default=d), max(x, default=d) -/
def rMd (ct : Ct) (W : WX) (mx : Bool) : List V → List V → Hp → VK → Prop := fun vs zs H Q => ∃ σ F M s v u d e, vs = [v] ∧ zs = [u] ∧ Rl ct.K F H M σ s ∧ DnO ct.K F H M v d ∧ DnO ct.K F H M u e ∧ Pst ct W (DrV ct.K) σ F H M s Q (liftO (mdP mx d e) s)
theorem call_md {mx : Bool} (hK : X.K = ct.K) (hc : X.calm = true) (hu : X.A.units + 64 < cLine) : CallRK X (.builtin (if mx then "max" else "min")) ["default"] (rMd ct W mx) := by
  intro pins sh σ H xs zs us ws Q I r1 r2 h
  obtain ⟨σ', F, M, s, v, u, d, e, rfl, rfl, rl, hv, hd, p⟩ := h
  obtain ⟨r, er, p⟩ := Pst.lift p
  cases d with
  | lst ds =>
    cases e with
    | int i =>
      obtain ⟨l, vs, rfl, h1, d1⟩ := hv.lst rl.same
      have eu := hd.int
      subst eu
      obtain ⟨lu, rfl, ru⟩ := r1.one
      cases (show lu = Value.ref l from ru)
      obtain ⟨iu, rfl, ri⟩ := r2.one
      have hsq : SqL X.K H l vs := SqL.of h1
      obtain ⟨its, rv, pl, hz⟩ := I.list hsq
      cases ds with
      | nil =>
        cases er
        cases d1
        cases rv
        have h0 : ∀ h' tk, (∀ b o, sh.heap.get? b = some o → h'.get? b = some o) → EP X pins σ Q iu { sh with heap := h', toks := tk } := fun h' tk hk => ⟨.int i, H, I.kept (t' := tk) hk, ri, Pst.fin rl p (.int i)⟩
        cases mx with
        | false => exact PySem.W.min_list_default (xs := []) (as := []) (I.ok.hd hc) pl.isList .nil (by unfold PySem.W.AlikeAll; simp) (by show X.A.units + 1 + 0 < cLine; omega) (fun _ => h0) fun _ _ _ _ _ _ _ z => nomatch z
        | true => exact PySem.W.max_list_default (xs := []) (as := []) (I.ok.hd hc) pl.isList .nil (by unfold PySem.W.AlikeAll; simp) (by show X.A.units + 1 + 0 < cLine; omega) (fun _ => h0) fun _ _ _ _ _ _ _ z => nomatch z
      | cons a ds =>
        obtain ⟨r, rfl, hok, er⟩ : ∃ q : PV, r = .val q ∧ okD (a :: ds) = true ∧ q = if mx then ds.foldl (fun a y => if ltP a y then y else a) a else ds.foldl (fun a y => if ltP y a then y else a) a := by
          have er : (if mx then maxDP (a :: ds) else minDP (a :: ds)).map SV.val = some r := er
          obtain ⟨q, e1, rfl⟩ := Option.map_eq_some_iff.mp er
          refine ⟨q, rfl, ?_⟩
          cases mx with
          | true =>
            have e1 : (if okD (a :: ds) then some (ds.foldl (fun a y => if ltP a y then y else a) a) else none) = some q := e1
            by_cases hh : okD (a :: ds) = true
            · rw [if_pos hh] at e1
              cases e1
              exact ⟨hh, rfl⟩
            · rw [if_neg hh] at e1
              cases e1
          | false =>
            have e1 : (if okD (a :: ds) then some (ds.foldl (fun a y => if ltP y a then y else a) a) else none) = some q := e1
            by_cases hh : okD (a :: ds) = true
            · rw [if_pos hh] at e1
              cases e1
              exact ⟨hh, rfl⟩
            · rw [if_neg hh] at e1
              cases e1
        obtain ⟨g1, g2⟩ := okD_of hok
        have hlay := toDatas_lay 60 (a :: ds) (shalAll_of g1)
        have hdp : DpAll X.K H vs (toDatas (a :: ds)) := by rw [hK]; exact Dns.data rl.same 60 d1 (shalAll_of g1)
        obtain ⟨as, hra⟩ := Dp.readsAll I _ vs its hdp rv
        have hra' : ReadsAll sh.heap its.toArray.toList (toData a :: toDatas ds) as := by rw [List.toList_toArray]; exact hra
        have hr0 : r ∈ a :: ds := by
          rw [er]
          cases mx with
          | true => exact fold_mem (f := fun y a => ltP a y) a ds
          | false => exact fold_mem (f := fun y a => ltP y a) a ds
        have fin : ∀ (i : Nat) (v : Value) (h' : Heap) (tk : Tok) (bs : List Addr), its.toArray[i]? = some v → Reads h' v (toData r) bs → (∀ b o, sh.heap.get? b = some o → h'.get? b = some o) → EP X pins σ Q v { sh with heap := h', toks := tk } := fun i v h' tk bs hi hrd hk => by
          have hi : its[i]? = some v := by simpa using hi
          have hil : i < its.length := (List.getElem?_eq_some_iff.mp hi).1
          have hwl : i < vs.length := by rw [rv.length]; exact hil
          have hdl : i < (a :: ds).length := by rw [← d1.length]; exact hwl
          obtain ⟨w, e1, e2⟩ := d1.get (i := i) (d := (a :: ds)[i]) (by simp [hdl])
          obtain ⟨u', e3, e4⟩ := rv.get e1
          rw [hi] at e3
          cases e3
          have hmem : (a :: ds)[i] ∈ a :: ds := List.getElem_mem hdl
          have hdw : Dp X.K H w (toData (a :: ds)[i]) := by rw [hK]; exact e2.data rl.same 60 (g1 _ hmem)
          obtain ⟨as2, r2⟩ := Dp.reads I _ w v hdw e4
          have r3 := PySem.W.reads_keeps hk r2
          have ea : PySem.W.alike (toData (a :: ds)[i]) (toData r) = true := g2.1 _ (by rw [toDatas_eq]; exact List.mem_map_of_mem hmem) _ (by rw [toDatas_eq]; exact List.mem_map_of_mem hr0)
          have eq := PySem.W.alike_unique _ _ v _ _ ea r3 hrd
          have eq2 := toData_inj 60 60 _ _ (g1 _ hmem) (g1 _ hr0) eq
          refine ⟨w, H, I.kept (t' := tk) hk, e4, ?_⟩
          rw [eq2] at e2
          exact Pst.fin rl p e2
        have hun : X.A.units + 1 + PyData.depthAll (toData a :: toDatas ds) < cLine := by
          have : PyData.depthAll (toDatas (a :: ds)) ≤ 61 := hlay.2
          have h3 : PyData.depthAll (toData a :: toDatas ds) ≤ 61 := this
          omega
        cases mx with
        | false =>
          have er : r = ds.foldl (fun a y => if ltP y a then y else a) a := er
          refine PySem.W.min_list_default (I.ok.hd hc) pl.isList hra' g2 hun (fun z => nomatch z) fun y ys i v h' tk bs ey hi hrd hk => fin i v h' tk bs hi ?_ hk
          cases ey
          rw [er, min_fold]; exact hrd
        | true =>
          have er : r = ds.foldl (fun a y => if ltP a y then y else a) a := er
          refine PySem.W.max_list_default (I.ok.hd hc) pl.isList hra' g2 hun (fun z => nomatch z) fun y ys i v h' tk bs ey hi hrd hk => fin i v h' tk bs hi ?_ hk
          cases ey
          rw [er, max_fold]; exact hrd
    | _ => cases ds <;> cases er
  | _ => cases er
theorem snd_mnd {mx : Bool} {pn : Pos} {kw : Keyword} (hK : X.K = ct.K) (hc : X.calm = true) (hu : X.A.units + 64 < cLine) (hg : Gl X (if mx then "max" else "min")) (hm : X.mg (if mx then "max" else "min") = none) (ha : Snd ct X W x da) (hb : Snd ct X W kw.value db) (hs : noStar x = true) (hk : kw.arg = some "default") :
    Snd ct X W (.Call (.Name (if mx then "max" else "min") pn) [x] [kw] pos) (dMd mx da db) := by
  obtain ⟨nm, val, kp⟩ := kw
  dsimp only at hk hb
  subst hk
  have key : PE X (.Call (.Name (if mx then "max" else "min") pn) [x] [⟨some "default", val, kp⟩] pos) (tCKw (rMd ct W mx) (tCons (tBo ct W (da.b true)) tNil) (tCons (tBo ct W (db.b true)) tNil)) := by
    cases mx with
    | true => exact pe_callBK (call_md (mx := true) hK hc hu) hg hm (pm_boot .maxL) (pa_cons ha.b pa_nil (starEach_cons _ X.env hs)) (pk_cons hb.b pk_nil) (pm_ok .maxL).1 (pm_ok .maxL).2 (by rw [starEach_cons _ X.env hs]; rfl) (starEach_any (es := [x]) (by simp [hs]))
    | false => exact pe_callBK (call_md (mx := false) hK hc hu) hg hm (pm_boot .minL) (pa_cons ha.b pa_nil (starEach_cons _ X.env hs)) (pk_cons hb.b pk_nil) (pm_ok .minL).1 (pm_ok .minL).2 (by rw [starEach_cons _ X.env hs]; rfl) (starEach_any (es := [x]) (by simp [hs]))
  exact Snd.ofV hK (PE.imp key fun σ H Q h => opnd2_rd (fun H => hdV ct.K H) h fun v w F H M s dx dy rl hv hw p => ⟨σ, F, M, s, v, w, dx, dy, rfl, rfl, rl, hv, hw, p⟩) fun _ => rfl
end
end PI

set_option Elab.async false
set_option linter.all false
set_option autoImplicit false
set_option maxRecDepth 100000
set_option maxHeartbeats 4000000
namespace PI
open PySem L2
abbrev O0 : Addr → Prop := fun _ => False
/-! ### calls of the text's own defs -/
def spF (ct : Ct) (cl : Str → List PV → Sto → C) (f : Str) (ar : Nat) : Sp := fun vs H Q E => ∃ F M st ds, Same F H ∧ Stos ct.K F H M st ∧ Dns ct.K F M vs ds ∧ ds.length = ar ∧
  (match cl f ds st with
  | .ok x st' => ∀ v F' H' M', Ext O0 F H M F' H' M' O0 → Same F' H' → Stos ct.K F' H' M' st' → DnR ct.K F' H' M' H v x → Q v H'
  | .exc c fs st' => ∀ cls d F' H' M', Ext O0 F H M F' H' M' O0 → Same F' H' → Stos ct.K F' H' M' st' → ct.xr c fs F' H' M' cls d → E cls d H'
  | .stuck => False)
structure FOk (ct : Ct) (X : Cx) (n : Nat) (cl : Str → List PV → Sto → C) (f : Str) (ar : Nat) (a : Addr) (fd : FuncData) (ps : List Str) : Prop where
  mg : X.mg f = some (.ref a)
  kp : PySem.W.keepIn X.K (.ref a) = true
  bn : Binds X.K fd ps []
  ok : FnOk X.prog X.w X.K X.mg X.base (CX X.prog X.w) n a fd ps (spF ct cl f ar)
  db : (f == ("__debug__" : Str)) = false
section
variable {ct : Ct} {X : Cx} {W : WX} {x y z : Expr} {pos : Pos} {da db dc : Den}
theorem Rl.after {σ : L2.St} {F H F' H' : Hp} {M M' : List Addr} {s : Ps} {st : Sto} (rl : Rl ct.K F H M σ s) (e : Ext O0 F H M F' H' M' O0) (sm : Same F' H') (so : Stos ct.K F' H' M' st) :
    ExtE (Own σ s.loc) F H M F' H' M' (Own σ s.loc) ∧ Rl ct.K F' H' M' σ { s with sto := st } := by
  refine ⟨⟨⟨e.fs, fun p o h1 h2 h3 => e.keep p o h1 h2 id, e.dom, fun p o h => (e.newF p o h).imp_right fun q => q.imp_right False.elim, e.pre, e.newM, fun _ h => .inl h⟩, fun _ h => h⟩, ⟨sm, rl.len, fun i o h => ?_, rl.inj, so⟩⟩
  have q := rl.slot i o h
  cases o with
  | none => trivial
  | some sv =>
    cases sv with
    | val d =>
      obtain ⟨w, w1, w2⟩ := q
      exact ⟨w, w1, w2.mono e.fs e.pre⟩
    | own xs =>
      obtain ⟨p, vs, w1, w2, w3, w4, w5⟩ := q
      refine ⟨p, vs, w1, ?_, e.keep p _ w3 w5 id, w4.mono e.fs e.pre, fun z => ?_⟩
      · cases z : F' p with
        | none => rfl
        | some o =>
          rcases e.newF p o z with h | h | h
          · rw [w2] at h; cases h
          · rw [w3] at h; cases h
          · exact h.elim
      · rcases e.newM p z with h | h
        · exact w5 h
        · rw [w3] at h; cases h
theorem call_rd {σ : L2.St} {F H : Hp} {M : List Addr} {s : Ps} {Q : VK} {cl : Str → List PV → Sto → C} {f : Str} {ar : Nat} {vs : List V} {ds : List PV} (rl : Rl ct.K F H M σ s) (d : Dns ct.K F M vs ds) (ha : ds.length = ar)
    (p : Pst ct W (DrV ct.K) σ F H M s Q (match cl f ds s.sto with
      | .ok v st => .ok v { s with sto := st }
      | .exc c fs st => .exc c fs { s with sto := st }
      | .stuck => .stuck)) : spF ct cl f ar vs H Q (WE W σ) := by
  refine ⟨F, M, s.sto, ds, rl.same, rl.sto, d, ha, ?_⟩
  cases e : cl f ds s.sto with
  | stuck => rw [e] at p; exact p
  | ok x st =>
    rw [e] at p
    intro v F' H' M' ex sm so dr
    obtain ⟨a, b⟩ := rl.after ex sm so
    exact p v F' H' M' a b dr
  | exc c fs st =>
    rw [e] at p
    intro cls dd F' H' M' ex sm so dr
    obtain ⟨a, b⟩ := rl.after ex sm so
    exact p cls dd F' H' M' a b dr
theorem snd_call {n : Nat} {G : En} {f : Str} {ar : Nat} {a : Addr} {fd : FuncData} {ps : List Str} {pn : Pos} {es : List Expr} {ds : List Den} (hK : X.K = ct.K) (tk : Takes X W) (hr : Room n X.A) (hF : FOk ct X n G.cl f ar a fd ps) (hg : Gl X f)
    (ha : PA X (x :: es) (tBsR ct W (Den.bs false ds))) (hs : (x :: es).all noStar = true) (hl : ds.length = ar) : Snd ct X W (.Call (.Name f pn) (x :: es) [] pos) (dCall G f ds) := by
  have hs' : noStar x = true ∧ es.all noStar = true := by rw [List.all_cons, Bool.and_eq_true] at hs; exact hs
  have key := pe_callS (E := WE W) (pos := pos) (p := pn) hF.ok hr hg hF.mg hF.kp hF.bn (fun σ => passAt tk σ) ha hF.db (starEach_cons es X.env hs'.1) (starEach_any hs'.2)
  exact Snd.ofV hK (PE.imp key fun σ H Q h => opndsF_rd (fun H => hdV ct.K H) h fun vs F H M s es rl d le p => call_rd rl d (by rw [le, hl]) p) fun _ => rfl
theorem pe_callS0 {CX : CXT} {k : Nat} {f : Addr} {fd : FuncData} {ps : List Str} {sp : Sp} {E : L2.St → XK} {nm : Str} {pn : Pos} (F : FnOk X.prog X.w X.K X.mg X.base CX k f fd ps sp) (hr : Room k X.A) (hg : Gl X nm) (hm : X.mg nm = some (.ref f)) (hk : PySem.W.keepIn X.K (.ref f) = true) (hb : Binds X.K fd ps []) (hx : ∀ σ, PassesAt CX X σ (E σ))
    (hdb : (nm == ("__debug__" : Str)) = false) : PE X (.Call (.Name nm pn) [] [] pos) (fun σ H Q => sp [] H Q (E σ)) := by
  refine ⟨fun pins s σ H Q I h => ?_⟩
  refine PySem.wpAny_Call_Name_kw (ld_glob I hg hm ?_ hdb)
  exact PySem.W.callWith_K0 I.kIn hk (run_fnS (us := []) F hr hb (hx σ) I .nil h)
theorem snd_call0 {n : Nat} {G : En} {f : Str} {a : Addr} {fd : FuncData} {ps : List Str} {pn : Pos} (hK : X.K = ct.K) (tk : Takes X W) (hr : Room n X.A) (hF : FOk ct X n G.cl f 0 a fd ps) (hg : Gl X f) : Snd ct X W (.Call (.Name f pn) [] [] pos) (dCall G f []) := by
  have key := pe_callS0 (E := WE W) (pos := pos) (pn := pn) hF.ok hr hg hF.mg hF.kp hF.bn (fun σ => passAt tk σ) hF.db
  exact Snd.ofV hK (PE.imp key fun σ H Q ⟨F, M, s, rl, p⟩ => call_rd rl .nil rfl p) fun _ => rfl

/-! ### module constants -/
theorem snd_glob {G : En} {f : Str} {pn : Pos} {v : V} {u : Value} {d : PV} (hK : X.K = ct.K) (hg : Gl X f) (hm : X.mg f = some u) (r : RelV v u) (hd : (f == ("__debug__" : Str)) = false) (he : G.gl f = some d) (hdn : ∀ F M, Dn ct.K F M v d) : Snd ct X W (.Name f pn) (dGlob G f) :=
  Snd.ofV hK (PE.imp (pe_glob hg hm r hd) fun σ H Q ⟨F, M, s, rl, p⟩ => by
    have p : Pst ct W (DrV ct.K) σ F H M s Q (liftO ((G.gl f).map .val) s) := p
    rw [he] at p
    exact Pst.fin rl p (hdn F M)) fun _ => rfl

/-! ### what is walked -/
/-- the walk J gives its, one after another -/
def WkOk (K : PySem.W.Frag) (F : Hp) (M : List Addr) (J : It) (its : List PV) : Prop :=
  ∃ G Y, Walk J its.length G Y ∧ (∀ H, Same F H → G H) ∧ ∀ i H1 v H2, Y i H1 v H2 → Same F H1 → i < its.length → ∃ d, its[i]? = some d ∧
    ((H2 = H1 ∧ Dn K F M v d) ∨ ∃ p o, v = .ref p ∧ H1 p = none ∧ H2 = upd H1 p o ∧ ∀ F' M', Same F F' → M <+: M' → F' p = none → Dn K (upd F' p o) M' v d)
abbrev DrI (K : PySem.W.Frag) : Hp → Hp → List Addr → Hp → It → List PV → Prop := fun F _ M _ J its => WkOk K F M J its
def tIt (ct : Ct) (W : WX) (f : Ps → R (List PV)) : TI := fun σ H R => ∃ F M s, Rl ct.K F H M σ s ∧ Pst ct W (DrI ct.K) σ F H M s R (f s)
theorem PI.imp {tg e : Expr} {t t' : TI} (h : L2.PI X tg e t) (i : ∀ σ H Q, t' σ H Q → t σ H Q) : L2.PI X tg e t' := ⟨fun pins s σ H Q I q => h.run pins s σ H Q I (i σ H Q q)⟩
theorem pi_seq {tg l : Expr} {tl : TE} (hl : PE X l tl) : L2.PI X tg l (fun σ H R => tl σ H fun v H1 => (∃ a, v = .ref a ∧ (∃ xs, SqL X.K H1 a xs) ∧ R (Itl X.K a) H1) ∨ (∃ a, v = .ref a ∧ (∃ xs, SqT X.K H1 a xs) ∧ R (Itt X.K a) H1) ∨ (∃ z, v = .str z ∧ R (Its z) H1)) := by
  refine ⟨fun pins s σ H R I h => ?_⟩
  refine thn (hl.run pins s σ H _ I h) fun v s1 ⟨x, H1, I1, r1, q1⟩ => ?_
  rcases q1 with ⟨a, e, ⟨xs, hq⟩, q⟩ | ⟨a, e, ⟨xs, hq⟩, q⟩ | ⟨z, e, q⟩
  · subst e
    cases r1
    obtain ⟨its, rv, p, hz⟩ := I1.list hq
    refine wpAny_pyIter_list p.isList ?_
    refine ⟨s1.heap.objs.size, [s1.heap.objs.size], _, _, H1, rfl, I1.kept (t' := s1.toks) fun b o e => Heap.get?_push_of_some _ e, turn_list a _, ⟨_, Heap.get?_push_size _ rfl, rfl, rfl⟩, fun b hb => ?_, q⟩
    have e : b = s1.heap.objs.size := by simpa using hb
    subst e
    exact I1.fpOk (Nat.le_refl _) (I1.hok.fresh (Nat.le_refl _))
  · subst e
    cases r1
    obtain ⟨its, rv, p, hz⟩ := I1.tuple hq
    refine PySem.wpAny_pyIter_tuple (show s1.heap.IsTuple a its.toArray from p) ?_
    refine ⟨s1.heap.objs.size, [s1.heap.objs.size], _, _, H1, rfl, I1.kept (t' := s1.toks) fun b o e => Heap.get?_push_of_some _ e, turn_tuple a _, ⟨_, Heap.get?_push_size _ rfl, rfl, rfl⟩, fun b hb => ?_, q⟩
    have e : b = s1.heap.objs.size := by simpa using hb
    subst e
    exact I1.fpOk (Nat.le_refl _) (I1.hok.fresh (Nat.le_refl _))
  · subst e
    obtain ⟨t, rfl⟩ := r1
    cases ha : z.cps.all (· < 128)
    · exact wpAny_pyIter_wide ha (pi_one (tk := s1.toks) I1 _ (turn_str _ z t "str_iterator" (.inr rfl)) ⟨_, Heap.get?_push_size _ rfl, rfl, rfl⟩ q)
    · exact wpAny_pyIter_ascii ha (pi_one (tk := s1.toks) I1 _ (turn_str _ z t "str_ascii_iterator" (.inl rfl)) ⟨_, Heap.get?_push_size _ rfl, rfl, rfl⟩ q)
theorem wk_str {F : Hp} {M : List Addr} {z : Str} {K : PySem.W.Frag} : WkOk K F M (Its z) (z.cps.toList.map fun c => .str ⟨#[c]⟩) := by
  have w := walk_str (z := z)
  refine ⟨_, _, by simpa using w, fun _ _ => trivial, fun i H1 v H2 y sm hi => ?_⟩
  obtain ⟨e1, c, e2, e3⟩ := y
  refine ⟨.str ⟨#[c]⟩, ?_, .inl ⟨e1, by rw [e3]; exact .str _⟩⟩
  rw [List.getElem?_map, Array.getElem?_toList, e2]
  rfl
theorem enmL_len : ∀ (i : Nat) (xs : List PV), (enmL i xs).length = xs.length
  | _, [] => rfl
  | i, _ :: xs => by rw [enmL, List.length_cons, enmL_len, List.length_cons]
theorem enmL_get : ∀ (k : Nat) (xs : List PV) (i : Nat) (d : PV), xs[i]? = some d → (enmL k xs)[i]? = some (.tup [.int ((k + i : Nat) : Int), d])
  | _, [], i, d, h => by simp at h
  | k, x :: xs, 0, d, h => by simp at h; subst h; rfl
  | k, x :: xs, i + 1, d, h => by
    rw [enmL, List.getElem?_cons_succ, enmL_get (k + 1) xs i d (by simpa using h), show k + 1 + i = k + (i + 1) by omega]
theorem pair_dn {K : PySem.W.Frag} {F F' : Hp} {M M' : List Addr} {p : Addr} {v w : V} {a b : PV} (h1 : Dn K F M v a) (h2 : Dn K F M w b) (sm : Same F F') (m : M <+: M') (hf : F' p = none) : Dn K (upd F' p (.tup [v, w])) M' (.ref p) (.tup [a, b]) := by
  have sm2 : Same F (upd F' p (.tup [v, w])) := fun q o e => same_new hf q o (sm q o e)
  exact .tup (SqT.of upd_same) (.cons (h1.mono sm2 m) (.cons (h2.mono sm2 m) .nil))
theorem wk_enumJ {F : Hp} {M : List Addr} {J : It} {G : Hp → Prop} {vs : List V} {ds : List PV} {K : PySem.W.Frag} (w : Walk J vs.length G (YPair (fun i => some (.int (i : Nat))) (fun i => vs[i]?))) (hG : ∀ H, Same F H → G H) (d : Dns K F M vs ds) : WkOk K F M J (enmL 0 ds) := by
  rw [d.length, ← enmL_len 0 ds] at w
  refine ⟨_, _, w, hG, fun i H1 v H2 y sm hi => ?_⟩
  rw [enmL_len] at hi
  obtain ⟨T, x, x2, e1, e2, e3, e4, e5⟩ := y
  obtain ⟨v', h1, h2⟩ := d.get (i := i) (d := ds[i]) (by simp [hi])
  have e5 : vs[i]? = some x2 := e5
  rw [e5] at h1
  cases h1
  cases e4
  refine ⟨_, enmL_get 0 ds i ds[i] (by simp [hi]), .inr ⟨T, _, e1, e2, e3, fun F' M' s1 s2 s3 => ?_⟩⟩
  subst e1
  rw [Nat.zero_add]
  exact pair_dn (.int _) h2 s1 s2 s3
theorem zipL_len : ∀ (xs ys : List PV), (zipL xs ys).length = min xs.length ys.length
  | [], ys => by simp [zipL]
  | _ :: _, [] => by simp [zipL]
  | x :: xs, y :: ys => by rw [zipL, List.length_cons, zipL_len, List.length_cons, List.length_cons]; omega
theorem zipL_get : ∀ (xs ys : List PV) (i : Nat) (a b : PV), xs[i]? = some a → ys[i]? = some b → (zipL xs ys)[i]? = some (.tup [a, b])
  | [], _, i, a, b, h, _ => by simp at h
  | _ :: _, [], i, a, b, _, h => by simp at h
  | x :: xs, y :: ys, 0, a, b, h, h' => by simp at h h'; subst h h'; rfl
  | x :: xs, y :: ys, i + 1, a, b, h, h' => by
    rw [zipL, List.getElem?_cons_succ, zipL_get xs ys i a b (by simpa using h) (by simpa using h')]
theorem wk_pair {F : Hp} {M : List Addr} {J : It} {G : Hp → Prop} {vs ws : List V} {ds es : List PV} {K : PySem.W.Frag} (w : Walk J (min vs.length ws.length) G (YPair (fun i => vs[i]?) (fun i => ws[i]?))) (hG : ∀ H, Same F H → G H) (d : Dns K F M vs ds) (e : Dns K F M ws es) : WkOk K F M J (zipL ds es) := by
  rw [d.length, e.length, ← zipL_len] at w
  refine ⟨_, _, w, hG, fun i H1 v H2 y sm hi => ?_⟩
  rw [zipL_len] at hi
  obtain ⟨T, x, x2, e1, e2, e3, e4, e5⟩ := y
  obtain ⟨v', h1, h2⟩ := d.get (i := i) (d := ds[i]'(by omega)) (by simp)
  obtain ⟨v2, h3, h4⟩ := e.get (i := i) (d := es[i]'(by omega)) (by simp)
  have e4 : vs[i]? = some x := e4
  have e5 : ws[i]? = some x2 := e5
  rw [e4] at h1
  cases h1
  rw [e5] at h3
  cases h3
  refine ⟨_, zipL_get ds es i (ds[i]'(by omega)) (es[i]'(by omega)) (by simp) (by simp), .inr ⟨T, _, e1, e2, e3, fun F' M' s1 s2 s3 => ?_⟩⟩
  subst e1
  exact pair_dn h2 h4 s1 s2 s3
theorem walk_zipT {K : PySem.W.Frag} {a b : Addr} {xs ys : List V} : Walk (RZ.ItzT K a b) (min xs.length ys.length) (fun H => SqT K H a xs ∧ SqT K H b ys) (YPair (fun i => xs[i]?) (fun i => ys[i]?)) := by
  refine ⟨fun i _ hi q => ?_, fun _ q => ⟨xs, ys, q.1, q.2, by omega⟩, fun i H v H' _ q y => ?_⟩
  · have h1 : i < xs.length := by omega
    have h2 : i < ys.length := by omega
    exact ⟨xs, ys, xs[i], ys[i], q.1, q.2, by simp [h1], by simp [h2]⟩
  · obtain ⟨T, x, z, h1, h2, h3, h4, h5⟩ := y
    exact ⟨T, x, z, h1, h2, h3, h4 xs q.1, h5 ys q.2⟩
theorem wk_list {F : Hp} {M : List Addr} {a : Addr} {vs : List V} {ds : List PV} {K : PySem.W.Frag} (h : F a = some (.lst vs)) (d : Dns K F M vs ds) : WkOk K F M (Itl K a) ds := by
  have w := walk_list (K := K) (a := a) (xs := vs)
  rw [d.length] at w
  refine ⟨_, _, w, fun H sm => SqL.of (sm _ _ h), fun i H1 v H2 y sm hi => ?_⟩
  obtain ⟨e1, e2⟩ := y
  obtain ⟨v', h1, h2⟩ := d.get (i := i) (d := ds[i]) (by simp [hi])
  rw [e2] at h1
  cases h1
  exact ⟨ds[i], by simp [hi], .inl ⟨e1, h2⟩⟩
theorem wk_tup {F : Hp} {M : List Addr} {a : Addr} {vs : List V} {ds : List PV} {K : PySem.W.Frag} (h : SqT K F a vs) (d : Dns K F M vs ds) : WkOk K F M (Itt K a) ds := by
  have w := walk_tup (K := K) (a := a) (xs := vs)
  rw [d.length] at w
  refine ⟨_, _, w, fun H sm => sqT_mono sm h, fun i H1 v H2 y sm hi => ?_⟩
  obtain ⟨e1, e2⟩ := y
  obtain ⟨v', h1, h2⟩ := d.get (i := i) (d := ds[i]) (by simp [hi])
  rw [e2] at h1
  cases h1
  exact ⟨ds[i], by simp [hi], .inl ⟨e1, h2⟩⟩
theorem intsFrom_len : ∀ (a : Int) (n : Nat), (intsFrom a n).length = n
  | _, 0 => rfl
  | a, n + 1 => by rw [intsFrom, List.length_cons, intsFrom_len]
theorem intsFrom_get : ∀ (a : Int) (n i : Nat), i < n → (intsFrom a n)[i]? = some (.int (a + i))
  | a, n + 1, 0, _ => by simp [intsFrom]
  | a, n + 1, i + 1, h => by
    rw [intsFrom, List.getElem?_cons_succ, intsFrom_get (a + 1) n i (by omega)]
    congr 2
    omega
theorem wk_range {F : Hp} {M : List Addr} {a : Int} {n : Nat} {K : PySem.W.Frag} : WkOk K F M (Itr a n) (intsFrom a n) := by
  have w := walk_range (lo := a) (n := n)
  refine ⟨_, _, by rw [intsFrom_len]; exact w, fun _ _ => trivial, fun i H1 v H2 y sm hi => ?_⟩
  rw [intsFrom_len] at hi
  obtain ⟨e1, e2⟩ := y
  exact ⟨_, intsFrom_get a n i hi, .inl ⟨e1, by rw [e2]; exact .int _⟩⟩
theorem it_seq {tg : Expr} (hK : X.K = ct.K) (ha : Snd ct X W x da) : L2.PI X tg x (tIt ct W (itR .seq [da])) := by
  refine PI.imp (pi_seq (ha.bb false)) fun σ H R h => ?_
  obtain ⟨F, M, s, rl, p⟩ := h
  refine ⟨F, M, s, rl, ?_⟩
  have p : Pst ct W (DrI ct.K) σ F H M s R ((((da.b false s).bind fun x s1 => PI.R.bind (.ok [] s1) fun xs s2 => .ok (x :: xs) s2)).bind fun xs s1 => match derefs s1 xs with
    | some ds => liftO (itemsP .seq ds) s1
    | none => .stuck) := p
  rw [Den.b_false] at p ⊢
  cases e : da.v s with
  | stuck => rw [e] at p; exact p
  | exc c fs s' => rw [e] at p; exact p
  | ok a s' =>
    rw [e] at p
    intro v F' H' M' ex rl' d
    have p2 := Pst.at (r := liftO (itemsP .seq [a.pv]) s') ex (fun _ _ _ _ _ z => z) p
    obtain ⟨its, ei, p3⟩ := Pst.lift p2
    have d : Dn ct.K F' M' v a.pv := d
    cases q : a.pv with
    | lst xs =>
      rw [q] at d ei
      cases ei
      cases d with
      | lst h1 h2 => exact .inl ⟨_, rfl, ⟨_, SqL.of (rl'.same _ _ h1)⟩, by rw [hK]; exact Pst.fin rl' p3 (wk_list h1 h2)⟩
    | tup xs =>
      rw [q] at d ei
      cases ei
      cases d with
      | tup h1 h2 => exact .inr (.inl ⟨_, rfl, ⟨_, by rw [hK]; exact sqT_mono rl'.same h1⟩, by rw [hK]; exact Pst.fin rl' p3 (wk_tup h1 h2)⟩)
    | str z =>
      rw [q] at d ei
      cases ei
      cases d with
      | str _ => exact .inr (.inr ⟨_, rfl, Pst.fin rl' p3 wk_str⟩)
    | _ => rw [q] at ei; cases ei
theorem dns_sgs {K : PySem.W.Frag} {F : Hp} {M : List Addr} (z : Str) : Dns K F M (sgs z) (z.cps.toList.map fun c => .str ⟨#[c]⟩) := by
  unfold sgs
  induction z.cps.toList with
  | nil => exact .nil
  | cons c r ih => exact .cons (.str _) ih
theorem it_enm {elts : List Expr} {kk : Nat} {tpos p : Pos} (hK : X.K = ct.K) (hg : Gl X "enumerate") (hm : X.mg "enumerate" = none) (ha : Snd ct X W x da) (hs : noStar x = true) : L2.PI X (.Tuple elts kk tpos) (.Call (.Name "enumerate" p) [x] [] pos) (tIt ct W (itR .enm [da])) := by
  refine PI.imp (pi_enumX hg hm (pa_consB (b := false) ha pa_nilB hs) (starEach_cons [] X.env hs)) fun σ H R h => opndsF_rd (fun _ _ _ _ _ _ _ _ z => z) h fun vs F H M s es rl d le p => ?_
  obtain ⟨its, ei, p⟩ := Pst.lift p
  have ei : enmP es = some its := ei
  match es, le, ei, d with
  | [.lst xs], _, ei, d =>
    cases ei
    cases d with
    | cons h1 h2 =>
      cases h2
      cases h1 with
      | lst k1 k2 => exact ⟨_, rfl, .inl ⟨_, _, rfl, .inl ⟨SqL.of (rl.same _ _ k1), by rw [hK]; exact Pst.fin rl p (wk_enumJ walk_enum (fun H sm => SqL.of (sm _ _ k1)) k2)⟩⟩⟩
  | [.tup xs], _, ei, d =>
    cases ei
    cases d with
    | cons h1 h2 =>
      cases h2
      cases h1 with
      | tup k1 k2 => exact ⟨_, rfl, .inl ⟨_, _, rfl, .inr ⟨by rw [hK]; exact sqT_mono rl.same k1, by rw [hK]; exact Pst.fin rl p (wk_enumJ walk_enumT (fun H sm => sqT_mono sm k1) k2)⟩⟩⟩
  | [.str z], _, ei, d =>
    cases ei
    cases d with
    | cons h1 h2 =>
      cases h2
      cases h1 with
      | str _ => exact ⟨_, rfl, .inr ⟨_, rfl, Pst.fin rl p (wk_enumJ walk_enumS (fun H sm => trivial) (dns_sgs z))⟩⟩
theorem seq_rep {K : PySem.W.Frag} {F : Hp} {M : List Addr} {v : V} {a : PV} {xs : List PV} (h : Dn K F M v a) (e : seqP [a] = some xs) : ∃ (k : Zk) (us : List V), Dns K F M us xs ∧ ∀ H, Same F H → Rep K H k v us := by
  cases h with
  | lst k1 k2 => cases e; exact ⟨.L, _, k2, fun H sm => ⟨_, rfl, SqL.of (sm _ _ k1)⟩⟩
  | tup k1 k2 => cases e; exact ⟨.T, _, k2, fun H sm => ⟨_, rfl, sqT_mono sm k1⟩⟩
  | str z => cases e; exact ⟨.S, _, dns_sgs z, fun H sm => ⟨_, rfl, rfl⟩⟩
  | _ => cases e
theorem it_zip {elts : List Expr} {kk : Nat} {tpos p : Pos} (hK : X.K = ct.K) (hg : Gl X "zip") (hm : X.mg "zip" = none) (ha : Snd ct X W x da) (hb : Snd ct X W y db) (hs : noStar x = true) (hs2 : noStar y = true) : L2.PI X (.Tuple elts kk tpos) (.Call (.Name "zip" p) [x, y] [] pos) (tIt ct W (itR .zp [da, db])) := by
  refine PI.imp (pi_zipX hg hm (pa_consB (b := false) ha (pa_consB hb pa_nilB hs2) hs) (starEach_cons _ X.env hs) (starEach_any (by simp [hs2]))) fun σ H R h => opndsF_rd (fun _ _ _ _ _ _ _ _ z => z) h fun vs F H M s es rl d le p => ?_
  obtain ⟨its, ei, p⟩ := Pst.lift p
  have ei : zipP es = some its := ei
  match es, le, ei, d with
  | [a, b], _, ei, d =>
    have ei : (match seqP [a], seqP [b] with
      | some xs, some ys => some (zipL xs ys)
      | _, _ => none) = some its := ei
    cases ea : seqP [a] with
    | none => rw [ea] at ei; cases ei
    | some xs =>
      cases eb : seqP [b] with
      | none => rw [ea, eb] at ei; cases ei
      | some ys =>
        rw [ea, eb] at ei
        cases ei
        cases d with
        | cons h1 h2 =>
          cases h2 with
          | cons h3 h4 =>
            cases h4
            obtain ⟨k1, us, d1, r1⟩ := seq_rep h1 ea
            obtain ⟨k2, ws, d2, r2⟩ := seq_rep h3 eb
            refine ⟨_, _, k1, k2, us, ws, rfl, by rw [hK]; exact r1 H rl.same, by rw [hK]; exact r2 H rl.same, fun p0 q0 o1 o2 => ?_⟩
            rw [hK]
            exact Pst.fin rl p (wk_pair (walk_zipX (p := p0) (q := q0)) (fun H2 sm => ⟨(r1 H2 sm).ok o1, (r2 H2 sm).ok o2⟩) d1 d2)
theorem it_rng1 {tg : Expr} {p : Pos} (hg : Gl X "range") (hm : X.mg "range" = none) (ha : Snd ct X W x da) (hs : noStar x = true) : L2.PI X tg (.Call (.Name "range" p) [x] [] pos) (tIt ct W (itR .rng [da])) := by
  refine PI.imp (pi_range1 hg hm (pa_consB (b := false) ha pa_nilB hs) (starEach_cons [] X.env hs)) fun σ H R h => opndsF_rd (fun _ _ _ _ _ _ _ _ z => z) h fun vs F H M s es rl d le p => ?_
  obtain ⟨its, ei, p⟩ := Pst.lift p
  have ei : rngP es = some its := ei
  match es, le, ei, d with
  | [.int j], _, ei, d =>
    have ei : (if -(2 ^ 62) ≤ j ∧ j < 2 ^ 62 then some (intsFrom 0 j.toNat) else none) = some its := ei
    split at ei
    · rename_i hj
      cases ei
      cases d with
      | cons h1 h2 =>
        cases h2
        cases h1
        exact ⟨j, rfl, hj.1, hj.2, Pst.fin rl p wk_range⟩
    · cases ei
theorem it_rng2 {tg : Expr} {p : Pos} (hg : Gl X "range") (hm : X.mg "range" = none) (ha : Snd ct X W x da) (hb : Snd ct X W y db) (hs : noStar x = true) (hs2 : noStar y = true) : L2.PI X tg (.Call (.Name "range" p) [x, y] [] pos) (tIt ct W (itR .rng [da, db])) := by
  refine PI.imp (pi_range2 hg hm (pa_consB (b := false) ha (pa_consB hb pa_nilB hs2) hs) (by rw [starEach_cons _ X.env hs, starEach_cons _ X.env hs2]; rfl) (starEach_cons _ X.env hs2)) fun σ H R h => opndsF_rd (fun _ _ _ _ _ _ _ _ z => z) h fun vs F H M s es rl d le p => ?_
  obtain ⟨its, ei, p⟩ := Pst.lift p
  have ei : rngP es = some its := ei
  match es, le, ei, d with
  | [.int i, .int j], _, ei, d =>
    have ei : (if -(2 ^ 62) ≤ i ∧ i < 2 ^ 62 ∧ -(2 ^ 62) ≤ j ∧ j < 2 ^ 62 then some (intsFrom i (j - i).toNat) else none) = some its := ei
    split at ei
    · rename_i hj
      cases ei
      cases d with
      | cons h1 h2 =>
        cases h2 with
        | cons h3 h4 =>
          cases h4
          cases h1
          cases h3
          exact ⟨i, j, rfl, hj, Pst.fin rl p wk_range⟩
    · cases ei
theorem stp_get (a c : Int) (n i : Nat) (h : i < n) : ((stpI a c n).map PV.int)[i]? = some (.int (a + (i : Int) * c)) := by
  unfold stpI
  rw [List.getElem?_map, List.getElem?_map, List.getElem?_range h]
  rfl
theorem wk_stp {F : Hp} {M : List Addr} {a c : Int} {n : Nat} {K : PySem.W.Frag} : WkOk K F M (Itc a c n) ((stpI a c n).map PV.int) := by
  have w := walk_rangeC (lo := a) (c := c) (n := n)
  have el : ((stpI a c n).map PV.int).length = n := by simp [stpI]
  refine ⟨_, _, by rw [el]; exact w, fun _ _ => trivial, fun i H1 v H2 y sm hi => ?_⟩
  rw [el] at hi
  obtain ⟨e1, e2⟩ := y
  exact ⟨_, stp_get a c n i hi, .inl ⟨e1, by rw [e2]; exact .int _⟩⟩
theorem it_rng3 {tg : Expr} {p : Pos} (hg : Gl X "range") (hm : X.mg "range" = none) (ha : Snd ct X W x da) (hb : Snd ct X W y db) (hd : Snd ct X W z dc) (hs : noStar x = true) (hs2 : noStar y = true) (hs3 : noStar z = true) : L2.PI X tg (.Call (.Name "range" p) [x, y, z] [] pos) (tIt ct W (itR .rng [da, db, dc])) := by
  refine PI.imp (pi_range3 hg hm (pa_consB (b := false) ha (pa_consB hb (pa_consB hd pa_nilB hs3) hs2) hs) (by rw [starEach_cons _ X.env hs]) (by rw [starEach_cons _ X.env hs2, starEach_cons _ X.env hs3]; rfl)) fun σ H R h => opndsF_rd (fun _ _ _ _ _ _ _ _ z => z) h fun vs F H M s es rl d le p => ?_
  obtain ⟨its, ei, p⟩ := Pst.lift p
  have ei : rngP es = some its := ei
  match es, le, ei, d with
  | [.int i, .int j, .int c], _, ei, d =>
    have ei : stpP i j c = some its := ei
    obtain ⟨g1, g2, rfl⟩ := stpP_rg ei
    cases d with
    | cons h1 h2 =>
      cases h2 with
      | cons h3 h4 =>
        cases h4 with
        | cons h5 h6 =>
          cases h6
          cases h1
          cases h3
          cases h5
          exact ⟨i, j, c, _, rfl, g1, Pst.fin rl p wk_stp⟩

/-! ### targets -/
mutual
def tsl : T → List Nat
  | .var i => [i]
  | .tup ts => tsls ts
def tsls : List T → List Nat
  | [] => []
  | t :: ts => tsl t ++ tsls ts
end
def gT (ct : Ct) (t : T) : TG := fun v σ H Q => ∃ F M s d l, Rl ct.K F H M σ s ∧ Dn ct.K F M v d ∧ asgT t d s.loc = some l ∧ ∀ σ', Rl ct.K F H M σ' { s with loc := l } → (∀ p, Own σ' l p → Own σ s.loc p) → (∀ j, j ∉ tsl t → σ'[j]? = σ[j]?) → Q σ' H
def gTs (ct : Ct) (ts : List T) : TGs := fun vs σ H Q => ∃ F M s ds l, Rl ct.K F H M σ s ∧ Dns ct.K F M vs ds ∧ asgTs ts ds s.loc = some l ∧ ∀ σ', Rl ct.K F H M σ' { s with loc := l } → (∀ p, Own σ' l p → Own σ s.loc p) → (∀ j, j ∉ tsls ts → σ'[j]? = σ[j]?) → Q σ' H
theorem PG.imp {e : Expr} {t t' : TG} (h : PG X e t) (i : ∀ v σ H Q, t' v σ H Q → t v σ H Q) : PG X e t' := ⟨fun pins s σ H v u Q I r q => h.run pins s σ H v u Q I r (i v σ H Q q)⟩
theorem PGs.imp {e : List Expr} {t t' : TGs} (h : PGs X e t) (i : ∀ v σ H Q, t' v σ H Q → t v σ H Q) : PGs X e t' := ⟨fun pins s σ H v u Q I r q => h.run pins s σ H v u Q I r (i v σ H Q q)⟩
theorem Rl.set {σ : L2.St} {F H : Hp} {M : List Addr} {s : Ps} {v : V} {d : PV} (rl : Rl ct.K F H M σ s) (h : Dn ct.K F M v d) (i : Nat) : Rl ct.K F H M (σ.set i (some v)) { s with loc := s.loc.set i (some (.val d)) } ∧ ∀ p, Own (σ.set i (some v)) (s.loc.set i (some (.val d))) p → Own σ s.loc p := by
  have back : ∀ {j : Nat} {xs : List PV}, (s.loc.set i (some (.val d)))[j]? = some (some (.own xs)) → i ≠ j ∧ s.loc[j]? = some (some (.own xs)) := fun {j xs} a => by
    by_cases hj : i = j
    · subst hj
      by_cases hl : i < s.loc.length
      · rw [List.getElem?_set_self hl] at a; cases a
      · rw [List.getElem?_eq_none (by simpa using hl)] at a; cases a
    · rw [List.getElem?_set_ne hj] at a; exact ⟨hj, a⟩
  refine ⟨⟨rl.same, by simpa using rl.len, fun j o e => ?_, fun j k xs ys p a1 a2 a3 a4 => ?_, rl.sto⟩, fun p ⟨j, xs, a1, a2⟩ => ?_⟩
  · have e : (s.loc.set i (some (.val d)))[j]? = some o := e
    by_cases hj : i = j
    · subst hj
      by_cases hl : i < s.loc.length
      · rw [List.getElem?_set_self hl] at e
        cases e
        exact ⟨v, by rw [List.getElem?_set_self (by rw [← rl.len]; exact hl)], h⟩
      · rw [List.getElem?_eq_none (by simpa using hl)] at e; cases e
    · rw [List.getElem?_set_ne hj] at e
      rw [List.getElem?_set_ne hj]
      exact rl.slot j o e
  · obtain ⟨n1, b1⟩ := back a1
    obtain ⟨n2, b2⟩ := back a2
    rw [List.getElem?_set_ne n1] at a3
    rw [List.getElem?_set_ne n2] at a4
    exact rl.inj j k xs ys p b1 b2 a3 a4
  · obtain ⟨n1, b1⟩ := back a1
    rw [List.getElem?_set_ne n1] at a2
    exact ⟨j, xs, b1, a2⟩
theorem tg_var {i : Nat} (h : PG X x (gName i)) : PG X x (gT ct (.var i)) := PG.imp h fun v σ H Q ⟨F, M, s, d, l, rl, dn, e, k⟩ => by
  cases e
  obtain ⟨a, b⟩ := rl.set dn i
  exact k _ a b fun j hj => List.getElem?_set_ne (fun z => hj (by rw [← z]; simp [tsl]))
def noStarT : Expr → Bool := noStar
theorem assignEach_cons {e : Expr} (es : List Expr) (env : Env) (h : noStar e = true) : assignEach (e :: es) env = (false, assign e env) :: assignEach es env := by
  cases e <;> first | rfl | cases h
theorem assignEach_len {env : Env} : ∀ {es : List Expr}, es.all noStar = true → (assignEach es env).length = es.length ∧ (assignEach es env).findIdx? (·.1) = none
  | [], _ => ⟨rfl, rfl⟩
  | e :: es, h => by
    rw [List.all_cons, Bool.and_eq_true] at h
    obtain ⟨h1, h2⟩ := assignEach_len (env := env) h.2
    rw [assignEach_cons es env h.1]
    refine ⟨by rw [List.length_cons, List.length_cons, h1], ?_⟩
    rw [List.findIdx?_cons]
    simp [h2]
theorem tgs_nil : PGs X [] (gTs ct []) := PGs.imp pgs_nil fun vs σ H Q ⟨F, M, s, ds, l, rl, dn, e, k⟩ => by
  cases dn with
  | nil =>
    cases e
    exact ⟨rfl, k σ rl (fun _ h => h) fun _ _ => rfl⟩
  | cons _ _ => cases e
theorem tgs_cons {es : List Expr} {t : T} {ts : List T} (h1 : PG X x (gT ct t)) (h2 : PGs X es (gTs ct ts)) (hs : noStar x = true) : PGs X (x :: es) (gTs ct (t :: ts)) :=
  PGs.imp (pgs_cons h1 h2 (by rw [assignEach_cons es X.env hs]; rfl)) fun vs σ H Q ⟨F, M, s, ds, l, rl, dn, e, k⟩ => by
    cases dn with
    | nil => cases e
    | @cons v vs d ds d1 d2 =>
      have e : (match asgT t d s.loc with
        | some l' => asgTs ts ds l'
        | none => none) = some l := e
      cases q : asgT t d s.loc with
      | none => rw [q] at e; cases e
      | some l1 =>
        rw [q] at e
        refine ⟨v, vs, rfl, F, M, s, d, l1, rl, d1, q, fun σ' rl' o' g' => ?_⟩
        exact ⟨F, M, { s with loc := l1 }, ds, l, rl', d2, e, fun σ2 rl2 o2 g2 => k σ2 rl2 (fun p z => o' p (o2 p z)) fun j hj => (g2 j fun z => hj (by simp [tsls, z])).trans (g' j fun z => hj (by simp [tsls, z]))⟩
theorem asgTs_len : ∀ {ts : List T} {ds : List PV} {l l' : Loc}, asgTs ts ds l = some l' → ds.length = ts.length
  | [], [], _, _, _ => rfl
  | t :: ts, d :: ds, l, l', e => by
    have e : (match asgT t d l with
      | some l' => asgTs ts ds l'
      | none => none) = some l' := e
    cases q : asgT t d l with
    | none => rw [q] at e; cases e
    | some l1 =>
      rw [q] at e
      rw [List.length_cons, List.length_cons, asgTs_len e]
  | [], _ :: _, _, _, e => by cases e
  | _ :: _, [], _, _, e => by cases e
mutual
theorem asgT_len : ∀ {t : T} {d : PV} {l l' : Loc}, asgT t d l = some l' → l'.length = l.length
  | .var i, d, l, l', e => by
    cases e; rw [List.length_set]
  | .tup ts, .tup ds, l, l', e => asgTs_llen (ts := ts) (ds := ds) e
  | .tup _, .non, _, _, e => by cases e
  | .tup _, .bl _, _, _, e => by cases e
  | .tup _, .int _, _, _, e => by cases e
  | .tup _, .str _, _, _, e => by cases e
  | .tup _, .lst _, _, _, e => by cases e
  | .tup _, .scr _, _, _, e => by cases e
  | .tup _, .ref _, _, _, e => by cases e
  | .tup _, .rcd _ _, _, _, e => by cases e
theorem asgTs_llen : ∀ {ts : List T} {ds : List PV} {l l' : Loc}, asgTs ts ds l = some l' → l'.length = l.length
  | [], [], _, _, e => by cases e; rfl
  | t :: ts, d :: ds, l, l', e => by
    have e : (match asgT t d l with
      | some l' => asgTs ts ds l'
      | none => none) = some l' := e
    cases q : asgT t d l with
    | none => rw [q] at e; cases e
    | some l1 =>
      rw [q] at e
      rw [asgTs_llen e, asgT_len q]
  | [], _ :: _, _, _, e => by cases e
  | _ :: _, [], _, _, e => by cases e
end
theorem tg_tup {es : List Expr} {ts : List T} {k1 : Nat} (hK : X.K = ct.K) (hc : X.calm = true) (h : PGs X es (gTs ct ts)) (hl : es.length = ts.length) (hs : es.all noStar = true) : PG X (.Tuple es k1 pos) (gT ct (.tup ts)) :=
  PG.imp (pg_tup (n := es.length) hc h (assignEach_len hs).1 (assignEach_len hs).2) fun v σ H Q ⟨F, M, s, d, l, rl, dn, e, k⟩ => by
    cases d with
    | tup ds =>
      have e : asgTs ts ds s.loc = some l := e
      cases dn with
      | @tup p vs _ h1 h2 => exact ⟨p, vs, rfl, by rw [hK]; exact sqT_mono rl.same h1, by rw [h2.length, asgTs_len e, hl], F, M, s, ds, l, rl, h2, e, k⟩
    | _ => cases e
end
end PI

set_option Elab.async false
set_option linter.all false
set_option autoImplicit false
set_option maxRecDepth 100000
set_option maxHeartbeats 4000000
namespace PI
open PySem L2
abbrev W0 : WX := fun _ _ _ _ => False
/-! ### the slots of a comprehension's own names -/
theorem wipeL_len (l : Loc) : ∀ vs : List Nat, (wipeL l vs).length = l.length
  | [] => rfl
  | v :: vs => by unfold wipeL; rw [List.length_set, wipeL_len l vs]
theorem wipeL_out {l : Loc} {i : Nat} : ∀ {vs : List Nat}, i ∉ vs → (wipeL l vs)[i]? = l[i]?
  | [], _ => rfl
  | v :: vs, h => by
    unfold wipeL
    rw [List.getElem?_set_ne (fun e => h (by simp [e])), wipeL_out fun z => h (List.mem_cons_of_mem _ z)]
theorem wipeL_in {l : Loc} {i : Nat} {o : Option SV} : ∀ {vs : List Nat}, i ∈ vs → (wipeL l vs)[i]? = some o → o = none
  | [], h, _ => by cases h
  | v :: vs, h, e => by
    unfold wipeL at e
    by_cases hv : v = i
    · subst hv
      by_cases hl : v < (wipeL l vs).length
      · rw [List.getElem?_set_self hl] at e; cases e; rfl
      · rw [List.getElem?_eq_none (by simpa using hl)] at e; cases e
    · rw [List.getElem?_set_ne hv] at e
      rcases List.mem_cons.mp h with z | z
      · exact absurd z.symm hv
      · exact wipeL_in z e
theorem backL_len (l0 l : Loc) : ∀ vs : List Nat, (backL l0 l vs).length = l.length
  | [] => rfl
  | v :: vs => by unfold backL; rw [List.length_set, backL_len l0 l vs]
theorem backL_out {l0 l : Loc} {i : Nat} : ∀ {vs : List Nat}, i ∉ vs → (backL l0 l vs)[i]? = l[i]?
  | [], _ => rfl
  | v :: vs, h => by
    unfold backL
    rw [List.getElem?_set_ne (fun e => h (by simp [e])), backL_out fun z => h (List.mem_cons_of_mem _ z)]
theorem backL_in {l0 l : Loc} {i : Nat} {o : Option SV} : ∀ {vs : List Nat}, i ∈ vs → (backL l0 l vs)[i]? = some o → o = l0[i]?.getD none
  | [], h, _ => by cases h
  | v :: vs, h, e => by
    unfold backL at e
    by_cases hv : v = i
    · subst hv
      by_cases hl : v < (backL l0 l vs).length
      · rw [List.getElem?_set_self hl] at e; cases e; rfl
      · rw [List.getElem?_eq_none (by simpa using hl)] at e; cases e
    · rw [List.getElem?_set_ne hv] at e
      rcases List.mem_cons.mp h with z | z
      · exact absurd z.symm hv
      · exact backL_in z e
theorem wipe_in {σ : L2.St} {i : Nat} : ∀ {vs : List Nat}, i ∈ vs → (wipe σ vs)[i]? = σ[i]?.map fun _ => none
  | [], h => by cases h
  | v :: vs, h => by
    unfold wipe
    by_cases hv : v = i
    · subst hv
      by_cases hl : v < σ.length
      · rw [List.getElem?_set_self (by rw [wipe_length]; exact hl)]
        simp [hl]
      · rw [List.getElem?_eq_none (by rw [List.length_set, wipe_length]; omega), List.getElem?_eq_none (by omega)]
        rfl
    · rw [List.getElem?_set_ne hv]
      rcases List.mem_cons.mp h with z | z
      · exact absurd z.symm hv
      · exact wipe_in z
theorem wipe_congr {σ σ' : L2.St} {vs : List Nat} (h : ∀ j, j ∉ vs → σ'[j]? = σ[j]?) (hl : σ'.length = σ.length) : wipe σ' vs = wipe σ vs := by
  apply List.ext_getElem?
  intro j
  by_cases hj : j ∈ vs
  · rw [wipe_in hj, wipe_in hj]
    by_cases hk : j < σ.length
    · have hk' : j < σ'.length := by rw [hl]; exact hk
      simp [hk, hk']
    · rw [List.getElem?_eq_none (by omega), List.getElem?_eq_none (by omega)]
  · rw [wipe_out hj, wipe_out hj, h j hj]
theorem wipe_wipe (σ : L2.St) (vs : List Nat) : wipe (wipe σ vs) vs = wipe σ vs := by
  apply List.ext_getElem?
  intro j
  by_cases hj : j ∈ vs
  · rw [wipe_in hj, wipe_in hj]
    cases σ[j]? <;> rfl
  · rw [wipe_out hj]
section
variable {ct : Ct} {X : Cx} {W : WX} {x y z : Expr} {pos : Pos} {da db dc : Den}
variable {σ σ' : L2.St} {F F' H H' : Hp} {M M' : List Addr} {s s' : Ps}
theorem own_wipe {vs : List Nat} {l : Loc} {p : Addr} (h : Own (wipe σ vs) (wipeL l vs) p) : ∃ (i : Nat) (xs : List PV), i ∉ vs ∧ l[i]? = some (some (.own xs)) ∧ σ[i]? = some (some (.ref p)) := by
  obtain ⟨i, xs, h1, h2⟩ := h
  by_cases hi : i ∈ vs
  · cases wipeL_in hi h1
  · rw [wipeL_out hi] at h1
    rw [wipe_out hi] at h2
    exact ⟨i, xs, hi, h1, h2⟩
theorem Rl.wipe (rl : Rl ct.K F H M σ s) (vs : List Nat) : Rl ct.K F H M (L2.wipe σ vs) { s with loc := wipeL s.loc vs } := by
  refine ⟨rl.same, by rw [wipeL_len, wipe_length]; exact rl.len, fun i o e => ?_, fun i j xs ys p a1 a2 a3 a4 => ?_, rl.sto⟩
  · by_cases hi : i ∈ vs
    · rw [wipeL_in hi e]; trivial
    · have e : (wipeL s.loc vs)[i]? = some o := e
      rw [wipeL_out hi] at e
      rw [wipe_out hi]
      exact rl.slot i o e
  · have hi : i ∉ vs := fun z => by cases wipeL_in z a1
    have hj : j ∉ vs := fun z => by cases wipeL_in z a2
    have a1 : (wipeL s.loc vs)[i]? = some (some (.own xs)) := a1
    have a2 : (wipeL s.loc vs)[j]? = some (some (.own ys)) := a2
    rw [wipeL_out hi] at a1
    rw [wipeL_out hj] at a2
    rw [wipe_out hi] at a3
    rw [wipe_out hj] at a4
    exact rl.inj i j xs ys p a1 a2 a3 a4
/-- an object that no name and no value knows is changed -/
theorem Rl.mutH (rl : Rl ct.K F H M σ s) {p : Addr} {o : HO} (hf : F p = none) (hm : p ∉ M) (ho : ¬ Own σ s.loc p) : Rl ct.K F (upd H p o) M σ s := by
  refine ⟨same_mut rl.same hf, rl.len, fun i o' e => ?_, rl.inj, ⟨rl.sto.len, rl.sto.nd, fun k so a e1 e2 => ?_⟩⟩
  · have q := rl.slot i o' e
    cases o' with
    | none => trivial
    | some sv =>
      cases sv with
      | val d => exact q
      | own xs =>
        obtain ⟨q, vs, e1, e2, e3, e4, e5⟩ := q
        have ne : q ≠ p := fun z => ho ⟨i, xs, e, by rw [e1, z]⟩
        exact ⟨q, vs, e1, e2, by rw [upd_ne ne]; exact e3, e4, e5⟩
  · have z := rl.sto.ok k so a e1 e2
    have ne : a ≠ p := fun z => hm (by rw [← z]; exact List.mem_of_getElem? e2)
    exact z.mono (Same.refl _) (List.prefix_refl _) z.some.1 (by rw [upd_ne ne])
/-- a state that came of the base, the new list at D apart -/
structure CInv (ct : Ct) (σw : L2.St) (O : Addr → Prop) (F1 H1 : Hp) (M1 : List Addr) (D : Addr) (F H : Hp) (M : List Addr) (s : Ps) (acc : List PV) : Prop where
  rl : Rl ct.K F H M σw s
  fs : Same F1 F
  keep : ∀ p o, H1 p = some o → p ∉ M1 → ¬ O p → H p = some o
  dom : ∀ p o, H1 p = some o → ∃ o', H p = some o'
  newF : ∀ p o, F p = some o → F1 p = some o ∨ H1 p = none ∨ O p
  pre : M1 <+: M
  newM : ∀ a, a ∈ M → a ∈ M1 ∨ H1 a = none
  shr : ∀ p, Own σw s.loc p → O p
  nD : H1 D = none
  fD : F D = none
  mD : D ∉ M
  hD : ∃ ws, H D = some (.lst ws) ∧ Dns ct.K F M ws acc
theorem CInv.nO {σw : L2.St} {O : Addr → Prop} {F1 H1 : Hp} {M1 : List Addr} {D : Addr} {acc : List PV} (hO : ∀ p, O p → H1 p ≠ none) (c : CInv ct σw O F1 H1 M1 D F H M s acc) : ¬ Own σw s.loc D := fun z => hO D (c.shr D z) c.nD
/-- a further step that leaves D's list -/
theorem CInv.step {σw : L2.St} {O : Addr → Prop} {F1 H1 F2 H2 : Hp} {M1 M2 : List Addr} {D : Addr} {acc : List PV} {s2 : Ps} {σ2 : L2.St} (hO : ∀ p, O p → H1 p ≠ none) (c : CInv ct σw O F1 H1 M1 D F H M s acc)
    (e : Ext (Own σw s.loc) F H M F2 H2 M2 (Own σ2 s2.loc)) (sh : ∀ p, Own σ2 s2.loc p → Own σw s.loc p) (rl2 : Rl ct.K F2 H2 M2 σ2 s2) : CInv ct σ2 O F1 H1 M1 D F2 H2 M2 s2 acc := by
  obtain ⟨ws, w1, w2⟩ := c.hD
  have nO := c.nO hO
  refine ⟨rl2, c.fs.trans e.fs, fun p o h1 h2 h3 => e.keep p o (c.keep p o h1 h2 h3) (fun z => (c.newM p z).elim h2 fun q => by rw [h1] at q; cases q) fun z => h3 (c.shr p z), fun p o h => ?_, fun p o h => ?_, c.pre.trans e.pre, fun a h => ?_,
    fun p h => c.shr p (sh p h), c.nD, ?_, ?_, ws, e.keep D _ w1 c.mD nO, w2.mono e.fs e.pre⟩
  · obtain ⟨o', h'⟩ := c.dom p o h
    exact e.dom p o' h'
  · rcases e.newF p o h with h | h | h
    · exact c.newF p o h
    · refine .inr (.inl ?_)
      cases q : H1 p with
      | none => rfl
      | some o =>
        obtain ⟨o', h'⟩ := c.dom p o q
        rw [h] at h'; cases h'
    · exact .inr (.inr (c.shr p h))
  · rcases e.newM a h with h | h
    · exact c.newM a h
    · refine .inr ?_
      cases q : H1 a with
      | none => rfl
      | some o =>
        obtain ⟨o', h'⟩ := c.dom a o q
        rw [h] at h'; cases h'
  · cases q : F2 D with
    | none => rfl
    | some o =>
      rcases e.newF D o q with h | h | h
      · rw [c.fD] at h; cases h
      · rw [w1] at h; cases h
      · exact (nO h).elim
  · intro z
    rcases e.newM D z with h | h
    · exact c.mD h
    · rw [w1] at h; cases h
/-- D's list grows -/
theorem CInv.grow {σw : L2.St} {O : Addr → Prop} {F1 H1 : Hp} {M1 : List Addr} {D : Addr} {acc : List PV} {ws : List V} {v : V} {d : PV} (hO : ∀ p, O p → H1 p ≠ none) (c : CInv ct σw O F1 H1 M1 D F H M s acc) (hw : H D = some (.lst ws)) (hd : Dn ct.K F M v d) :
    CInv ct σw O F1 H1 M1 D F (upd H D (.lst (ws ++ [v]))) M s (acc ++ [d]) := by
  obtain ⟨ws', w1, w2⟩ := c.hD
  rw [hw] at w1
  cases w1
  have neD : ∀ p o, H1 p = some o → p ≠ D := fun p o h z => by rw [z, c.nD] at h; cases h
  exact ⟨c.rl.mutH c.fD c.mD (c.nO hO), c.fs, fun p o h1 h2 h3 => by rw [upd_ne (neD p o h1)]; exact c.keep p o h1 h2 h3, fun p o h => by rw [upd_ne (neD p o h)]; exact c.dom p o h, c.newF, c.pre, c.newM, c.shr, c.nD, c.fD, c.mD, _, upd_same, w2.append (.cons hd .nil)⟩
/-- the block is left -/
theorem CInv.back {F1 H1 : Hp} {M1 : List Addr} {D : Addr} {acc : List PV} {s1 : Ps} {vs : List Nat} (rl1 : Rl ct.K F1 H1 M1 σ s1) (c : CInv ct (L2.wipe σ vs) (Own (L2.wipe σ vs) (wipeL s1.loc vs)) F1 H1 M1 D F H M s acc) :
    ExtE (Own σ s1.loc) F1 H1 M1 F H M (Own σ (backL s1.loc s.loc vs)) ∧ Rl ct.K F H M σ { s with loc := backL s1.loc s.loc vs } := by
  have sub : ∀ p, Own (L2.wipe σ vs) (wipeL s1.loc vs) p → Own σ s1.loc p := fun p h => by
    obtain ⟨i, xs, _, h1, h2⟩ := own_wipe h
    exact ⟨i, xs, h1, h2⟩
  have key : ∀ {j : Nat} {o : Option SV}, (backL s1.loc s.loc vs)[j]? = some o → (j ∈ vs ∧ (o = none ∨ s1.loc[j]? = some o)) ∨ (j ∉ vs ∧ s.loc[j]? = some o) := fun {j o} e => by
    by_cases hj : j ∈ vs
    · refine .inl ⟨hj, ?_⟩
      have q := backL_in hj e
      cases z : s1.loc[j]? with
      | none => rw [z] at q; exact .inl q
      | some o' => rw [z] at q; exact .inr (by rw [q]; rfl)
    · rw [backL_out hj] at e; exact .inr ⟨hj, e⟩
  have shr : ∀ p, Own σ (backL s1.loc s.loc vs) p → Own σ s1.loc p := fun p ⟨j, xs, h1, h2⟩ => by
    rcases key h1 with ⟨hj, q | q⟩ | ⟨hj, q⟩
    · cases q
    · exact ⟨j, xs, q, h2⟩
    · exact sub p (c.shr p ⟨j, xs, q, by rw [wipe_out hj]; exact h2⟩)
  -- a list that a covered name alone holds
  have cov : ∀ {j : Nat} {xs : List PV} {p : Addr}, j ∈ vs → s1.loc[j]? = some (some (.own xs)) → σ[j]? = some (some (.ref p)) → ¬ Own (L2.wipe σ vs) (wipeL s1.loc vs) p := fun {j xs p} hj h1 h2 z => by
    obtain ⟨i, ys, hi, a1, a2⟩ := own_wipe z
    exact hi (by rw [rl1.inj i j ys xs p a1 h1 a2 h2]; exact hj)
  refine ⟨⟨⟨c.fs, fun p o h1 h2 h3 => c.keep p o h1 h2 fun z => h3 (sub p z), c.dom, fun p o h => (c.newF p o h).imp_right fun q => q.imp_right (sub p), c.pre, c.newM, fun p h => .inl (shr p h)⟩, shr⟩, ⟨c.rl.same, ?_, fun j o e => ?_, fun j k xs ys p a1 a2 a3 a4 => ?_, c.rl.sto⟩⟩
  · rw [backL_len]
    have := c.rl.len
    rw [wipe_length] at this
    exact this
  · rcases key e with ⟨hj, q | q⟩ | ⟨hj, q⟩
    · rw [q]; trivial
    · have z := rl1.slot j o q
      cases o with
      | none => trivial
      | some sv =>
        cases sv with
        | val d =>
          obtain ⟨w, w1, w2⟩ := z
          exact ⟨w, w1, w2.mono c.fs c.pre⟩
        | own xs =>
          obtain ⟨p, us, w1, w2, w3, w4, w5⟩ := z
          have nc := cov hj q w1
          refine ⟨p, us, w1, ?_, c.keep p _ w3 w5 nc, w4.mono c.fs c.pre, fun z => ?_⟩
          · cases z : F p with
            | none => rfl
            | some o =>
              rcases c.newF p o z with h | h | h
              · rw [w2] at h; cases h
              · rw [w3] at h; cases h
              · exact (nc h).elim
          · rcases c.newM p z with h | h
            · exact w5 h
            · rw [w3] at h; cases h
    · have z := c.rl.slot j o q
      rw [wipe_out hj] at z
      exact z
  · have a1 : (backL s1.loc s.loc vs)[j]? = some (some (.own xs)) := a1
    have a2 : (backL s1.loc s.loc vs)[k]? = some (some (.own ys)) := a2
    rcases key a1 with ⟨hj, q | q⟩ | ⟨hj, q⟩
    · cases q
    · rcases key a2 with ⟨hk, r | r⟩ | ⟨hk, r⟩
      · cases r
      · exact rl1.inj j k xs ys p q r a3 a4
      · exact (cov hj q a3 (c.shr p ⟨k, ys, r, by rw [wipe_out hk]; exact a4⟩)).elim
    · rcases key a2 with ⟨hk, r | r⟩ | ⟨hk, r⟩
      · cases r
      · exact (cov hk r a4 (c.shr p ⟨j, xs, q, by rw [wipe_out hj]; exact a3⟩)).elim
      · exact c.rl.inj j k xs ys p q r (by rw [wipe_out hj]; exact a3) (by rw [wipe_out hk]; exact a4)
end
end PI

set_option Elab.async false
set_option linter.all false
set_option autoImplicit false
set_option maxRecDepth 100000
set_option maxHeartbeats 4000000
namespace PI
open PySem L2
section
variable {ct : Ct} {X : Cx} {W : WX} {x y z : Expr} {pos : Pos} {da db dc : Den}
variable {σ σ' : L2.St} {F F' H H' : Hp} {M M' : List Addr} {s s' : Ps}
theorem compBody_ok {vs : List Nat} {delt : Den} {t : T} {difs : List Den} {d : PV} {s2 s6 : Ps} {o : Option PV} (e : compBody vs delt t difs d s2 = .ok o s6) :
    ∃ l b s3, asgT t d s2.loc = some l ∧ tstsR difs { s2 with loc := l } = .ok b s3 ∧
      ((b = true ∧ ∃ y s4, delt.v s3 = .ok y s4 ∧ o = some y.pv ∧ s6 = { s4 with loc := wipeL s4.loc vs }) ∨ (b = false ∧ o = none ∧ s6 = { s3 with loc := wipeL s3.loc vs })) := by
  unfold compBody at e
  cases q : asgT t d s2.loc with
  | none => rw [q] at e; cases e
  | some l =>
    rw [q] at e
    have e : ((tstsR difs { s2 with loc := l }).bind fun b s3 =>
      if b then (delt.v s3).bind fun y s4 => .ok (some y.pv) { s4 with loc := wipeL s4.loc vs }
      else .ok none { s3 with loc := wipeL s3.loc vs }) = .ok o s6 := e
    cases q2 : tstsR difs { s2 with loc := l } with
    | stuck => rw [q2] at e; cases e
    | exc c fs s' => rw [q2] at e; cases e
    | ok b s3 =>
      rw [q2] at e
      refine ⟨l, b, s3, rfl, q2, ?_⟩
      cases b with
      | false =>
        have e : (R.ok none { s3 with loc := wipeL s3.loc vs } : R (Option PV)) = .ok o s6 := e
        cases e
        exact .inr ⟨rfl, rfl, rfl⟩
      | true =>
        have e : ((delt.v s3).bind fun y s4 => (.ok (some y.pv) { s4 with loc := wipeL s4.loc vs } : R (Option PV))) = .ok o s6 := e
        cases q3 : delt.v s3 with
        | stuck => rw [q3] at e; cases e
        | exc c fs s' => rw [q3] at e; cases e
        | ok y s4 =>
          rw [q3] at e
          cases e
          exact .inl ⟨rfl, y, s4, rfl, rfl, rfl⟩
theorem compLoop_cons {body : PV → Ps → R (Option PV)} {d : PV} {ds acc a : List PV} {s s5 : Ps} (e : compLoop body (d :: ds) acc s = .ok a s5) :
    ∃ o s6, body d s = .ok o s6 ∧ ((∃ y, o = some y ∧ acc.length < lim ∧ compLoop body ds (acc ++ [y]) s6 = .ok a s5) ∨ (o = none ∧ compLoop body ds acc s6 = .ok a s5)) := by
  have e : ((body d s).bind fun o s1 => match o with
    | some y => if acc.length < lim then compLoop body ds (acc ++ [y]) s1 else .stuck
    | none => compLoop body ds acc s1) = .ok a s5 := e
  cases q : body d s with
  | stuck => rw [q] at e; cases e
  | exc c fs s' => rw [q] at e; cases e
  | ok o s6 =>
    rw [q] at e
    refine ⟨o, s6, rfl, ?_⟩
    cases o with
    | none => exact .inr ⟨rfl, e⟩
    | some y =>
      have e : (if acc.length < lim then compLoop body ds (acc ++ [y]) s6 else .stuck) = .ok a s5 := e
      split at e
      · rename_i h
        exact .inl ⟨y, rfl, h, e⟩
      · cases e

theorem comp_rd {Q : VK} {vs : List Nat} {delt : Den} {t : T} {difs : List Den} {f : Ps → R (List PV)} (hts : ∀ j ∈ tsl t, j ∈ vs)
    (h : tV ct W (fun s => (f s).bind fun its s1 => compR vs delt t difs its s1) σ H Q) :
    tLc (tIt ct W f) (gT ct t) (tTs ct W0 (tstsR difs)) (tV ct W0 delt.v) vs σ H Q := by
  obtain ⟨F, M, s, rl, p⟩ := h
  refine ⟨F, M, s, rl, ?_⟩
  have p : Pst ct W (DrV ct.K) σ F H M s Q ((f s).bind fun its s1 => compR vs delt t difs its s1) := p
  have p1 := Pst.bind (f := f s) (Dr' := DrI ct.K) (hdV ct.K H) p
  cases e : f s with
  | stuck => rw [e] at p1; exact p1
  | exc c fs s' => rw [e] at p1; exact p1
  | ok a s' =>
    rw [e] at p1
    intro J F' H1 M' ex rl' wk D hD
    obtain ⟨its, s1, F1, M1, ex1, rl1, wk, p2⟩ := p1 J F' H1 M' ex rl' wk
    unfold compR at p2
    cases e2 : compLoop (compBody vs delt t difs) its [] { s1 with loc := wipeL s1.loc vs } with
    | stuck => rw [e2] at p2; exact p2.elim
    | exc c fs s' => rw [e2] at p2; exact p2.elim
    | ok acc s5 =>
      rw [e2] at p2
      obtain ⟨G, Y, wlk, hG, hY⟩ := wk
      have hO : ∀ p, Own (wipe σ vs) (wipeL s1.loc vs) p → H1 p ≠ none := fun p z q => by
        obtain ⟨i, xs, _, h1, h2⟩ := own_wipe z
        obtain ⟨⟨ws, hw⟩, _⟩ := rl1.own_some ⟨i, xs, h1, h2⟩
        rw [hw] at q; cases q
      refine lc_it wlk (fun i H => ∃ F2 M2 s2 acc2, CInv ct (wipe σ vs) (Own (wipe σ vs) (wipeL s1.loc vs)) F1 H1 M1 D F2 H M2 s2 acc2 ∧ compLoop (compBody vs delt t difs) (its.drop i) acc2 s2 = .ok acc s5) ?_ ?_ ?_ ?_
      · refine ⟨F1, M1, { s1 with loc := wipeL s1.loc vs }, [], ⟨(rl1.wipe vs).newH hD, Same.refl _, fun p o h _ _ => ?_, fun p o h => ⟨o, ?_⟩, fun _ _ h => .inl h, List.prefix_refl _, fun _ h => .inl h, fun _ h => h, hD, rl1.same.free hD, rl1.notM hD, [], upd_same, .nil⟩, e2⟩
        · rw [upd_ne (ne_of_none h hD)]; exact h
        · rw [upd_ne (ne_of_none h hD)]; exact h
      · rintro i H _ ⟨F2, M2, s2, acc2, c, _⟩
        exact hG H (fun b o z => c.rl.same b o (c.fs b o z))
      · rintro i v H H' hi ⟨F2, M2, s2, acc2, c, el⟩ hy
        obtain ⟨d, hd, hv⟩ := hY i H v H' hy (fun b o z => c.rl.same b o (c.fs b o z)) hi
        have hdrop : its.drop i = d :: its.drop (i + 1) := by
          have := List.getElem?_eq_some_iff.mp hd
          obtain ⟨h1, h2⟩ := this
          rw [← h2]
          exact List.drop_eq_getElem_cons h1
        rw [hdrop] at el
        obtain ⟨o, s6, eb, el⟩ := compLoop_cons el
        obtain ⟨l, b, s3, ea, et, eb⟩ := compBody_ok eb
        -- the item
        obtain ⟨F3, c3, dn3⟩ : ∃ F3, CInv ct (wipe σ vs) (Own (wipe σ vs) (wipeL s1.loc vs)) F1 H1 M1 D F3 H' M2 s2 acc2 ∧ Dn ct.K F3 M2 v d := by
          rcases hv with ⟨rfl, dn⟩ | ⟨q, ob, rfl, hq, rfl, dn⟩
          · exact ⟨F2, c, dn.mono c.fs c.pre⟩
          · exact ⟨upd F2 q ob, c.step hO (Ext.new c.rl hq) (fun _ z => z) (c.rl.new hq), dn F2 M2 c.fs c.pre (c.rl.same.free hq)⟩
        refine ⟨F3, M2, s2, d, l, c3.rl, dn3, ea, fun σ2 rl2 o2 g2 => ?_⟩
        have hlen : σ2.length = (wipe σ vs).length := by
          have a1 := rl2.len
          have a2 := c3.rl.len
          have a3 : l.length = s2.loc.length := ?_
          · have a1 : l.length = σ2.length := a1
            omega
          · exact asgT_len ea
        have ew : wipe σ2 vs = wipe σ vs := by
          rw [wipe_congr (σ := wipe σ vs) (fun j hj => g2 j fun z => hj (hts j z)) hlen, wipe_wipe]
        refine ⟨ew, ?_⟩
        have c4 : CInv ct σ2 (Own (wipe σ vs) (wipeL s1.loc vs)) F1 H1 M1 D F3 H' M2 { s2 with loc := l } acc2 := c3.step hO ⟨Same.refl _, fun _ _ h _ _ => h, fun _ o h => ⟨o, h⟩, fun _ _ h => .inl h, List.prefix_refl _, fun _ h => .inl h, fun p h => .inl (o2 p h)⟩ o2 rl2
        refine ⟨F3, M2, { s2 with loc := l }, rl2, ?_⟩
        rw [et]
        intro b' F4 H4 M4 ex4 rl4 eb'
        have eb' : b' = b := eb'
        subst eb'
        have c5 := c4.step hO ex4.x ex4.shr rl4
        rcases eb with ⟨rfl, y, s4, ey, rfl, rfl⟩ | ⟨rfl, rfl, rfl⟩
        · rw [if_pos rfl]
          refine ⟨F4, M4, s3, rl4, ?_⟩
          rw [ey]
          intro w F5 H5 M5 ex5 rl5 dw
          obtain ⟨F6, ex6, rl6, dn6⟩ := fz_ext rl4 ex5 rl5 dw
          have c6 := c5.step hO ex6.x ex6.shr rl6
          obtain ⟨ws, hw, hws⟩ := c6.hD
          rcases el with ⟨y', ey', hl, el⟩ | ⟨ey', _⟩
          · cases ey'
            refine ⟨ws, hw, by rw [lim_eq, hws.length]; exact hl, ?_⟩
            have c7 := c6.grow hO hw dn6
            have rl8 := c7.rl.wipe vs
            rw [ew] at rl8
            refine ⟨F6, M5, { s4 with loc := wipeL s4.loc vs }, acc2 ++ [y.pv], c7.step hO (s2 := { s4 with loc := wipeL s4.loc vs }) ⟨Same.refl _, fun _ _ h _ _ => h, fun _ o h => ⟨o, h⟩, fun _ _ h => .inl h, List.prefix_refl _, fun _ h => .inl h, fun p h => .inl ?_⟩ (fun p h => ?_) rl8, el⟩
            · rw [← ew] at h
              obtain ⟨i, xs, _, h1, h2⟩ := own_wipe h
              exact ⟨i, xs, h1, h2⟩
            · rw [← ew] at h
              obtain ⟨i, xs, _, h1, h2⟩ := own_wipe h
              exact ⟨i, xs, h1, h2⟩
          · cases ey'
        · rw [if_neg (by decide)]
          rcases el with ⟨y', ey', _⟩ | ⟨_, el⟩
          · cases ey'
          · have rl8 := c5.rl.wipe vs
            rw [ew] at rl8
            refine ⟨F4, M4, { s3 with loc := wipeL s3.loc vs }, acc2, c5.step hO (s2 := { s3 with loc := wipeL s3.loc vs }) ⟨Same.refl _, fun _ _ h _ _ => h, fun _ o h => ⟨o, h⟩, fun _ _ h => .inl h, List.prefix_refl _, fun _ h => .inl h, fun p h => .inl ?_⟩ (fun p h => ?_) rl8, el⟩
            · rw [← ew] at h
              obtain ⟨i, xs, _, h1, h2⟩ := own_wipe h
              exact ⟨i, xs, h1, h2⟩
            · rw [← ew] at h
              obtain ⟨i, xs, _, h1, h2⟩ := own_wipe h
              exact ⟨i, xs, h1, h2⟩
      · rintro H ⟨F2, M2, s2, acc2, c, el⟩
        rw [List.drop_length] at el
        have el : (R.ok acc2 s2 : R (List PV)) = .ok acc s5 := el
        cases el
        obtain ⟨ex5, rl5⟩ := c.back rl1
        obtain ⟨ws, hw, hws⟩ := c.hD
        exact p2 _ F2 H M2 ex5 rl5 ⟨D, ws, rfl, c.fD, hw, hws, c.mD, c.nD⟩
end
end PI

set_option Elab.async false
set_option linter.all false
set_option autoImplicit false
set_option maxRecDepth 100000
set_option maxHeartbeats 4000000
namespace PI
open PySem L2
section
variable {ct : Ct} {X : Cx} {W : WX} {x y z : Expr} {pos : Pos} {da db dc : Den}
theorem dComp_eq (vs : List Nat) (delt : Den) (t : T) (k : IK) (src difs : List Den) (s : Ps) : (dComp vs delt t k src difs).v s = (itR k src s).bind fun its s1 => compR vs delt t difs its s1 := by
  show (opnds false src (fun ds s1 => match itemsP k ds with
      | some its => compR vs delt t difs its s1
      | none => .stuck) s) = ((opnds false src fun ds s => liftO (itemsP k ds) s) s).bind _
  unfold opnds
  cases Den.bs false src s with
  | stuck => rfl
  | exc c fs s' => rfl
  | ok a s' =>
    show (match derefs s' a with
      | some ds => (match itemsP k ds with
        | some its => compR vs delt t difs its s'
        | none => .stuck)
      | none => .stuck) = (match derefs s' a with
      | some ds => liftO (itemsP k ds) s'
      | none => .stuck).bind _
    cases derefs s' a with
    | none => rfl
    | some ds =>
      show (match itemsP k ds with
        | some its => compR vs delt t difs its s'
        | none => .stuck) = (liftO (itemsP k ds) s').bind _
      cases itemsP k ds <;> rfl
/-- the parts of a comprehension -/
structure CompP (ct : Ct) (X : Cx) (W : WX) (elt tg iter : Expr) (ifs : List Expr) (scope : Scope) (own : List (Str × Nat)) (delt : Den) (t : T) (k : IK) (src difs : List Den) : Prop where
  hi : L2.PI X tg iter (tIt ct W (itR k src))
  ok : BlkOk X.N X.env.scope scope own
  hg : ∀ (s : Shared) (H : Hp) (C : Addr) (cl : List (Str × Addr)) (fp : List Addr), PG (X.blk s H scope (compEnvC scope cl C X.env) fp) tg (gT ct t)
  ht : ∀ (s : Shared) (H : Hp) (C : Addr) (cl : List (Str × Addr)) (fp : List Addr), PTs (X.blk s H scope (compEnvC scope cl C X.env) fp) ifs (tTs ct W0 (tstsR difs))
  he : ∀ (s : Shared) (H : Hp) (C : Addr) (cl : List (Str × Addr)) (fp : List Addr), PE (X.blk s H scope (compEnvC scope cl C X.env) fp) elt (tV ct W0 delt.v)
  hs : ∀ v, foldedSetIterable iter X.env v = pure v
  ts : ∀ j ∈ tsl t, j ∈ own.map (·.2)
theorem pts_nilR : PTs X [] (tTs ct W (tstsR [])) := ⟨fun pins s σ H Q I h => pts_nil.run pins s σ H Q I (by
  obtain ⟨F, M, s, rl, p⟩ := h
  exact Pst.fin rl p rfl)⟩
theorem pts_oneR (h : PT X x (tTs ct W da.t)) : PTs X [x] (tTs ct W (tstsR [da])) := pts_one h
theorem snd_comp {elt tg iter : Expr} {ifs : List Expr} {scope : Scope} {own : List (Str × Nat)} {delt : Den} {t : T} {k : IK} {src difs : List Den} (hK : X.K = ct.K) (hc : X.calm = true) (hN : X.N.Nodup) (c : CompP ct X W elt tg iter ifs scope own delt t k src difs) :
    Snd ct X W (.ListComp elt [⟨tg, iter, ifs, 0⟩] scope pos) (dComp (own.map (·.2)) delt t k src difs) :=
  Snd.ofV hK (PE.imp (pe_lc hc hN c.hi c.ok c.hg c.ht c.he c.hs) fun σ H Q h => comp_rd c.ts (by
    obtain ⟨F, M, s, rl, p⟩ := h
    exact ⟨F, M, s, rl, by show Pst ct W (DrV ct.K) σ F H M s Q ((itR k src s).bind fun its s1 => compR (own.map (·.2)) delt t difs its s1); rw [← dComp_eq]; exact p⟩)) fun _ => rfl

/-! ### statements -/
/-- what is handed back: a value, or a list that nobody else holds -/
def DnT (K : PySem.W.Frag) (F H : Hp) (M : List Addr) (H0 : Hp) (O : Addr → Prop) (v : V) : SV → Prop
  | .val d => Dn K F M v d
  | .own xs => ∃ p vs, v = .ref p ∧ F p = none ∧ H p = some (.lst vs) ∧ Dns K F M vs xs ∧ p ∉ M ∧ (H0 p = none ∨ O p)
def PstS (ct : Ct) (W : WX) (D : Ends) (σ : L2.St) (F H : Hp) (M : List Addr) (s : Ps) : R Fl → Prop
  | .ok .next s' => ∀ σ' F' H' M', Ext (Own σ s.loc) F H M F' H' M' (Own σ' s'.loc) → Rl ct.K F' H' M' σ' s' → D.nx σ' H'
  | .ok .brk s' => ∀ σ' F' H' M', Ext (Own σ s.loc) F H M F' H' M' (Own σ' s'.loc) → Rl ct.K F' H' M' σ' s' → D.bk σ' H'
  | .ok .cont s' => ∀ σ' F' H' M', Ext (Own σ s.loc) F H M F' H' M' (Own σ' s'.loc) → Rl ct.K F' H' M' σ' s' → D.ct σ' H'
  | .ok (.ret r) s' => ∀ v F' H' M', Ext (Own σ s.loc) F H M F' H' M' O0 → Same F' H' → Stos ct.K F' H' M' s'.sto → DnT ct.K F' H' M' H (Own σ s.loc) v r → D.rt v H'
  | .exc c fs s' => ∀ cls d σ' F' H' M', Ext (Own σ s.loc) F H M F' H' M' (Own σ' s'.loc) → Rl ct.K F' H' M' σ' s' → ct.xr c fs F' H' M' cls d → W cls d σ' H'
  | .stuck => False
def tEx (ct : Ct) (W : WX) (f : DS) : TS := fun D σ H => ∃ F M s, Rl ct.K F H M σ s ∧ PstS ct W D σ F H M s (f s)
theorem PS.imp {st : Stmt} {t t' : TS} (h : PS X st t) (i : ∀ D σ H, t' D σ H → t D σ H) : PS X st t' := ⟨fun pins s σ H D I q => h.run pins s σ H D I (i D σ H q)⟩
theorem PSs.imp {st : List Stmt} {t t' : TS} (h : PSs X st t) (i : ∀ D σ H, t' D σ H → t D σ H) : PSs X st t' := ⟨fun pins s σ H D I q => h.run pins s σ H D I (i D σ H q)⟩
variable {σ σ1 : L2.St} {F F1 H H1 : Hp} {M M1 : List Addr} {s s1 : Ps} {D : Ends}
theorem PstS.at {r : R Fl} (e : Ext (Own σ s.loc) F H M F1 H1 M1 (Own σ1 s1.loc)) (p : PstS ct W D σ F H M s r) : PstS ct W D σ1 F1 H1 M1 s1 r := by
  cases r with
  | stuck => exact p
  | exc c fs s' => exact fun cls d σ' F' H' M' x rl q => p cls d σ' F' H' M' (e.trans x) rl q
  | ok fl s' =>
    cases fl with
    | next => exact fun σ' F' H' M' x rl => p σ' F' H' M' (e.trans x) rl
    | brk => exact fun σ' F' H' M' x rl => p σ' F' H' M' (e.trans x) rl
    | cont => exact fun σ' F' H' M' x rl => p σ' F' H' M' (e.trans x) rl
    | ret r =>
      refine fun v F' H' M' x sm so d => p v F' H' M' (e.trans x) sm so ?_
      cases r with
      | val d' => exact d
      | own xs =>
        obtain ⟨q, vs, a1, a2, a3, a4, a5, a6⟩ := d
        refine ⟨q, vs, a1, a2, a3, a4, a5, ?_⟩
        rcases a6 with a6 | a6
        · exact .inl (e.none_back a6)
        · exact (e.newO q a6).symm
/-- an expression's value, then .. -/
theorem valS_rd {f : Ps → R SV} {g : SV → Ps → R Fl} {Kt : V → Hp → Prop} (h : ∃ F M s, Rl ct.K F H M σ s ∧ PstS ct W D σ F H M s ((f s).bind g))
    (hk : ∀ v a F0 M0 s0 F H' M s, Rl ct.K F0 H M0 σ s0 → ExtE (Own σ s0.loc) F0 H M0 F H' M (Own σ s.loc) → Rl ct.K F H' M σ s → DnR ct.K F H' M H v a → PstS ct W D σ F0 H M0 s0 (g a s) → Kt v H') : tV ct W f σ H Kt := by
  obtain ⟨F, M, s, rl, p⟩ := h
  refine ⟨F, M, s, rl, ?_⟩
  cases e : f s with
  | stuck => rw [e] at p; exact p
  | exc c fs s' => rw [e] at p; exact fun cls d F' H' M' x rl q => p cls d σ F' H' M' x.x rl q
  | ok a s' =>
    rw [e] at p
    exact fun v F' H' M' x rl' d => hk v a F M s F' H' M' s' rl x rl' d p
theorem fzS_rd {f : Ps → R SV} {g : SV → Ps → R Fl} {Kt : V → Hp → Prop} (h : ∃ F M s, Rl ct.K F H M σ s ∧ PstS ct W D σ F H M s ((f s).bind g))
    (hk : ∀ v a F H M s, Rl ct.K F H M σ s → Dn ct.K F M v a.pv → PstS ct W D σ F H M s (g a s) → Kt v H) : tV ct W f σ H Kt :=
  valS_rd h fun v a F0 M0 s0 F H' M s rl0 ex rl d p => by
    obtain ⟨F2, e2, r2, d2⟩ := fz_ext rl0 ex rl d
    exact hk v a F2 H' M s r2 d2 (p.at e2.x)
theorem tstS_rd {f : Ps → R Bool} {g : Bool → Ps → R Fl} {Kt : Bool → Hp → Prop} (h : ∃ F M s, Rl ct.K F H M σ s ∧ PstS ct W D σ F H M s ((f s).bind g))
    (hk : ∀ b F H M s, Rl ct.K F H M σ s → PstS ct W D σ F H M s (g b s) → Kt b H) : tTs ct W f σ H Kt := by
  obtain ⟨F, M, s, rl, p⟩ := h
  refine ⟨F, M, s, rl, ?_⟩
  cases e : f s with
  | stuck => rw [e] at p; exact p
  | exc c fs s' => rw [e] at p; exact fun cls d F' H' M' x rl q => p cls d σ F' H' M' x.x rl q
  | ok a s' =>
    rw [e] at p
    intro b F' H' M' x rl' d
    have d : b = a := d
    subst d
    exact hk b F' H' M' s' rl' (PstS.at x.x p)
theorem opndsS_rd {ds : List Den} {f : List PV → Ps → R Fl} {Kt : List V → Hp → Prop} (h : ∃ F M s, Rl ct.K F H M σ s ∧ PstS ct W D σ F H M s (opnds false ds f s))
    (hk : ∀ vs F H M s es, Rl ct.K F H M σ s → Dns ct.K F M vs es → es.length = ds.length → PstS ct W D σ F H M s (f es s) → Kt vs H) : tBsR ct W (Den.bs false ds) σ H Kt := by
  obtain ⟨F, M, s, rl, p⟩ := h
  refine ⟨F, M, s, rl, ?_⟩
  unfold opnds at p
  cases e : Den.bs false ds s with
  | stuck => rw [e] at p; exact p
  | exc c fs s' => rw [e] at p; exact fun cls d F' H' M' x rl q => p cls d σ F' H' M' x.x rl q
  | ok a s' =>
    rw [e] at p
    intro v F' H' M' x rl' d
    have p2 : PstS ct W D σ F H M s (match derefs s' a with
      | some ds => f ds s'
      | none => .stuck) := p
    cases q : derefs s' a with
    | none => rw [q] at p2; exact p2.elim
    | some dx =>
      rw [q] at p2
      exact hk v F' H' M' s' dx rl' (dns_of d (bs_vals e) q) (by rw [derefs_len q, bs_len e]) (PstS.at x.x p2)

/-! ### blocks -/
theorem sts_nil : PSs X [] (tEx ct W sNext) := PSs.imp pss_nil fun D σ H ⟨F, M, s, rl, p⟩ => p σ F H M Ext.refl rl
theorem sts_cons {st : Stmt} {rest : List Stmt} {a b : DS} (h1 : PS X st (tEx ct W a)) (h2 : PSs X rest (tEx ct W b)) : PSs X (st :: rest) (tEx ct W (sSeq a b)) :=
  PSs.imp (pss_cons h1 h2) fun D σ H ⟨F, M, s, rl, p⟩ => by
    refine ⟨F, M, s, rl, ?_⟩
    have p : PstS ct W D σ F H M s (match a s with
      | .ok .next s1 => b s1
      | r => r) := p
    cases e : a s with
    | stuck => rw [e] at p; exact p
    | exc c fs s' => rw [e] at p; exact p
    | ok fl s' =>
      cases fl with
      | next => rw [e] at p; exact fun σ' F' H' M' x rl' => ⟨F', M', s', rl', PstS.at x p⟩
      | brk => rw [e] at p; exact p
      | cont => rw [e] at p; exact p
      | ret v => rw [e] at p; exact p
theorem st_pass : PS X (.Pass pos) (tEx ct W sNext) := PS.imp ps_pass fun D σ H ⟨F, M, s, rl, p⟩ => p σ F H M Ext.refl rl
theorem st_never {st : Stmt} : PS X st (tEx ct W fun _ => .stuck) := PS.imp ps_never fun D σ H ⟨F, M, s, rl, p⟩ => p
theorem st_expr (ha : Snd ct X W x da) (hs : swapsWith x none pos.line X.env = pure false) : PS X (.Expr x pos) (tEx ct W (sExpr da)) :=
  PS.imp (ps_expr ha.v hs) fun D σ H h => fzS_rd h fun v a F H M s rl d p => p σ F H M Ext.refl rl
theorem st_if {a b : List Stmt} {ta tb : DS} (hc : Snd ct X W x dc) (ha : PSs X a (tEx ct W ta)) (hb : PSs X b (tEx ct W tb)) : PS X (.If x a b pos) (tEx ct W (sIf dc ta tb)) :=
  PS.imp (ps_if hc.t ha hb) fun D σ H h => tstS_rd h fun b F H M s rl p => by
    cases b with
    | true => exact ⟨F, M, s, rl, p⟩
    | false => exact ⟨F, M, s, rl, p⟩
/-- a name gets a list that nobody else holds -/
theorem Rl.setNew {v : V} {a : SV} (rl : Rl ct.K F H M σ s) {H0 : Hp} (h : DnR ct.K F H M H0 v a) (ho : ∀ p, Own σ s.loc p → H0 p ≠ none) (i : Nat) :
    Rl ct.K F H M (σ.set i (some v)) { s with loc := s.loc.set i (some a) } ∧ ∀ p, Own (σ.set i (some v)) (s.loc.set i (some a)) p → Own σ s.loc p ∨ H0 p = none := by
  cases a with
  | val d =>
    obtain ⟨a, b⟩ := rl.set h i
    exact ⟨a, fun p z => .inl (b p z)⟩
  | own xs =>
    obtain ⟨q, vs, rfl, e2, e3, e4, e5, e6⟩ := h
    have back : ∀ {j : Nat} {zs : List PV}, (s.loc.set i (some (.own xs)))[j]? = some (some (.own zs)) → (i = j ∧ j < s.loc.length) ∨ (i ≠ j ∧ s.loc[j]? = some (some (.own zs))) := fun {j zs} a => by
      by_cases hj : i = j
      · subst hj
        by_cases hl : i < s.loc.length
        · exact .inl ⟨rfl, hl⟩
        · rw [List.getElem?_eq_none (by simpa using hl)] at a; cases a
      · rw [List.getElem?_set_ne hj] at a; exact .inr ⟨hj, a⟩
    refine ⟨⟨rl.same, by simpa using rl.len, fun j o e => ?_, fun j k us zs p a1 a2 a3 a4 => ?_, rl.sto⟩, fun p ⟨j, zs, a1, a2⟩ => ?_⟩
    · have e : (s.loc.set i (some (.own xs)))[j]? = some o := e
      by_cases hj : i = j
      · subst hj
        by_cases hl : i < s.loc.length
        · rw [List.getElem?_set_self hl] at e
          cases e
          exact ⟨q, vs, by rw [List.getElem?_set_self (by rw [← rl.len]; exact hl)], e2, e3, e4, e5⟩
        · rw [List.getElem?_eq_none (by simpa using hl)] at e; cases e
      · rw [List.getElem?_set_ne hj] at e
        rw [List.getElem?_set_ne hj]
        exact rl.slot j o e
    · have nq : ∀ {j : Nat} {zs : List PV}, s.loc[j]? = some (some (.own zs)) → σ[j]? = some (some (.ref q)) → False := fun {j zs} b1 b2 => ho q ⟨j, zs, b1, b2⟩ e6
      rcases back a1 with ⟨rfl, hl⟩ | ⟨n1, b1⟩
      · rcases back a2 with ⟨rfl, _⟩ | ⟨n2, b2⟩
        · rfl
        · rw [List.getElem?_set_self (by rw [← rl.len]; exact hl)] at a3
          have : q = p := V.ref.inj (Option.some.inj (Option.some.inj a3))
          subst this
          rw [List.getElem?_set_ne n2] at a4
          exact (nq b2 a4).elim
      · rw [List.getElem?_set_ne n1] at a3
        rcases back a2 with ⟨rfl, hl⟩ | ⟨n2, b2⟩
        · rw [List.getElem?_set_self (by rw [← rl.len]; exact hl)] at a4
          have : q = p := V.ref.inj (Option.some.inj (Option.some.inj a4))
          subst this
          exact (nq b1 a3).elim
        · rw [List.getElem?_set_ne n2] at a4
          exact rl.inj j k us zs p b1 b2 a3 a4
    · rcases back a1 with ⟨rfl, hl⟩ | ⟨n1, b1⟩
      · rw [List.getElem?_set_self (by rw [← rl.len]; exact hl)] at a2
        have : q = p := V.ref.inj (Option.some.inj (Option.some.inj a2))
        subst this
        exact .inr e6
      · rw [List.getElem?_set_ne n1] at a2
        exact .inl ⟨j, zs, b1, a2⟩
theorem asgV_rd {i : Nat} {v : V} {a : SV} {F0 H0 : Hp} {M0 : List Addr} {s0 : Ps} (rl0 : Rl ct.K F0 H0 M0 σ s0) (ex : ExtE (Own σ s0.loc) F0 H0 M0 F H M (Own σ s.loc)) (rl : Rl ct.K F H M σ s) (d : DnR ct.K F H M H0 v a)
    (p : PstS ct W D σ F0 H0 M0 s0 (.ok .next { s with loc := s.loc.set i (some a) })) : D.nx (σ.set i (some v)) H := by
  have ho : ∀ p, Own σ s.loc p → H0 p ≠ none := fun p z q => by
    obtain ⟨⟨vs', q'⟩, _⟩ := rl0.own_some (ex.shr p z)
    rw [q] at q'; cases q'
  obtain ⟨a1, a2⟩ := rl.setNew d ho i
  refine p _ F H M ⟨ex.x.fs, ex.x.keep, ex.x.dom, ex.x.newF, ex.x.pre, ex.x.newM, fun q z => ?_⟩ a1
  rcases a2 q z with h | h
  · exact .inl (ex.shr q h)
  · exact .inr h
theorem st_asgV {i : Nat} {t : TE} (hp : PS X (.Assign [y] x pos) (tAsg t (gName i))) (ht : ∀ σ H Q, tV ct W da.v σ H Q → t σ H Q) : PS X (.Assign [y] x pos) (tEx ct W (sAsg (.var i) da)) :=
  PS.imp hp fun D σ H h => ht σ H _ (valS_rd h fun v a F0 M0 s0 F H' M s rl0 ex rl d p => asgV_rd rl0 ex rl d p)
theorem st_asgT {ts : List T} (ha : Snd ct X W x da) (hg : PG X y (gT ct (.tup ts))) (hs : swapsWithSole [y] x pos.line X.env = pure false) (hw : swappedStores [y] x X.env = pure none) (h1 : (assignEach [y] X.env).map (·.2) = [assign y X.env]) :
    PS X (.Assign [y] x pos) (tEx ct W (sAsg (.tup ts) da)) :=
  PS.imp (ps_asg ha.v hg hs hw h1) fun D σ H h => fzS_rd h fun v a F H M s rl d p => by
    have p : PstS ct W D σ F H M s (asgS (.tup ts) a s) := p
    cases a with
    | own xs => exact p.elim
    | val d' =>
      have p : PstS ct W D σ F H M s (match asgT (.tup ts) d' s.loc with
        | some l => .ok .next { s with loc := l }
        | none => .stuck) := p
      cases q : asgT (.tup ts) d' s.loc with
      | none => rw [q] at p; exact p.elim
      | some l =>
        rw [q] at p
        exact ⟨F, M, s, d', l, rl, d, q, fun σ' rl' o' _ => p σ' F H M ⟨Same.refl _, fun _ _ h _ _ => h, fun _ o h => ⟨o, h⟩, fun _ _ h => .inl h, List.prefix_refl _, fun _ h => .inl h, fun q z => .inl (o' q z)⟩ rl'⟩
theorem st_ret (ha : Snd ct X W x da) (hv : ∀ i, da.vr = some i → PE X x (tVar i)) : PS X (.Return (some x) pos) (tEx ct W (sRet da)) := by
  refine ⟨fun pins sh σ H D I ⟨F, M, s, rl, p⟩ => ?_⟩
  have plain : PstS ct W D σ F H M s ((da.v s).bind fun x s1 => .ok (.ret x) s1) → wpAny (model X.prog X.w) X.A (exec (.Return (some x) pos) X.env) (SP X pins D) X.xe sh := fun p =>
    (ps_ret ha.v).run pins sh σ H D I (valS_rd ⟨F, M, s, rl, p⟩ fun v a F0 M0 s0 F H' M s rl0 ex rl d p => by
      refine p v F H' M ⟨ex.x.fs, ex.x.keep, ex.x.dom, ex.x.newF, ex.x.pre, ex.x.newM, fun _ h => h.elim⟩ rl.same rl.sto ?_
      cases a with
      | val d' => exact d
      | own xs =>
        obtain ⟨q, vs, a1, a2, a3, a4, a5, a6⟩ := d
        exact ⟨q, vs, a1, a2, a3, a4, a5, .inl a6⟩)
  unfold sRet at p
  split at p
  · rename_i xs q
    cases hi : da.vr with
    | none => rw [hi] at q; cases q
    | some i =>
      rw [hi] at q
      have q : s.loc[i]? = some (some (.own xs)) := q
      obtain ⟨pp, vs, e1, e2, e3, e4, e5⟩ := rl.slot i _ q
      exact (ps_ret (hv i hi)).run pins sh σ H D I ⟨_, e1, p _ F H M ⟨Same.refl _, fun _ _ h _ _ => h, fun _ o h => ⟨o, h⟩, fun _ _ h => .inl h, List.prefix_refl _, fun _ h => .inl h, fun _ h => h.elim⟩ rl.same rl.sto ⟨pp, vs, rfl, e2, e3, e4, e5, .inr ⟨i, xs, q, e1⟩⟩⟩
  · exact plain p
end
end PI

set_option Elab.async false
set_option linter.all false
set_option autoImplicit false
set_option maxRecDepth 100000
set_option maxHeartbeats 4000000
/-! ### a comprehension of two walks; l.count(x) -/
namespace PI
open PySem L2
section
variable {ct : Ct} {X : Cx} {W : WX} {x y z : Expr} {pos : Pos} {da db dc : Den}
variable {σ σ' : L2.St} {F F' H H' : Hp} {M M' : List Addr} {s s' : Ps}
theorem wipe_sub {vs vs1 : List Nat} (h : ∀ j ∈ vs1, j ∈ vs) (σ : L2.St) : wipe (wipe σ vs1) vs = wipe σ vs :=
  wipe_congr (fun j hj => wipe_out fun z => hj (h j z)) (wipe_length σ vs1)
theorem CInv.wiped {σ2 : L2.St} {O : Addr → Prop} {F1 H1 : Hp} {M1 : List Addr} {D : Addr} {acc : List PV} (hO : ∀ p, O p → H1 p ≠ none) (c : CInv ct σ2 O F1 H1 M1 D F H M s acc) (vs : List Nat) :
    CInv ct (wipe σ2 vs) O F1 H1 M1 D F H M { s with loc := wipeL s.loc vs } acc := by
  have sub : ∀ p, Own (wipe σ2 vs) (wipeL s.loc vs) p → Own σ2 s.loc p := fun p h => by
    obtain ⟨i, xs, _, h1, h2⟩ := own_wipe h
    exact ⟨i, xs, h1, h2⟩
  exact c.step hO (s2 := { s with loc := wipeL s.loc vs }) ⟨Same.refl _, fun _ _ h _ _ => h, fun _ o h => ⟨o, h⟩, fun _ _ h => .inl h, List.prefix_refl _, fun _ h => .inl h, fun p h => .inl (sub p h)⟩ sub (c.rl.wipe vs)
/-- one item of a walk: the target, the test, the item of the list -/
theorem comp_item {σ0 : L2.St} {vs : List Nat} {delt : Den} {t : T} {difs : List Den} (hts : ∀ j ∈ tsl t, j ∈ vs) {O : Addr → Prop} {F1 H1 F2 : Hp} {M1 M2 : List Addr} {D : Addr} (hO : ∀ p, O p → H1 p ≠ none) {s2 s6 : Ps} {acc2 : List PV}
    (c : CInv ct (wipe σ0 vs) O F1 H1 M1 D F2 H M2 s2 acc2) {v : V} {d : PV} {o : Option PV} (hv : (H' = H ∧ Dn ct.K F2 M2 v d) ∨ ∃ q ob, v = .ref q ∧ H q = none ∧ H' = upd H q ob ∧ Dn ct.K (upd F2 q ob) M2 v d)
    (eb : compBody vs delt t difs d s2 = .ok o s6) (hl : o.isSome = true → acc2.length < lim) (Nx : Hp → Prop) (hN : ∀ F H M, CInv ct (wipe σ0 vs) O F1 H1 M1 D F H M s6 (acc2 ++ o.toList) → Same F2 F → M2 <+: M → Nx H) :
    gT ct t v (wipe σ0 vs) H' fun σ2 H2 => wipe σ2 vs = wipe σ0 vs ∧ tTs ct W0 (tstsR difs) σ2 H2 fun b H3 =>
      if b = true then tV ct W0 delt.v σ2 H3 fun y H4 => ∃ acc, H4 D = some (.lst acc) ∧ acc.length < sizeLine ∧ Nx (upd H4 D (.lst (acc ++ [y]))) else Nx H3 := by
  obtain ⟨l, b, s3, ea, et, eb⟩ := compBody_ok eb
  obtain ⟨F3, c3, dn3, sm3⟩ : ∃ F3, CInv ct (wipe σ0 vs) O F1 H1 M1 D F3 H' M2 s2 acc2 ∧ Dn ct.K F3 M2 v d ∧ Same F2 F3 := by
    rcases hv with ⟨rfl, dn⟩ | ⟨q, ob, rfl, hq, rfl, dn⟩
    · exact ⟨F2, c, dn, Same.refl _⟩
    · exact ⟨upd F2 q ob, c.step hO (Ext.new c.rl hq) (fun _ z => z) (c.rl.new hq), dn, same_new (c.rl.same.free hq)⟩
  refine ⟨F3, M2, s2, d, l, c3.rl, dn3, ea, fun σ2 rl2 o2 g2 => ?_⟩
  have hlen : σ2.length = (wipe σ0 vs).length := by
    have a1 : l.length = σ2.length := rl2.len
    have a2 := c3.rl.len
    have a3 : l.length = s2.loc.length := asgT_len ea
    omega
  have ew : wipe σ2 vs = wipe σ0 vs := by
    rw [wipe_congr (σ := wipe σ0 vs) (fun j hj => g2 j fun z => hj (hts j z)) hlen, wipe_wipe]
  refine ⟨ew, ?_⟩
  have c4 : CInv ct σ2 O F1 H1 M1 D F3 H' M2 { s2 with loc := l } acc2 := c3.step hO ⟨Same.refl _, fun _ _ h _ _ => h, fun _ o h => ⟨o, h⟩, fun _ _ h => .inl h, List.prefix_refl _, fun _ h => .inl h, fun p h => .inl (o2 p h)⟩ o2 rl2
  refine ⟨F3, M2, { s2 with loc := l }, rl2, ?_⟩
  rw [et]
  intro b' F4 H4 M4 ex4 rl4 eb'
  have eb' : b' = b := eb'
  subst eb'
  have c5 := c4.step hO ex4.x ex4.shr rl4
  rcases eb with ⟨rfl, y, s4, ey, rfl, rfl⟩ | ⟨rfl, rfl, rfl⟩
  · rw [if_pos rfl]
    refine ⟨F4, M4, s3, rl4, ?_⟩
    rw [ey]
    intro w F5 H5 M5 ex5 rl5 dw
    obtain ⟨F6, ex6, rl6, dn6⟩ := fz_ext rl4 ex5 rl5 dw
    have c6 := c5.step hO ex6.x ex6.shr rl6
    obtain ⟨ws, hw, hws⟩ := c6.hD
    refine ⟨ws, hw, by rw [lim_eq, hws.length]; exact hl rfl, ?_⟩
    have c8 := (c6.grow hO hw dn6).wiped hO vs
    rw [ew] at c8
    exact hN _ _ _ c8 ((sm3.trans ex4.x.fs).trans ex6.x.fs) (ex4.x.pre.trans ex6.x.pre)
  · rw [if_neg (by decide)]
    have c8 := c5.wiped hO vs
    rw [ew] at c8
    exact hN _ _ _ (by simpa using c8) (sm3.trans ex4.x.fs) ex4.x.pre
theorem comp2Loop_cons {vs vs1 : List Nat} {delt : Den} {t t1 : T} {f1 : Ps → R (List PV)} {difs : List Den} {d : PV} {ds acc a : List PV} {s s5 : Ps} (e : comp2Loop vs vs1 delt t f1 t1 difs (d :: ds) acc s = .ok a s5) :
    ∃ l its s1 acc1 s2, asgT t d s.loc = some l ∧ f1 { s with loc := l } = .ok its s1 ∧ compLoop (compBody vs1 delt t1 difs) its acc { s1 with loc := wipeL s1.loc vs1 } = .ok acc1 s2 ∧ comp2Loop vs vs1 delt t f1 t1 difs ds acc1 { s2 with loc := wipeL s2.loc vs } = .ok a s5 := by
  unfold comp2Loop at e
  split at e
  · rename_i l ea
    cases e1 : f1 { s with loc := l } with
    | stuck => rw [e1] at e; cases e
    | exc c fs s' => rw [e1] at e; cases e
    | ok its s1 =>
      rw [e1] at e
      have e : ((compLoop (compBody vs1 delt t1 difs) its acc { s1 with loc := wipeL s1.loc vs1 }).bind fun acc' s2 => comp2Loop vs vs1 delt t f1 t1 difs ds acc' { s2 with loc := wipeL s2.loc vs }) = .ok a s5 := e
      cases e2 : compLoop (compBody vs1 delt t1 difs) its acc { s1 with loc := wipeL s1.loc vs1 } with
      | stuck => rw [e2] at e; cases e
      | exc c fs s' => rw [e2] at e; cases e
      | ok acc1 s2 =>
        rw [e2] at e
        exact ⟨l, its, s1, acc1, s2, ea, e1, e2, e⟩
  · cases e
theorem yield_mono {K : PySem.W.Frag} {F F2 H H' : Hp} {M M2 : List Addr} {v : V} {d : PV} (h : (H' = H ∧ Dn K F M v d) ∨ ∃ p o, v = .ref p ∧ H p = none ∧ H' = upd H p o ∧ ∀ F' M', Same F F' → M <+: M' → F' p = none → Dn K (upd F' p o) M' v d)
    (sm : Same F F2) (m : M <+: M2) (s2 : Same F2 H) : (H' = H ∧ Dn K F2 M2 v d) ∨ ∃ q ob, v = .ref q ∧ H q = none ∧ H' = upd H q ob ∧ Dn K (upd F2 q ob) M2 v d := by
  rcases h with ⟨e, dn⟩ | ⟨q, ob, e1, hq, e2, dn⟩
  · exact .inl ⟨e, dn.mono sm m⟩
  · exact .inr ⟨q, ob, e1, hq, e2, dn F2 M2 sm m (s2.free hq)⟩
theorem drop_at {α : Type} {xs : List α} {i : Nat} {d : α} (h : xs[i]? = some d) : xs.drop i = d :: xs.drop (i + 1) := by
  obtain ⟨h1, h2⟩ := List.getElem?_eq_some_iff.mp h
  rw [← h2]
  exact List.drop_eq_getElem_cons h1
theorem comp2_rd {Q : VK} {vs vs1 : List Nat} {delt : Den} {t t1 : T} {difs : List Den} {f f1 : Ps → R (List PV)} (hts : ∀ j ∈ tsl t, j ∈ vs) (hts1 : ∀ j ∈ tsl t1, j ∈ vs1) (hsub : ∀ j ∈ vs1, j ∈ vs)
    (h : tV ct W (fun s => (f s).bind fun its s1 => comp2R vs vs1 delt t f1 t1 difs its s1) σ H Q) :
    tLc2 (tIt ct W f) (gT ct t) tYes (tIt ct W0 f1) (gT ct t1) (tTs ct W0 (tstsR difs)) (tV ct W0 delt.v) vs vs1 σ H Q := by
  obtain ⟨F, M, s, rl, p⟩ := h
  refine ⟨F, M, s, rl, ?_⟩
  have p : Pst ct W (DrV ct.K) σ F H M s Q ((f s).bind fun its s1 => comp2R vs vs1 delt t f1 t1 difs its s1) := p
  have p1 := Pst.bind (f := f s) (Dr' := DrI ct.K) (hdV ct.K H) p
  cases e : f s with
  | stuck => rw [e] at p1; exact p1
  | exc c fs s' => rw [e] at p1; exact p1
  | ok a s' =>
    rw [e] at p1
    intro J F' H1 M' ex rl' wk D hD
    obtain ⟨its, s1, F1, M1, ex1, rl1, wk, p2⟩ := p1 J F' H1 M' ex rl' wk
    unfold comp2R at p2
    cases e2 : comp2Loop vs vs1 delt t f1 t1 difs its [] { s1 with loc := wipeL s1.loc vs } with
    | stuck => rw [e2] at p2; exact p2.elim
    | exc c fs s' => rw [e2] at p2; exact p2.elim
    | ok acc s5 =>
      rw [e2] at p2
      obtain ⟨G, Y, wlk, hG, hY⟩ := wk
      have hO : ∀ p, Own (wipe σ vs) (wipeL s1.loc vs) p → H1 p ≠ none := fun p z q => by
        obtain ⟨i, xs, _, h1, h2⟩ := own_wipe z
        obtain ⟨⟨ws, hw⟩, _⟩ := rl1.own_some ⟨i, xs, h1, h2⟩
        rw [hw] at q; cases q
      have start : CInv ct (wipe σ vs) (Own (wipe σ vs) (wipeL s1.loc vs)) F1 H1 M1 D F1 (upd H1 D (.lst [])) M1 { s1 with loc := wipeL s1.loc vs } [] := by
        refine ⟨(rl1.wipe vs).newH hD, Same.refl _, fun p o h _ _ => ?_, fun p o h => ⟨o, ?_⟩, fun _ _ h => .inl h, List.prefix_refl _, fun _ h => .inl h, fun _ h => h, hD, rl1.same.free hD, rl1.notM hD, [], upd_same, .nil⟩
        · rw [upd_ne (ne_of_none h hD)]; exact h
        · rw [upd_ne (ne_of_none h hD)]; exact h
      refine ⟨fun i m H => m = its.length - i ∧ i ≤ its.length ∧ ∃ F2 M2 s2 acc2, CInv ct (wipe σ vs) (Own (wipe σ vs) (wipeL s1.loc vs)) F1 H1 M1 D F2 H M2 s2 acc2 ∧ comp2Loop vs vs1 delt t f1 t1 difs (its.drop i) acc2 s2 = .ok acc s5, ⟨its.length, by simp, Nat.zero_le _, F1, M1, _, [], start, e2⟩, ?_⟩
      rintro i m H ⟨rfl, hi, F2, M2, s2, acc2, c, el⟩
      have smH : Same F1 H := fun b o z => c.rl.same b o (c.fs b o z)
      have gH := hG H smH
      by_cases hlt : i < its.length
      · refine .inr ⟨wlk.goes i H hlt gH, fun H' => ∃ F2 M2 s2 acc2, CInv ct (wipe σ vs) (Own (wipe σ vs) (wipeL s1.loc vs)) F1 H1 M1 D F2 H' M2 s2 acc2 ∧ comp2Loop vs vs1 delt t f1 t1 difs (its.drop (i + 1)) acc2 s2 = .ok acc s5, fun H' z => ⟨its.length - (i + 1), by omega, rfl, hlt, z⟩, fun v H' yv => ?_⟩
        obtain ⟨d, hd, hv⟩ := hY i H v H' (wlk.yields i H v H' hlt gH yv) smH hlt
        rw [drop_at hd] at el
        obtain ⟨l, its1, s3, acc1, s7, ea, e1, el1, el⟩ := comp2Loop_cons el
        obtain ⟨F3, c3, dn3⟩ : ∃ F3, CInv ct (wipe σ vs) (Own (wipe σ vs) (wipeL s1.loc vs)) F1 H1 M1 D F3 H' M2 s2 acc2 ∧ Dn ct.K F3 M2 v d := by
          rcases yield_mono hv c.fs c.pre c.rl.same with ⟨rfl, dn⟩ | ⟨q, ob, rfl, hq, rfl, dn⟩
          · exact ⟨F2, c, dn⟩
          · exact ⟨upd F2 q ob, c.step hO (Ext.new c.rl hq) (fun _ z => z) (c.rl.new hq), dn⟩
        refine ⟨F3, M2, s2, d, l, c3.rl, dn3, ea, fun σ2 rl2 o2 g2 => ?_⟩
        have hlen : σ2.length = (wipe σ vs).length := by
          have a1 : l.length = σ2.length := rl2.len
          have a2 := c3.rl.len
          have a3 : l.length = s2.loc.length := asgT_len ea
          omega
        have ew : wipe σ2 vs = wipe σ vs := by
          rw [wipe_congr (σ := wipe σ vs) (fun j hj => g2 j fun z => hj (hts j z)) hlen, wipe_wipe]
        refine ⟨ew, ?_⟩
        have c4 : CInv ct σ2 (Own (wipe σ vs) (wipeL s1.loc vs)) F1 H1 M1 D F3 H' M2 { s2 with loc := l } acc2 := c3.step hO ⟨Same.refl _, fun _ _ h _ _ => h, fun _ o h => ⟨o, h⟩, fun _ _ h => .inl h, List.prefix_refl _, fun _ h => .inl h, fun p h => .inl (o2 p h)⟩ o2 rl2
        unfold tYes
        refine (if_pos (c := true = true) rfl).mpr ?_
        refine ⟨F3, M2, { s2 with loc := l }, rl2, ?_⟩
        rw [e1]
        intro J1 F4 H4 M4 ex4 rl4 wk1
        obtain ⟨G1, Y1, wlk1, hG1, hY1⟩ := wk1
        have c5 := (c4.step hO ex4.x ex4.shr rl4).wiped hO vs1
        refine ⟨fun j k H => k = its1.length - j ∧ j ≤ its1.length ∧ ∃ F M s acc', CInv ct (wipe σ2 vs1) (Own (wipe σ vs) (wipeL s1.loc vs)) F1 H1 M1 D F H M s acc' ∧ Same F4 F ∧ M4 <+: M ∧ compLoop (compBody vs1 delt t1 difs) (its1.drop j) acc' s = .ok acc1 s7, ⟨its1.length, by simp, Nat.zero_le _, F4, M4, _, acc2, c5, Same.refl _, List.prefix_refl _, el1⟩, ?_⟩
        rintro j k Hj ⟨rfl, hj, Fj, Mj, sj, accj, cj, smj, mj, elj⟩
        have smH1 : Same F4 Hj := fun b o z => cj.rl.same b o (smj b o z)
        have gH1 := hG1 Hj smH1
        by_cases hlt1 : j < its1.length
        · refine .inr ⟨wlk1.goes j Hj hlt1 gH1, fun H' => ∃ F M s acc', CInv ct (wipe σ2 vs1) (Own (wipe σ vs) (wipeL s1.loc vs)) F1 H1 M1 D F H' M s acc' ∧ Same F4 F ∧ M4 <+: M ∧ compLoop (compBody vs1 delt t1 difs) (its1.drop (j + 1)) acc' s = .ok acc1 s7, fun H' z => ⟨its1.length - (j + 1), by omega, rfl, hlt1, z⟩, fun v1 H1' yv1 => ?_⟩
          obtain ⟨d1, hd1, hv1⟩ := hY1 j Hj v1 H1' (wlk1.yields j Hj v1 H1' hlt1 gH1 yv1) smH1 hlt1
          rw [drop_at hd1] at elj
          obtain ⟨o, s6, eb, elj⟩ := compLoop_cons elj
          refine comp_item hts1 hO cj (yield_mono hv1 smj mj cj.rl.same) eb (fun ho => ?_) _ fun F H M cc sm mm => ⟨F, M, s6, _, cc, smj.trans sm, mj.trans mm, ?_⟩
          · rcases elj with ⟨yy, e0, hl, _⟩ | ⟨e0, _⟩
            · exact hl
            · rw [e0] at ho; cases ho
          · rcases elj with ⟨yy, e0, hl, ee⟩ | ⟨e0, ee⟩
            · subst e0; exact ee
            · subst e0; simpa using ee
        · have ej : j = its1.length := by omega
          subst ej
          refine .inl ⟨wlk1.stops Hj gH1, ?_⟩
          rw [List.drop_length] at elj
          have elj : (R.ok accj sj : R (List PV)) = .ok acc1 s7 := elj
          cases elj
          have c9 := cj.wiped hO vs
          rw [wipe_sub hsub, ew] at c9
          exact ⟨Fj, Mj, _, _, c9, el⟩
      · have ei : i = its.length := by omega
        subst ei
        refine .inl ⟨wlk.stops H gH, ?_⟩
        rw [List.drop_length] at el
        have el : (R.ok acc2 s2 : R (List PV)) = .ok acc s5 := el
        cases el
        obtain ⟨ex5, rl5⟩ := c.back rl1
        obtain ⟨ws, hw, hws⟩ := c.hD
        exact p2 _ F2 H M2 ex5 rl5 ⟨D, ws, rfl, c.fD, hw, hws, c.mD, c.nD⟩
theorem dComp2_eq (vs vs1 : List Nat) (delt : Den) (t : T) (k : IK) (src : List Den) (t1 : T) (k1 : IK) (src1 difs : List Den) (s : Ps) : (dComp2 vs vs1 delt t k src t1 k1 src1 difs).v s = (itR k src s).bind fun its s1 => comp2R vs vs1 delt t (itR k1 src1) t1 difs its s1 := by
  show (opnds false src (fun ds s1 => match itemsP k ds with
      | some its => comp2R vs vs1 delt t (itR k1 src1) t1 difs its s1
      | none => .stuck) s) = ((opnds false src fun ds s => liftO (itemsP k ds) s) s).bind _
  unfold opnds
  cases Den.bs false src s with
  | stuck => rfl
  | exc c fs s' => rfl
  | ok a s' =>
    show (match derefs s' a with
      | some ds => (match itemsP k ds with
        | some its => comp2R vs vs1 delt t (itR k1 src1) t1 difs its s'
        | none => .stuck)
      | none => .stuck) = (match derefs s' a with
      | some ds => liftO (itemsP k ds) s'
      | none => .stuck).bind _
    cases derefs s' a with
    | none => rfl
    | some ds =>
      show (match itemsP k ds with
        | some its => comp2R vs vs1 delt t (itR k1 src1) t1 difs its s'
        | none => .stuck) = (liftO (itemsP k ds) s').bind _
      cases itemsP k ds <;> rfl
/-- the parts of a comprehension of two walks -/
structure Comp2P (ct : Ct) (X : Cx) (W : WX) (elt tg iter tg1 iter1 : Expr) (ifs : List Expr) (scope : Scope) (own own1 : List (Str × Nat)) (delt : Den) (t : T) (k : IK) (src : List Den) (t1 : T) (k1 : IK) (src1 difs : List Den) : Prop where
  hi : L2.PI X tg iter (tIt ct W (itR k src))
  ok : BlkOk X.N X.env.scope scope own
  hg : ∀ (s : Shared) (H : Hp) (C : Addr) (cl : List (Str × Addr)) (fp : List Addr), PG (X.blk s H scope (compEnvC scope cl C X.env) fp) tg (gT ct t)
  hi1 : ∀ (s : Shared) (H : Hp) (C : Addr) (cl : List (Str × Addr)) (fp : List Addr), L2.PI (X.blk s H scope (compEnvC scope cl C X.env) fp) tg1 iter1 (tIt ct W0 (itR k1 src1))
  hg1 : ∀ (s : Shared) (H : Hp) (C : Addr) (cl : List (Str × Addr)) (fp : List Addr), PG (X.blk s H scope (compEnvC scope cl C X.env) fp) tg1 (gT ct t1)
  ht1 : ∀ (s : Shared) (H : Hp) (C : Addr) (cl : List (Str × Addr)) (fp : List Addr), PTs (X.blk s H scope (compEnvC scope cl C X.env) fp) ifs (tTs ct W0 (tstsR difs))
  he : ∀ (s : Shared) (H : Hp) (C : Addr) (cl : List (Str × Addr)) (fp : List Addr), PE (X.blk s H scope (compEnvC scope cl C X.env) fp) elt (tV ct W0 delt.v)
  hs : ∀ v, foldedSetIterable iter X.env v = pure v
  hs1 : ∀ env v, foldedSetIterable iter1 env v = pure v
  ts : ∀ j ∈ tsl t, j ∈ own.map (·.2)
  ts1 : ∀ j ∈ tsl t1, j ∈ own1.map (·.2)
  sub : ∀ j ∈ own1.map (·.2), j ∈ own.map (·.2)
theorem snd_comp2 {elt tg iter tg1 iter1 : Expr} {ifs : List Expr} {scope : Scope} {own own1 : List (Str × Nat)} {delt : Den} {t t1 : T} {k k1 : IK} {src src1 difs : List Den} (hK : X.K = ct.K) (hc : X.calm = true) (hN : X.N.Nodup)
    (c : Comp2P ct X W elt tg iter tg1 iter1 ifs scope own own1 delt t k src t1 k1 src1 difs) :
    Snd ct X W (.ListComp elt [⟨tg, iter, [], 0⟩, ⟨tg1, iter1, ifs, 0⟩] scope pos) (dComp2 (own.map (·.2)) (own1.map (·.2)) delt t k src t1 k1 src1 difs) :=
  Snd.ofV hK (PE.imp (pe_lc2 hc hN c.hi c.ok c.sub c.hg (fun _ _ _ _ _ => pts_nil) c.hi1 c.hg1 c.ht1 c.he c.hs c.hs1) fun σ H Q h => comp2_rd c.ts c.ts1 c.sub (by
    obtain ⟨F, M, s, rl, p⟩ := h
    exact ⟨F, M, s, rl, by show Pst ct W (DrV ct.K) σ F H M s Q ((itR k src s).bind fun its s1 => comp2R (own.map (·.2)) (own1.map (·.2)) delt t (itR k1 src1) t1 difs its s1); rw [← dComp2_eq]; exact p⟩)) fun _ => rfl
/-! ### l.count(x), flat items -/
theorem count_eqU {v : V} : ∀ {xs : List V} {us : List Value}, Vals xs us → xs.all flatV = true → us.countP (eqU v) = xs.countP fun y => eqV y v
  | _, _, .nil, _ => rfl
  | y :: xs, u :: us, .cons r t, f => by
    rw [List.all_cons, Bool.and_eq_true] at f
    rw [List.countP_cons, List.countP_cons, eqU_of r f.1, count_eqU t f.2]
def rCnt (K : PySem.W.Frag) : V → List V → Hp → VK → Prop := fun x xs H Q => ∃ (p : Addr) (ys : List V) (v : V), x = .ref p ∧ xs = [v] ∧ SqL K H p ys ∧ flatV v = true ∧ ys.all flatV = true ∧ Q (.int (ys.countP fun y => eqV y v : Nat)) H
theorem mt_cnt : MtR X "list.count" (rCnt X.K) := by
  intro pins s σ H x xs v us Q I rx rxs h
  obtain ⟨p, ys, w, rfl, rfl, hs, fw, fs, q⟩ := h
  cases rx
  obtain ⟨u, rfl, ru⟩ := rxs.one
  obtain ⟨its, rv, ⟨⟨cls, dd, data, sl⟩, n, ho, hc, hdn, hd⟩, hlen⟩ := I.list hs
  simp only at hc hd
  subst hc hd
  refine call_meets PySem.F.slot_list_count ⟨_, ho, rfl⟩ PySem.F.entry_list_count (PySem.F.args_list_count_2 _ _) (SeqAt.list_countAt p its.toArray n dd sl u (eqU w)) ⟨ho, fun y hy => mem_eqAt ru fw rv fs y (by simpa using hy), ?_⟩
  refine ⟨.int (ys.countP fun y => eqV y w : Nat), H, I.tok _, ⟨s.toks, ?_⟩, q⟩
  rw [← count_eqU rv fs]
theorem flat_count {F : Hp} {M : List Addr} {w : V} {e : PV} (h' : Dn ct.K F M w e) (f' : flatD e = true) : ∀ {vs : List V} {ds : List PV}, Dns ct.K F M vs ds → ds.all flatD = true → vs.all flatV = true ∧ (vs.countP fun y => eqV y w) = ds.countP fun y => eqv y e
  | _, _, .nil, _ => ⟨rfl, rfl⟩
  | _, _, .cons (d := d) (ds := ds) h t, f => by
    rw [List.all_cons, Bool.and_eq_true] at f
    obtain ⟨a, b⟩ := flat_count h' f' t f.2
    refine ⟨by rw [List.all_cons, flat_dn h f.1, a]; rfl, ?_⟩
    rw [List.countP_cons, List.countP_cons, b, flat_eq h h' f.1 f']
theorem lstAt_ok {i : Nat} {xs : List PV} (rl : Rl ct.K F H M σ s) (h : lstAt i s = some xs) : ∃ p vs, σ[i]? = some (some (V.ref p)) ∧ H p = some (.lst vs) ∧ Dns ct.K F M vs xs := by
  unfold lstAt at h
  split at h
  · rename_i q
    cases h
    obtain ⟨p, vs, e1, e2, e3, e4, e5⟩ := rl.slot i _ q
    exact ⟨p, vs, e1, e3, e4⟩
  · rename_i q
    cases h
    obtain ⟨w, e1, e2⟩ := rl.slot i _ q
    cases e2 with
    | lst h1 h2 => exact ⟨_, _, e1, rl.same _ _ h1, h2⟩
  · cases h
theorem snd_cnt {i : Nat} {apos pn : Pos} {nm : Str} (hK : X.K = ct.K) (hx : PE X (.Name nm pn) (tVar i)) (hb : Snd ct X W y db) (hs : noStar y = true) (hline : (apos.endLine == pos.line) = true) :
    Snd ct X W (.Call (.Attribute (.Name nm pn) "count" apos) [y] [] pos) (dCnt i db) := by
  have key : PE X (.Call (.Attribute (.Name nm pn) "count" apos) [y] [] pos) (tBM X.K "list" (rCnt X.K) (tVar i) (tCons (tV ct W db.v) tNil)) :=
    pe_bm PySem.F.plainAttrs_list PySem.F.slot_list_count PySem.F.type_list_count mt_cnt hx (pa_cons hb.v pa_nil (starEach_cons _ X.env hs)) rfl (few1 hs) hline (starEach_cons _ X.env hs) rfl
  refine Snd.ofV hK (PE.imp key fun σ H Q h => ?_) fun _ => rfl
  obtain ⟨F, M, s, rl, p⟩ := h
  cases e0 : lstAt i s with
  | none => simp [e0] at p; exact p.elim
  | some xs0 =>
    simp only [e0, Option.isSome_some, if_true] at p
    obtain ⟨pp, vs0, e1, e2, e3⟩ := lstAt_ok rl e0
    refine ⟨_, e1, .inl ⟨rfl, vs0, SqL.of e2⟩, ?_⟩
    refine fz_rd (fun H => hdV ct.K H) ⟨F, M, s, rl, p⟩ fun v a F H M s rl d p => ?_
    unfold cntK at p
    split at p
    · rename_i xs q
      obtain ⟨p2, vs, f1, f2, f3⟩ := lstAt_ok rl q
      rw [e1] at f1
      have f1 : pp = p2 := V.ref.inj (Option.some.inj (Option.some.inj f1))
      subst f1
      obtain ⟨r, er, pf⟩ := Pst.lift p
      unfold cntP at er
      split at er
      · rename_i hf
        cases er
        rw [Bool.and_eq_true] at hf
        obtain ⟨g1, g2⟩ := flat_count d hf.1 f3 hf.2
        exact ⟨pp, vs, v, rfl, rfl, SqL.of f2, flat_dn d hf.1, g1, by rw [g2]; exact Pst.fin rl pf (.int _)⟩
      · cases er
    · exact p.elim
end
end PI

set_option Elab.async false
set_option linter.all false
set_option autoImplicit false
set_option maxRecDepth 100000
set_option maxHeartbeats 4000000
namespace PI
open PySem L2
section
variable {ct : Ct} {X : Cx} {W : WX} {x y z : Expr} {pos : Pos} {da db dc : Den}
variable {σ σ1 : L2.St} {F F1 H H1 : Hp} {M M1 : List Addr} {s s1 : Ps} {D : Ends}
theorem sFor_eq (t : T) (k : IK) (src : List Den) (body : DS) (s : Ps) : sFor t k src body s = (itR k src s).bind fun its s1 => forLoop (forBody t body) its s1 := by
  unfold sFor itR opnds
  cases Den.bs false src s with
  | stuck => rfl
  | exc c fs s' => rfl
  | ok a s' =>
    show (match derefs s' a with
      | some ds => (match itemsP k ds with
        | some its => forLoop (forBody t body) its s'
        | none => .stuck)
      | none => .stuck) = (match derefs s' a with
      | some ds => liftO (itemsP k ds) s'
      | none => .stuck).bind _
    cases derefs s' a with
    | none => rfl
    | some ds =>
      show (match itemsP k ds with
        | some its => forLoop (forBody t body) its s'
        | none => .stuck) = (liftO (itemsP k ds) s').bind _
      cases itemsP k ds <;> rfl
theorem extT {σ' : L2.St} {s' : Ps} (o' : ∀ p, Own σ' s'.loc p → Own σ s.loc p) : Ext (Own σ s.loc) F H M F H M (Own σ' s'.loc) := ⟨Same.refl _, fun _ _ h _ _ => h, fun _ o h => ⟨o, h⟩, fun _ _ h => .inl h, List.prefix_refl _, fun _ h => .inl h, fun q z => .inl (o' q z)⟩
theorem st_for {tg iter : Expr} {t : T} {k : IK} {src : List Den} {body : List Stmt} {tb : DS} (hp : PassesOwn (model X.prog X.w) X.A X.env X.xe) (hc : X.calm = true) (hi : L2.PI X tg iter (tIt ct W (itR k src))) (hg : PG X tg (gT ct t)) (hb : PSs X body (tEx ct W tb))
    (hs : ∀ v, foldedSetIterable iter X.env v = pure v) : PS X (.For tg iter body [] pos) (tEx ct W (sFor t k src tb)) :=
  PS.imp (ps_for hp hc hi hg hb hs) fun D σ H ⟨F, M, s, rl, p⟩ => by
    refine ⟨F, M, s, rl, ?_⟩
    rw [sFor_eq] at p
    cases e : itR k src s with
    | stuck => rw [e] at p; exact p
    | exc c fs s' => rw [e] at p; exact fun cls d F' H' M' x rl q => p cls d σ F' H' M' x.x rl q
    | ok its s1 =>
      rw [e] at p
      intro J F1 H1 M1 ex rl1 wk
      have p1 : PstS ct W D σ F1 H1 M1 s1 (forLoop (forBody t tb) its s1) := PstS.at ex.x p
      obtain ⟨G, Y, wlk, hG, hY⟩ := wk
      refine for_it wlk (fun i σ2 H => ∃ F2 M2 s2, Rl ct.K F2 H M2 σ2 s2 ∧ Same F1 F2 ∧ M1 <+: M2 ∧ PstS ct W D σ2 F2 H M2 s2 (forLoop (forBody t tb) (its.drop i) s2)) ⟨F1, M1, s1, rl1, Same.refl _, List.prefix_refl _, p1⟩ ?_ ?_ ?_
      · rintro i σ2 H _ ⟨F2, M2, s2, rl2, fs2, _, _⟩
        exact hG H fun b o z => rl2.same b o (fs2 b o z)
      · rintro i v σ2 H H' hi2 ⟨F2, M2, s2, rl2, fs2, pre2, p2⟩ hy
        obtain ⟨d, hd, hv⟩ := hY i H v H' hy (fun b o z => rl2.same b o (fs2 b o z)) hi2
        have hdrop : its.drop i = d :: its.drop (i + 1) := by
          obtain ⟨h1, h2⟩ := List.getElem?_eq_some_iff.mp hd
          rw [← h2]
          exact List.drop_eq_getElem_cons h1
        rw [hdrop] at p2
        obtain ⟨F3, rl3, fs3, ex3, dn3⟩ : ∃ F3, Rl ct.K F3 H' M2 σ2 s2 ∧ Same F1 F3 ∧ Ext (Own σ2 s2.loc) F2 H M2 F3 H' M2 (Own σ2 s2.loc) ∧ Dn ct.K F3 M2 v d := by
          rcases hv with ⟨rfl, dn⟩ | ⟨q, ob, rfl, hq, rfl, dn⟩
          · exact ⟨F2, rl2, fs2, Ext.refl, dn.mono fs2 pre2⟩
          · exact ⟨upd F2 q ob, rl2.new hq, fs2.trans (same_new (rl2.same.free hq)), Ext.new rl2 hq, dn F2 M2 fs2 pre2 (rl2.same.free hq)⟩
        have p3 := PstS.at ex3 p2
        have p3 : PstS ct W D σ2 F3 H' M2 s2 (match (match asgT t d s2.loc with
            | some l => tb { s2 with loc := l }
            | none => .stuck) with
          | .ok .next s1 => forLoop (forBody t tb) (its.drop (i + 1)) s1
          | .ok .cont s1 => forLoop (forBody t tb) (its.drop (i + 1)) s1
          | .ok .brk s1 => .ok .next s1
          | .ok (.ret v) s1 => .ok (.ret v) s1
          | .exc c fs s1 => .exc c fs s1
          | .stuck => .stuck) := p3
        cases ea : asgT t d s2.loc with
        | none => rw [ea] at p3; exact p3.elim
        | some l =>
          rw [ea] at p3
          refine ⟨F3, M2, s2, d, l, rl3, dn3, ea, fun σ3 rl4 o4 _ => ⟨F3, M2, { s2 with loc := l }, rl4, ?_⟩⟩
          have p4 := PstS.at (σ1 := σ3) (s1 := { s2 with loc := l }) (extT o4) p3
          cases eb : tb { s2 with loc := l } with
          | stuck => simp only [eb] at p4; exact p4
          | exc c fs s' => simp only [eb] at p4; exact p4
          | ok fl s' =>
            cases fl with
            | next => simp only [eb] at p4; exact fun σ' F' H' M' x rl' => ⟨F', M', s', rl', fs3.trans x.fs, pre2.trans x.pre, PstS.at x p4⟩
            | cont => simp only [eb] at p4; exact fun σ' F' H' M' x rl' => ⟨F', M', s', rl', fs3.trans x.fs, pre2.trans x.pre, PstS.at x p4⟩
            | brk => simp only [eb] at p4; exact p4
            | ret r => simp only [eb] at p4; exact p4
      · rintro σ2 H ⟨F2, M2, s2, rl2, _, _, p2⟩
        rw [List.drop_length] at p2
        exact p2 σ2 F2 H M2 Ext.refl rl2
/-! ### while -/
theorem st_while {n : Nat} {body : List Stmt} {tb : DS} (hp : PassesOwn (model X.prog X.w) X.A X.env X.xe) (hc : Snd ct X W x dc) (hb : PSs X body (tEx ct W tb)) : PS X (.While x body [] pos) (tEx ct W (whl dc tb n)) :=
  PS.imp (ps_while hp hc.t hb) fun D σ H h => by
    refine ⟨fun m σ H => ∃ F M s, Rl ct.K F H M σ s ∧ PstS ct W D σ F H M s (whl dc tb m s), ⟨n, h⟩, fun m σ H w => ?_⟩
    cases m with
    | zero => obtain ⟨F, M, s, rl, p⟩ := w; exact p.elim
    | succ m =>
      refine tstS_rd w fun b F H M s rl p => ?_
      cases b with
      | false => exact p σ F H M Ext.refl rl
      | true =>
        refine ⟨fun σ' H' => ∃ F M s, Rl ct.K F H' M σ' s ∧ PstS ct W D σ' F H' M s (whl dc tb m s), fun σ' H' k => ⟨m, Nat.lt_succ_self _, k⟩, F, M, s, rl, ?_⟩
        have p : PstS ct W D σ F H M s (match tb s with
          | .ok .next s2 => whl dc tb m s2
          | .ok .cont s2 => whl dc tb m s2
          | .ok .brk s2 => .ok .next s2
          | .ok (.ret v) s2 => .ok (.ret v) s2
          | .exc c fs s2 => .exc c fs s2
          | .stuck => .stuck) := p
        cases eb : tb s with
        | stuck => simp only [eb] at p; exact p
        | exc c fs s' => simp only [eb] at p; exact p
        | ok fl s' =>
          cases fl with
          | next => simp only [eb] at p; exact fun σ' F' H' M' x rl' => ⟨F', M', s', rl', PstS.at x p⟩
          | cont => simp only [eb] at p; exact fun σ' F' H' M' x rl' => ⟨F', M', s', rl', PstS.at x p⟩
          | brk => simp only [eb] at p; exact p
          | ret r => simp only [eb] at p; exact p
/-! ### x op= e -/
def rA : Operator → R2
  | .Add => fun x y H Q => rI0 (fun i j => .int (i + j)) x y H Q ∨ (∃ i j, x = .str i ∧ y = .str j ∧ i.length + j.length ≤ sizeLine ∧ Q (.str (i ++ j)) H)
  | .Sub => rI0 fun i j => .int (i - j)
  | .Mult => rI CMul fun i j => .int (i * j)
  | _ => fun _ _ _ _ => False
theorem opA (op : Operator) : OpR X (inplaceOp op) (rA op) := by
  cases op with
  | Add => exact iop_add.or iop_add_str
  | Sub => exact iop_sub
  | Mult => exact iop_mul
  | _ => exact fun _ _ _ _ _ _ _ _ _ _ _ _ h => h.elim
theorem valS_at {f : Ps → R SV} {g : SV → Ps → R Fl} {Kt : V → Hp → Prop} (rl : Rl ct.K F H M σ s) (p : PstS ct W D σ F H M s ((f s).bind g))
    (hk : ∀ v a F' H' M' s', ExtE (Own σ s.loc) F H M F' H' M' (Own σ s'.loc) → Rl ct.K F' H' M' σ s' → DnR ct.K F' H' M' H v a → PstS ct W D σ F H M s (g a s') → Kt v H') : tV ct W f σ H Kt := by
  refine ⟨F, M, s, rl, ?_⟩
  cases e : f s with
  | stuck => rw [e] at p; exact p
  | exc c fs s' => rw [e] at p; exact fun cls d F' H' M' x rl q => p cls d σ F' H' M' x.x rl q
  | ok a s' =>
    rw [e] at p
    exact fun v F' H' M' x rl' d => hk v a F' H' M' s' x rl' d p
theorem fzS_at {f : Ps → R SV} {g : SV → Ps → R Fl} {Kt : V → Hp → Prop} (rl : Rl ct.K F H M σ s) (p : PstS ct W D σ F H M s ((f s).bind g))
    (hk : ∀ v a F' H' M' s', ExtE (Own σ s.loc) F H M F' H' M' (Own σ s'.loc) → Rl ct.K F' H' M' σ s' → Dn ct.K F' M' v a.pv → PstS ct W D σ F' H' M' s' (g a s') → Kt v H') : tV ct W f σ H Kt :=
  valS_at rl p fun v a F1 H' M1 s1 ex rl1 d p => by
    obtain ⟨F2, e2, r2, d2⟩ := fz_ext rl ex rl1 d
    exact hk v a F2 H' M1 s1 e2 r2 d2 (p.at e2.x)
theorem setScal {i : Nat} {v : V} {d : PV} (rl : Rl ct.K F H M σ s) (dn : Dn ct.K F M v d) (p : PstS ct W D σ F H M s (.ok .next { s with loc := s.loc.set i (some (.val d)) })) : D.nx (σ.set i (some v)) H := by
  obtain ⟨a, b⟩ := rl.set dn i
  exact p _ F H M (extT b) a
theorem augP_ok {i : Nat} {op : Operator} {v w : V} {dx dy : PV} {r : SV} (rl : Rl ct.K F H M σ s) (hv : DnO ct.K F H M v dx) (hw : DnO ct.K F H M w dy) (e : augP op dx dy = some r) (p : PstS ct W D σ F H M s (.ok .next { s with loc := s.loc.set i (some r) })) : rA op v w H fun z H2 => D.nx (σ.set i (some z)) H2 := by
  unfold augP at e
  split at e
  · cases e; exact .inl ⟨_, _, hv.int, hw.int, setScal rl (.int _) p⟩
  · cases e; exact ⟨_, _, hv.int, hw.int, setScal rl (.int _) p⟩
  · split at e
    · rename_i hc
      cases e; exact ⟨_, _, hv.int, hw.int, hc, setScal rl (.int _) p⟩
    · cases e
  · split at e
    · rename_i hl
      cases e; exact .inr ⟨_, _, hv.str, hw.str, by rw [lim_eq]; exact hl, setScal rl (.str _) p⟩
    · cases e
  · cases e
theorem st_aug {i : Nat} {nm : Str} {op : Operator} {pn : Pos} (hN : X.N.Nodup) (hi : X.N[i]? = some nm) (hx : L2.Loc X.env.scope nm) (ha : Snd ct X W x da) (hf : X.fn nm = true ∨ X.env.scope.names.lookup nm = some .local) : PS X (.AugAssign (.Name nm pn) op x pos) (tEx ct W (sAug i op da)) :=
  PS.imp (ps_aug (ti := rA op) hN hi hx ha.v (opA op) hf) fun D σ H ⟨F, M, s, rl, p⟩ => by
    unfold sAug at p
    split at p
    · rename_i d0 q
      obtain ⟨w, e1, e2⟩ := rl.slot i _ q
      refine ⟨w, e1, ?_⟩
      refine fzS_at rl p fun v a F1 H' M1 s1 ex rl1 d p => ?_
      have e3 := e2.mono ex.x.fs ex.x.pre
      cases ez : augP op d0 a.pv with
      | none => rw [ez] at p; exact p.elim
      | some r =>
        rw [ez] at p
        exact augP_ok rl1 (.inl e3) (.inl d) ez p
    · exact p.elim
/-! ### name[k] = e -/
theorem ixN_len {α β : Type} {xs : List α} {ys : List β} (h : xs.length = ys.length) (k : Int) : ixN xs.length k = ixN ys.length k := by rw [h]
theorem Rl.setRow {k : Nat} {a : Addr} {xs ys : List PV} {ws : List V} (rl : Rl ct.K F H M σ s) (h : s.sto[k]? = some (.row xs)) (ha : M[k]? = some a) (d : Dns ct.K F M ws ys) :
    Ext (Own σ s.loc) F H M F (upd H a (.lst ws)) M (Own σ s.loc) ∧ Rl ct.K F (upd H a (.lst ws)) M σ { s with sto := s.sto.set k (.row ys) } := by
  obtain ⟨f1, vs, f2, f3⟩ : F a = none ∧ ∃ vs, H a = some (.lst vs) ∧ Dns ct.K F M vs xs := rl.sto.ok k _ a h ha
  have hm : a ∈ M := List.mem_of_getElem? ha
  refine ⟨⟨Same.refl _, fun p o h1 h2 _ => by rw [upd_ne fun z => h2 (by rw [z]; exact hm)]; exact h1, fun p o h1 => ?_, fun _ _ h => .inl h, List.prefix_refl _, fun _ h => .inl h, fun _ h => .inl h⟩, ⟨same_mut rl.same f1, rl.len, fun i o e => ?_, rl.inj, ⟨by simpa using rl.sto.len, rl.sto.nd, fun j so b e1 e2 => ?_⟩⟩⟩
  · by_cases z : p = a
    · subst z; exact ⟨_, upd_same⟩
    · exact ⟨o, by rw [upd_ne z]; exact h1⟩
  · have q := rl.slot i o e
    cases o with
    | none => trivial
    | some sv =>
      cases sv with
      | val d => exact q
      | own xs =>
        obtain ⟨q, us, e1, e2, e3, e4, e5⟩ := q
        have ne : q ≠ a := fun z => e5 (by rw [z]; exact hm)
        exact ⟨q, us, e1, e2, by rw [upd_ne ne]; exact e3, e4, e5⟩
  · have e1 : (s.sto.set k (.row ys))[j]? = some so := e1
    by_cases hj : k = j
    · subst hj
      rw [ha] at e2
      cases e2
      have hk : k < s.sto.length := (List.getElem?_eq_some_iff.mp h).1
      rw [List.getElem?_set_self hk] at e1
      cases e1
      exact ⟨f1, ws, upd_same, d⟩
    · rw [List.getElem?_set_ne hj] at e1
      have z := rl.sto.ok j so b e1 e2
      have ne : b ≠ a := fun z => by
        have h1 := (List.getElem?_eq_some_iff.mp ha)
        have h2 := (List.getElem?_eq_some_iff.mp e2)
        obtain ⟨l1, g1⟩ := h1
        obtain ⟨l2, g2⟩ := h2
        exact hj ((List.getElem_inj rl.sto.nd).mp (by rw [g1, g2, z]))
      exact z.mono (Same.refl _) (List.prefix_refl _) z.some.1 (by rw [upd_ne ne])
theorem filled_some {i : Nat} (rl : Rl ct.K F H M σ s) (h : filled i s = true) : ∃ v, σ[i]? = some (some v) := by
  unfold filled at h
  split at h
  · rename_i sv q
    have z := rl.slot i _ q
    cases sv with
    | val d =>
      obtain ⟨w, w1, _⟩ := z
      exact ⟨w, w1⟩
    | own xs =>
      obtain ⟨p, vs, w1, _⟩ := z
      exact ⟨_, w1⟩
  · cases h
theorem st_set {i : Nat} {nm : Str} {pn ps : Pos} (hx : PE X (.Name nm pn) (tVar i)) (hk : Snd ct X W y db) (ha : Snd ct X W x da) (hs : swapsWithSole [.Subscript (.Name nm pn) y ps] x pos.line X.env = pure false) (hw : swappedStores [.Subscript (.Name nm pn) y ps] x X.env = pure none)
    (hsl : ∀ v, assign (.Subscript (.Name nm pn) y ps) X.env v = (do
      let ov ← holding [v] (eval (.Name nm pn) X.env)
      let iv ← holding [v, ov] (eval y X.env)
      standAt ps
      holding [v, ov, iv] (setItem ov iv v)
      release [v, ov, iv] [])) : PS X (.Assign [.Subscript (.Name nm pn) y ps] x pos) (tEx ct W (sSet i db da)) :=
  PS.imp (ps_asg ha.v (pg_sub hx hk.v set_list hsl) hs hw rfl) fun D σ H ⟨F, M, s, rl, p⟩ => by
    by_cases hfl : filled i s = true
    · have p : PstS ct W D σ F H M s (if filled i s then (da.v s).bind fun x s1 => (db.v s1).bind fun y s2 => setP i y.pv x.pv s2 else .stuck) := p
      rw [if_pos hfl] at p
      obtain ⟨v0, hv0⟩ := filled_some rl hfl
      refine fzS_at rl p fun v a F1 H1 M1 s1 ex1 rl1 d1 p1 => ?_
      refine ⟨v0, hv0, ?_⟩
      refine fzS_at rl1 p1 fun w b F2 H2 M2 s2 ex2 rl2 d2 p2 => ?_
      have d1 := d1.mono ex2.x.fs ex2.x.pre
      unfold setP at p2
      split at p2
      · rename_i k hk xs q
        split at p2
        · rename_i j hj
          obtain ⟨pp, vs, e1, e2, e3, e4, e5⟩ := rl2.slot i _ q
          rw [hv0] at e1
          cases e1
          rw [‹b.pv = _›] at d2
          cases d2
          obtain ⟨ex3, rl3⟩ := rl2.setOwn q hv0 (e4.set j d1)
          exact ⟨pp, vs, _, j, rfl, rfl, e3, by rw [e4.length]; exact hj, p2 σ F2 _ M2 ex3.x rl3⟩
        · exact p2.elim
      · rename_i k hk ad q
        split at p2
        · rename_i xs hx
          split at p2
          · rename_i j hj
            obtain ⟨u, e1, e2⟩ := rl2.slot i _ q
            rw [hv0] at e1
            cases e1
            rw [‹b.pv = _›] at d2
            cases d2
            cases e2 with
            | @ref aa _ hm =>
              obtain ⟨f1, vs, f2, f3⟩ : F2 aa = none ∧ ∃ vs, H2 aa = some (.lst vs) ∧ Dns ct.K F2 M2 vs xs := rl2.sto.ok _ _ aa hx hm
              obtain ⟨ex3, rl3⟩ := rl2.setRow hx hm (f3.set j d1)
              exact ⟨aa, vs, _, j, rfl, rfl, f2, by rw [f3.length]; exact hj, p2 σ F2 _ M2 ex3 rl3⟩
          · exact p2.elim
        · exact p2.elim
      · exact p2.elim
    · have p : PstS ct W D σ F H M s (if filled i s then (da.v s).bind fun x s1 => (db.v s1).bind fun y s2 => setP i y.pv x.pv s2 else .stuck) := p
      rw [if_neg hfl] at p
      exact p.elim
/-! ### the row -/
theorem Rl.newRow {ds : List PV} {ws : List V} {q : Addr} (rl : Rl ct.K F H M σ s) (hq : H q = none) (d : Dns ct.K F M ws ds) (i : Nat) :
    Ext (Own σ s.loc) F H M F (upd H q (.lst ws)) (M ++ [q]) (Own (σ.set i (some (.ref q))) (s.loc.set i (some (.val (.ref s.sto.length))))) ∧ Rl ct.K F (upd H q (.lst ws)) (M ++ [q]) (σ.set i (some (.ref q))) { loc := s.loc.set i (some (.val (.ref s.sto.length))), sto := s.sto ++ [.row ds] } := by
  have pre : M <+: M ++ [q] := List.prefix_append _ _
  have rl2 : Rl ct.K F (upd H q (.lst ws)) (M ++ [q]) σ { s with sto := s.sto ++ [.row ds] } := by
    refine ⟨same_mut rl.same (rl.same.free hq), rl.len, fun j o e => ?_, rl.inj, ⟨by rw [List.length_append, List.length_append, rl.sto.len]; rfl, ?_, fun k so a e1 e2 => ?_⟩⟩
    · have z := rl.slot j o e
      cases o with
      | none => trivial
      | some sv =>
        cases sv with
        | val d =>
          obtain ⟨u, u1, u2⟩ := z
          exact ⟨u, u1, u2.mono (Same.refl _) pre⟩
        | own xs =>
          obtain ⟨pp, us, e1, e2, e3, e4, e5⟩ := z
          have ne : pp ≠ q := ne_of_none e3 hq
          exact ⟨pp, us, e1, e2, by rw [upd_ne ne]; exact e3, e4.mono (Same.refl _) pre, fun z => by
            rcases List.mem_append.mp z with z | z
            · exact e5 z
            · exact ne (by simpa using z)⟩
    · rw [List.nodup_append]
      refine ⟨rl.sto.nd, by simp, fun a ha b hb => ?_⟩
      rw [List.mem_singleton] at hb
      subst hb
      intro z
      subst z
      exact rl.notM hq ha
    · have e1 : (s.sto ++ [SO.row ds])[k]? = some so := e1
      by_cases hk : k < s.sto.length
      · rw [List.getElem?_append_left hk] at e1
        rw [List.getElem?_append_left (by rw [rl.sto.len]; exact hk)] at e2
        have z := rl.sto.ok k so a e1 e2
        obtain ⟨z1, o2, z2⟩ := z.some
        exact z.mono (Same.refl _) pre z1 (by rw [upd_ne (ne_of_none z2 hq)])
      · have hk' : k = s.sto.length := by
          have := (List.getElem?_eq_some_iff.mp e1).1
          rw [List.length_append, List.length_singleton] at this
          omega
        subst hk'
        rw [List.getElem?_append_right (Nat.le_refl _), Nat.sub_self] at e1
        rw [← rl.sto.len, List.getElem?_append_right (Nat.le_refl _), Nat.sub_self] at e2
        cases e1
        cases e2
        exact ⟨rl.same.free hq, ws, upd_same, d.mono (Same.refl _) pre⟩
  have dn : Dn ct.K F (M ++ [q]) (.ref q) (.ref s.sto.length) := .ref (by rw [← rl.sto.len, List.getElem?_append_right (Nat.le_refl _), Nat.sub_self]; rfl)
  obtain ⟨a, b⟩ := rl2.set dn i
  refine ⟨⟨Same.refl _, fun p o h1 _ _ => by rw [upd_ne (ne_of_none h1 hq)]; exact h1, fun p o h1 => ⟨o, by rw [upd_ne (ne_of_none h1 hq)]; exact h1⟩, fun _ _ h => .inl h, pre, fun a ha => ?_, fun p h => .inl (b p h)⟩, a⟩
  rcases List.mem_append.mp ha with h | h
  · exact .inl h
  · rw [List.mem_singleton] at h
    subst h
    exact .inr hq
theorem st_row {i : Nat} {nm : Str} {pn pl : Pos} {es : List Expr} {ds : List Den} (hp : PS X (.Assign [.Name nm pn] (.List es pl) pos) (tAsg (tLst (tBsR ct W (Den.bs false ds))) (gName i))) (hl : ds.length ≤ lim) : PS X (.Assign [.Name nm pn] (.List es pl) pos) (tEx ct W (sRow i ds)) :=
  PS.imp hp fun D σ H h => opndsS_rd h fun vs F H M s es rl d le p => ⟨by rw [lim_eq, d.length, le]; exact hl, fun q hq => by
    obtain ⟨a, b⟩ := rl.newRow hq d i
    exact p _ F _ _ a b⟩
/-! ### a, b = x, y -/
theorem DnR.keep {F2 H0 H2 : Hp} {M2 : List Addr} {s0 s2 : Ps} {v : V} {a : SV} {F0 : Hp} {M0 : List Addr} (rl0 : Rl ct.K F0 H0 M0 σ s0) (sh : ∀ p, Own σ s.loc p → Own σ s0.loc p) (d : DnR ct.K F H M H0 v a) (ex : ExtE (Own σ s.loc) F H M F2 H2 M2 (Own σ s2.loc)) : DnR ct.K F2 H2 M2 H0 v a := by
  cases a with
  | val d' => exact Dn.mono ex.x.fs ex.x.pre d
  | own xs =>
    obtain ⟨p, vs, e1, e2, e3, e4, e5, e6⟩ := d
    have no : ¬ Own σ s.loc p := fun z => by
      obtain ⟨⟨vs', q⟩, _⟩ := rl0.own_some (sh p z)
      rw [e6] at q; cases q
    refine ⟨p, vs, e1, ?_, ex.x.keep p _ e3 e5 no, e4.mono ex.x.fs ex.x.pre, fun z => ?_, e6⟩
    · cases q : F2 p with
      | none => rfl
      | some o =>
        rcases ex.x.newF p o q with h | h | h
        · rw [e2] at h; cases h
        · rw [e3] at h; cases h
        · exact (no h).elim
    · rcases ex.x.newM p z with h | h
      · exact e5 h
      · rw [e3] at h; cases h
theorem st_par {i j : Nat} {st : Stmt} (hp : PS X st (tPar i j (tCons (tV ct W da.v) (tCons (tV ct W db.v) tNil)))) : PS X st (tEx ct W (sPar i j da db)) :=
  PS.imp hp fun D σ H ⟨F, M, s, rl, p⟩ => by
    have p : PstS ct W D σ F H M s ((da.v s).bind fun x s1 => (db.v s1).bind fun y s2 => .ok .next { s2 with loc := (s2.loc.set i (some x)).set j (some y) }) := p
    refine valS_at rl p fun v a F1 H1 M1 s1 ex1 rl1 d1 p1 => ?_
    refine ⟨F1, M1, s1, rl1, ?_⟩
    cases e : db.v s1 with
    | stuck => rw [e] at p1; exact p1
    | exc c fs s' => rw [e] at p1; exact fun cls d F' H' M' x rl q => p1 cls d σ F' H' M' (ex1.x.trans x.x) rl q
    | ok b s2 =>
    rw [e] at p1
    have p2 : PstS ct W D σ F H M s (.ok .next { s2 with loc := (s2.loc.set i (some a)).set j (some b) }) := p1
    intro w F2 H2 M2 ex2 rl2 d2
    refine ⟨v, w, rfl, ?_⟩
    have d1' := d1.keep rl ex1.shr ex2
    have ho1 : ∀ p, Own σ s2.loc p → H p ≠ none := fun p z q => by
      obtain ⟨⟨vs', q'⟩, _⟩ := rl.own_some (ex1.shr p (ex2.shr p z))
      rw [q] at q'; cases q'
    obtain ⟨r1, o1⟩ := rl2.setNew d1' ho1 i
    have ho2 : ∀ p, Own (σ.set i (some v)) (s2.loc.set i (some a)) p → H1 p ≠ none := fun p z q => by
      obtain ⟨⟨vs', q'⟩, _⟩ := r1.own_some z
      rcases o1 p z with h | h
      · obtain ⟨⟨vs2, q2⟩, _⟩ := rl1.own_some (ex2.shr p h)
        rw [q] at q2; cases q2
      · -- p is the new list of a
        cases a with
        | val dd =>
          obtain ⟨n, xs, z1, z2⟩ := z
          by_cases hn : i = n
          · subst hn
            by_cases hl : i < s2.loc.length
            · rw [List.getElem?_set_self hl] at z1; cases z1
            · rw [List.getElem?_eq_none (by simpa using hl)] at z1; cases z1
          · rw [List.getElem?_set_ne hn] at z1 z2
            exact ho1 p ⟨n, xs, z1, z2⟩ h
        | own xs0 =>
          obtain ⟨pp, us, rfl, _, a3, _⟩ := d1
          obtain ⟨n, xs, z1, z2⟩ := z
          by_cases hn : i = n
          · subst hn
            by_cases hl : i < s2.loc.length
            · rw [List.getElem?_set_self (by rw [← rl2.len]; exact hl)] at z2
              have : pp = p := V.ref.inj (Option.some.inj (Option.some.inj z2))
              subst this
              rw [q] at a3; cases a3
            · rw [List.getElem?_eq_none (by simpa using hl)] at z1; cases z1
          · rw [List.getElem?_set_ne hn] at z1 z2
            exact ho1 p ⟨n, xs, z1, z2⟩ h
    obtain ⟨r2, o2⟩ := r1.setNew d2 ho2 j
    have ex := ex1.trans ex2
    refine p2 _ F2 H2 M2 ⟨ex.x.fs, ex.x.keep, ex.x.dom, ex.x.newF, ex.x.pre, ex.x.newM, fun q z => ?_⟩ r2
    rcases o2 q z with h | h
    · rcases o1 q h with h | h
      · exact .inl (ex.shr q h)
      · exact .inr h
    · exact .inr (ex1.x.none_back h)
end
end PI

set_option Elab.async false
set_option linter.all false
set_option autoImplicit false
set_option maxRecDepth 100000
set_option maxHeartbeats 4000000
/-! Instances of classes with slots: attributes, len, making. -/
namespace PI
open PySem L2
/-- what the text's class c has as f -/
def AtOk (ct : Ct) (X : Cx) (n : Nat) (cl : Str → List PV → Sto → C) (c f : Str) (a : At) : Prop :=
  ∃ C, PySem.W.nsIn ct.K mainGlobals c = some (some (.ref C)) ∧ (match a with
    | .fld => Cls ct.K C
    | .propI _ => Cls ct.K C
    | .methI _ _ => Cls ct.K C
    | _ => SlX.SCls ct.K C) ∧ (match a with
    | .fld => NoAttr ct.K C f
    | .neO => PySem.W.findIn ct.K (.ref C) f = some (some (.builtin "object.__ne__")) ∧ PySem.W.mroIn ct.K C (.type "object") = some true
    | .isi => X.mg c = some (.ref C) ∧ SlX.SIsi ct.K C
    | .propI g => ∃ (p gf : Addr) (fd : FuncData) (ps : List Str), PropOf ct.K C f p gf ∧ Binds X.K fd ps [] ∧ FnOk X.prog X.w X.K X.mg X.base (CX X.prog X.w) n gf fd ps (spF ct cl g 1)
    | .methI g ar => ∃ (gf : Addr) (fd : FuncData) (ps : List Str), Meth ct.K C f gf ∧ Binds X.K fd ps [] ∧ FnOk X.prog X.w X.K X.mg X.base (CX X.prog X.w) n gf fd ps (spF ct cl g ar)
    | .slot i => ∃ p, SlX.Slot1 ct.K C f p i
    | .prop g => ∃ (p gf : Addr) (fd : FuncData) (ps : List Str), PySem.W.findIn ct.K (.ref C) f = some (some (.ref p)) ∧ PySem.W.specialIn ct.K (.ref p) "__get__" = some (some (.builtin "property.__get__")) ∧
        PySem.W.takesIn ct.K (.ref p) = some true ∧ (∃ rest, PySem.W.recIn ct.K p "property" = some (.ref gf :: rest)) ∧ Binds X.K fd ps [] ∧ FnOk X.prog X.w X.K X.mg X.base (CX X.prog X.w) n gf fd ps (spF ct cl g 1)
    | .meth g ar => ∃ (gf : Addr) (fd : FuncData) (ps : List Str), Meth ct.K C f gf ∧ Binds X.K fd ps [] ∧ FnOk X.prog X.w X.K X.mg X.base (CX X.prog X.w) n gf fd ps (spF ct cl g ar))
abbrev Ef : XK := fun _ _ _ => False
theorem cx_ef {P : Program} {w : World} {outer : List Env} {H : Hp} {s : Shared} {e : Value} {s' : Shared} (h : CX P w outer H s Ef e s') : False := by
  obtain ⟨_, _, _, _, _, _, _, _, _, _, _, _, z⟩ := h
  exact z
theorem pass_ef {X : Cx} : Passes (CX X.prog X.w) X Ef := fun _ _ _ _ _ _ _ h => (cx_ef h).elim
theorem fnR_of {P : Program} {w : World} {K : PySem.W.Frag} {mg : Str → Option Value} {base : Heap} {CX : CXT} {k : Nat} {f : Addr} {fd : FuncData} {ps : List Str} {sp : Sp} (F : FnOk P w K mg base CX k f fd ps sp) (hb : Binds K fd ps []) : FnR P w K mg base CX k f sp :=
  (F.raw hb .nil).imp fun vs H Q E h => by rw [List.append_nil]; exact h

mutual
theorem Dn.noM {K : PySem.W.Frag} {F : Hp} {M M2 : List Addr} : ∀ {v : V} {d : PV}, Dn K F M v d → noRef d = true → Dn K F M2 v d
  | _, _, .non, _ => .non
  | _, _, .bl b, _ => .bl b
  | _, _, .int i, _ => .int i
  | _, _, .str x, _ => .str x
  | _, _, .tup h r, q => .tup h (Dns.noM r q)
  | _, _, .lst h r, q => .lst h (Dns.noM r q)
  | _, _, .scr h, _ => .scr h
  | _, _, .ref _, q => by cases q
  | _, _, .rcd h1 h2 h3 h4 r, q => .rcd h1 h2 h3 h4 (Dns.noM r q)
theorem Dns.noM {K : PySem.W.Frag} {F : Hp} {M M2 : List Addr} : ∀ {v : List V} {d : List PV}, Dns K F M v d → noRefs d = true → Dns K F M2 v d
  | _, _, .nil, _ => .nil
  | _, _, .cons (d := d) (ds := ds) h r, q => by
    have q : (noRef d && noRefs ds) = true := q
    rw [Bool.and_eq_true] at q
    exact .cons (Dn.noM h q.1) (Dns.noM r q.2)
end
section
variable {ct : Ct} {X : Cx} {W : WX} {x y z : Expr} {pos : Pos} {da db dc : Den}
variable {σ σ1 : L2.St} {F F1 H H1 : Hp} {M M1 : List Addr} {s s1 : Ps}
def attrBase : Expr → Bool
  | .Call (.Name _ _) [] [] _ => false
  | _ => true
theorem attrBase_ok {x : Expr} {f : Str} {env : Env} {wh : Sem Value} (h : attrBase x = true) : attributeBase x f env wh = wh := by
  unfold attributeBase
  split
  · cases h
  · rfl
/-- e.f, a slot or a property -/
theorem pe_at {ta t : TE} {f : Str} (he : PE X x ta) (hb : attrBase x = true)
    (h : ∀ σ H Q, t σ H Q → ta σ H fun v H1 => (∃ (a C dx : Addr) (vs : List (Option V)), v = .ref a ∧ SlX.Slt H1 a C dx vs ∧ SlX.SCls X.K C ∧ ((∃ p i u, SlX.Slot1 X.K C f p i ∧ vs[i]? = some (some u) ∧ Q u H1) ∨
      ∃ (p gf : Addr) (n : Nat) (sp : Sp), PySem.W.findIn X.K (.ref C) f = some (some (.ref p)) ∧ PySem.W.specialIn X.K (.ref p) "__get__" = some (some (.builtin "property.__get__")) ∧
        PySem.W.takesIn X.K (.ref p) = some true ∧ (∃ rest, PySem.W.recIn X.K p "property" = some (.ref gf :: rest)) ∧ FnR X.prog X.w X.K X.mg X.base (CX X.prog X.w) n gf sp ∧ Room (n + 1) X.A ∧ sp [.ref a] H1 Q Ef)) ∨
      ∃ (a C dx : Addr) (fs : List (Str × V)), v = .ref a ∧ H1 a = some (.ins C dx fs) ∧ Cls X.K C ∧ ((NoAttr X.K C f ∧ ∃ u, fs.lookup f = some u ∧ Q u H1) ∨
        ∃ (p gf : Addr) (n : Nat) (fd : FuncData) (ps : List Str) (sp : Sp), PropOf X.K C f p gf ∧ FnOk X.prog X.w X.K X.mg X.base (CX X.prog X.w) n gf fd ps sp ∧ Binds X.K fd ps [] ∧ Room (n + 1) X.A ∧ sp [.ref a] H1 Q Ef)) :
    PE X (.Attribute x f pos) t := by
  refine ⟨fun pins sh σ H Q I q => ?_⟩
  refine attr_of (attrBase_ok hb) (thn (he.run pins sh σ H _ I (h σ H Q q)) fun u s1 ⟨v, H1, I1, rx, hv⟩ => ?_)
  rcases hv with ⟨a, C, dx, vs, ev, hs, hc, hor⟩ | ⟨a, C, dx, fs, ev, hs, hc, hor⟩
  · subst ev
    obtain rfl : u = Value.ref a := rx
    rcases hor with ⟨p, i, w, ht, hl, hq⟩ | ⟨p, gf, n, sp, h1, h2, h3, h4, h5, h6, h7⟩
    · exact SlX.getslot_ok I1 hs hc ht hl fun u' s2 I2 ru => ⟨w, H1, I2, ru, hq⟩
    · exact SlX.getprop_sl I1 hs hc h1 h2 h3 h4 h5 h6 (fun _ _ _ _ => cx_ef) h7
  · subst ev
    obtain rfl : u = Value.ref a := rx
    rcases hor with ⟨ht, w, hl, hq⟩ | ⟨p, gf, n, fd, ps, sp, h1, h2, h3, h4, h5⟩
    · exact getattr_ok I1 hs hc ht hl fun u' s2 I2 ru => ⟨w, H1, I2, ru, hq⟩
    · exact getprop_ok I1 hs hc h1 h2 h4 h3 .nil (fun _ _ _ _ _ _ _ z => (cx_ef z).elim) h5
theorem M_inj (rl : Stos ct.K F H M s.sto) {i j : Nat} {a : Addr} (h1 : M[i]? = some a) (h2 : M[j]? = some a) : i = j := by
  obtain ⟨l1, g1⟩ := List.getElem?_eq_some_iff.mp h1
  obtain ⟨l2, g2⟩ := List.getElem?_eq_some_iff.mp h2
  exact (List.getElem_inj rl.nd).mp (by rw [g1, g2])
/-- an object of the store -/
theorem obj_at (so : Stos ct.K F H M s.sto) {k : Nat} {a : Addr} {c : Str} {fs : List (Option PV)} {b : Bool} (h1 : s.sto[k]? = some (.obj c fs)) (h2 : s.sto[k + 1]? = some (.aux b)) (ha : M[k]? = some a) (hfb : fs = [] ∨ b = true) :
    ∃ C dx vs, PySem.W.nsIn ct.K mainGlobals c = some (some (.ref C)) ∧ M[k + 1]? = some dx ∧ SlX.Slt H a C dx vs ∧ F a = none ∧ F dx = none ∧ ∀ (i : Nat) (d : PV), fs[i]? = some (some d) → ∃ v, vs[i]? = some (some v) ∧ Dn ct.K F M v d := by
  obtain ⟨f1, C, dx, vs, g1, ⟨k', g2, g3⟩, g4, g5⟩ := so.ok k _ a h1 ha
  have ek := M_inj so g2 ha
  subst ek
  obtain ⟨f2, o, q1, q2⟩ := so.ok (k' + 1) _ dx h2 g3
  refine ⟨C, dx, vs, g1, g3, ?_, f1, f2, g5⟩
  rcases g4 with ⟨e1, e2, e3⟩ | ⟨e1, e3⟩
  · exact .inl ⟨e3, e2⟩
  · have : b = true := hfb.resolve_left e1
    rw [q2 this] at q1
    exact .inr ⟨e3, q1⟩
theorem join_some {α : Type} {o : Option (Option α)} {x : α} (h : o.join = some x) : o = some (some x) := by
  cases o with
  | none => cases h
  | some y => exact congrArg some h
theorem prop_rd {n : Nat} {cl : Str → List PV → Sto → C} {g : Str} {v : V} {d : PV} {Q : VK} (rl : Rl ct.K F H M σ s) (dn : Dn ct.K F M v d) (p : Pst ct W (DrV ct.K) σ F H M s Q (propP (cl g [d] s.sto) s)) : spF ct cl g 1 [v] H Q Ef := by
  refine ⟨F, M, s.sto, [d], rl.same, rl.sto, .cons dn .nil, rfl, ?_⟩
  cases e : cl g [d] s.sto with
  | stuck => rw [e] at p; exact p.elim
  | exc c fs st => rw [e] at p; exact p.elim
  | ok x st =>
    rw [e] at p
    intro v F' H' M' ex sm so dr
    obtain ⟨a, b⟩ := rl.after ex sm so
    exact p v F' H' M' a b dr
theorem attrR_ok {n : Nat} {G : En} {f c : Str} {fs : List (Option PV)} {a C dx : Addr} {vs : List (Option V)} {d : PV} {Q : VK} (hK : X.K = ct.K) (hr : Room (n + 1) X.A) (hA : ∀ at_, G.ca c f = some at_ → AtOk ct X n G.cl c f at_) (rl : Rl ct.K F H M σ s) (dn : Dn ct.K F M (.ref a) d)
    (hc : PySem.W.nsIn ct.K mainGlobals c = some (some (.ref C))) (hs : SlX.Slt H a C dx vs) (hf : ∀ (i : Nat) (d : PV), fs[i]? = some (some d) → ∃ v, vs[i]? = some (some v) ∧ Dn ct.K F M v d)
    (p : Pst ct W (DrV ct.K) σ F H M s Q (attrR G f c fs d s)) :
    ∃ (a' C dx : Addr) (vs : List (Option V)), V.ref a = .ref a' ∧ SlX.Slt H a' C dx vs ∧ SlX.SCls X.K C ∧ ((∃ p i u, SlX.Slot1 X.K C f p i ∧ vs[i]? = some (some u) ∧ Q u H) ∨
      ∃ (p gf : Addr) (n : Nat) (sp : Sp), PySem.W.findIn X.K (.ref C) f = some (some (.ref p)) ∧ PySem.W.specialIn X.K (.ref p) "__get__" = some (some (.builtin "property.__get__")) ∧
        PySem.W.takesIn X.K (.ref p) = some true ∧ (∃ rest, PySem.W.recIn X.K p "property" = some (.ref gf :: rest)) ∧ FnR X.prog X.w X.K X.mg X.base (CX X.prog X.w) n gf sp ∧ Room (n + 1) X.A ∧ sp [.ref a'] H Q Ef) := by
  unfold attrR at p
  cases e : G.ca c f with
  | none => rw [e] at p; exact p.elim
  | some at_ =>
    obtain ⟨C', q1, q2, q3⟩ := hA at_ e
    rw [hc] at q1
    cases q1
    rw [e] at p
    cases at_ with
    | slot i =>
      obtain ⟨p0, hsl⟩ := q3
      obtain ⟨r, er, p⟩ := Pst.lift p
      obtain ⟨d', e', rfl⟩ := Option.map_eq_some_iff.mp er
      obtain ⟨u, hu, du⟩ := hf i d' (join_some e')
      exact ⟨a, C, dx, vs, rfl, hs, by rw [hK]; exact q2, .inl ⟨p0, i, u, by rw [hK]; exact hsl, hu, Pst.fin rl p du⟩⟩
    | prop g =>
      obtain ⟨p0, gf, fd, ps, h1, h2, h3, h4, h5, h6⟩ := q3
      exact ⟨a, C, dx, vs, rfl, hs, by rw [hK]; exact q2, .inr ⟨p0, gf, n, _, by rw [hK]; exact h1, by rw [hK]; exact h2, by rw [hK]; exact h3, by rw [hK]; exact h4, fnR_of h6 h5, hr, prop_rd (n := n) rl dn p⟩⟩
    | meth g _ => exact p.elim
    | neO => exact p.elim
    | isi => exact p.elim
    | fld => exact p.elim
    | propI g => exact p.elim
    | methI g _ => exact p.elim
/-- an instance with a dict, of the store -/
theorem ins_at (so : Stos ct.K F H M s.sto) {k : Nat} {a : Addr} {c : Str} {fs : List (Str × PV)} (h1 : s.sto[k]? = some (.ins c fs)) (ha : M[k]? = some a) :
    F a = none ∧ ∃ C dx vs, PySem.W.nsIn ct.K mainGlobals c = some (some (.ref C)) ∧ H a = some (.ins C dx vs) ∧ Flds ct.K F M vs fs := so.ok k _ a h1 ha
theorem insR_ok {n : Nat} {G : En} {f c : Str} {fs : List (Str × PV)} {a C dx : Addr} {vs : List (Str × V)} {d : PV} {Q : VK} (hK : X.K = ct.K) (hr : Room (n + 1) X.A) (hA : ∀ at_, G.ca c f = some at_ → AtOk ct X n G.cl c f at_) (rl : Rl ct.K F H M σ s) (dn : Dn ct.K F M (.ref a) d)
    (hc : PySem.W.nsIn ct.K mainGlobals c = some (some (.ref C))) (hs : H a = some (.ins C dx vs)) (hf : Flds ct.K F M vs fs) (p : Pst ct W (DrV ct.K) σ F H M s Q (insR G f c fs d s)) :
    ∃ (a' C dx : Addr) (fs : List (Str × V)), V.ref a = .ref a' ∧ H a' = some (.ins C dx fs) ∧ Cls X.K C ∧ ((NoAttr X.K C f ∧ ∃ u, fs.lookup f = some u ∧ Q u H) ∨
        ∃ (p gf : Addr) (n : Nat) (fd : FuncData) (ps : List Str) (sp : Sp), PropOf X.K C f p gf ∧ FnOk X.prog X.w X.K X.mg X.base (CX X.prog X.w) n gf fd ps sp ∧ Binds X.K fd ps [] ∧ Room (n + 1) X.A ∧ sp [.ref a'] H Q Ef) := by
  unfold insR at p
  cases e : G.ca c f with
  | none => rw [e] at p; exact p.elim
  | some at_ =>
    obtain ⟨C', q1, q2, q3⟩ := hA at_ e
    rw [hc] at q1
    cases q1
    rw [e] at p
    cases at_ with
    | fld =>
      obtain ⟨r, er, p⟩ := Pst.lift p
      obtain ⟨d', e', rfl⟩ := Option.map_eq_some_iff.mp er
      rcases hf.look (f := f) with ⟨_, z⟩ | ⟨x, y, z1, z2, z3⟩
      · rw [z] at e'; cases e'
      · rw [z2] at e'
        cases e'
        exact ⟨a, C, dx, vs, rfl, hs, by rw [hK]; exact q2, .inl ⟨by rw [hK]; exact q3, x, z1, Pst.fin rl p z3⟩⟩
    | propI g =>
      obtain ⟨p0, gf, fd, ps, h1, h5, h6⟩ := q3
      exact ⟨a, C, dx, vs, rfl, hs, by rw [hK]; exact q2, .inr ⟨p0, gf, n, fd, ps, _, by rw [hK]; exact h1, h6, h5, hr, prop_rd (n := n) rl dn p⟩⟩
    | slot i => exact p.elim
    | prop g => exact p.elim
    | neO => exact p.elim
    | isi => exact p.elim
    | meth g _ => exact p.elim
    | methI g _ => exact p.elim
theorem snd_attr {n : Nat} {G : En} {f : Str} (hK : X.K = ct.K) (hr : Room (n + 1) X.A) (hA : ∀ c at_, G.ca c f = some at_ → AtOk ct X n G.cl c f at_) (ha : Snd ct X W x da) (hb : attrBase x = true) : Snd ct X W (.Attribute x f pos) (dAttr G da f) :=
  Snd.ofV hK (pe_at ha.b hb fun σ H Q h => opnd1_rd (fun H => hdV ct.K H) h fun v F H M s dx rl hv p => by
    unfold attrP at p
    split at p
    · rename_i c fs
      rcases hv with hv | ⟨_, _, _, _, z, _⟩
      · have hv0 := hv
        cases hv with
        | @rcd a C dx _ vs ws _ h1 h2 h3 h4 h5 =>
          exact .inl <| attrR_ok hK hr (hA c) rl hv0 h1 (.inr ⟨rl.same _ _ h2, rl.same _ _ h3⟩) (fun i d q => by
            rw [List.getElem?_map] at q
            obtain ⟨d', q1, q2⟩ := Option.map_eq_some_iff.mp q
            cases q2
            obtain ⟨w, w1, w2⟩ := h5.get q1
            exact ⟨w, h4 i w w1, w2⟩) p
      · cases z
    · rename_i k
      unfold attrO at p
      split at p
      · rename_i c fs h1 h2
        rcases hv with hv | ⟨_, _, _, _, z, _⟩
        · have hv0 := hv
          cases hv with
          | @ref a _ hm =>
            obtain ⟨C, dx, vs, g1, g2, g3, _, _, g4⟩ := obj_at rl.sto h1 h2 hm (.inr rfl)
            exact .inl (attrR_ok hK hr (hA c) rl hv0 g1 g3 g4 p)
        · cases z
      · rename_i c fs h1
        rcases hv with hv | ⟨_, _, _, _, z, _⟩
        · have hv0 := hv
          cases hv with
          | @ref a _ hm =>
            obtain ⟨_, C, dx, vs, g1, g2, g3⟩ := ins_at rl.sto h1 hm
            exact .inr (insR_ok hK hr (hA c) rl hv0 g1 g2 g3 p)
        · cases z
      · exact p.elim
    · exact p.elim) fun _ => rfl
/-! ### self.f = e -/
theorem putS_get {j i : Nat} {v : V} {x : PV} {vs : List (Option V)} {fs : List (Option PV)} (h : ∀ (i : Nat) (d : PV), fs[i]? = some (some d) → ∃ v, vs[i]? = some (some v) ∧ Dn ct.K F M v d) (dn : Dn ct.K F M v x) {d : PV} (e : (putF j x fs)[i]? = some (some d)) :
    ∃ w, (SlX.putS j v vs)[i]? = some (some w) ∧ Dn ct.K F M w d := by
  by_cases hj : i = j
  · subst hj
    unfold putF at e
    rw [List.getElem?_set_self (by simp only [List.length_append, List.length_replicate]; omega)] at e
    cases e
    exact ⟨v, SlX.putS_get _ _ _, dn⟩
  · unfold putF at e
    rw [List.getElem?_set_ne (Ne.symm hj)] at e
    by_cases hl : i < fs.length
    · rw [List.getElem?_append_left hl] at e
      obtain ⟨w, w1, w2⟩ := h i d e
      exact ⟨w, (SlX.putS_ne hj).mpr w1, w2⟩
    · rw [List.getElem?_append_right (by omega), List.getElem?_replicate] at e
      split at e <;> cases e
theorem putF_ne {j : Nat} {x : PV} {fs : List (Option PV)} : putF j x fs ≠ [] := fun z => by
  have : (putF j x fs).length = 0 := by rw [z]; rfl
  unfold putF at this
  simp only [List.length_set, List.length_append, List.length_replicate] at this
  omega
theorem Rl.setAt {k j : Nat} {a C dx : Addr} {c : Str} {fs : List (Option PV)} {vs : List (Option V)} {b : Bool} {v : V} {x : PV} (rl : Rl ct.K F H M σ s) (h1 : s.sto[k]? = some (.obj c fs)) (h2 : s.sto[k + 1]? = some (.aux b)) (ha : M[k]? = some a) (hd : M[k + 1]? = some dx)
    (hc : PySem.W.nsIn ct.K mainGlobals c = some (some (.ref C))) (fa : F a = none) (fd : F dx = none) (hf : ∀ (i : Nat) (d : PV), fs[i]? = some (some d) → ∃ v, vs[i]? = some (some v) ∧ Dn ct.K F M v d) (dn : Dn ct.K F M v x) :
    Ext (Own σ s.loc) F H M F (SlX.slH H a C dx (SlX.putS j v vs)) M (Own σ s.loc) ∧ Rl ct.K F (SlX.slH H a C dx (SlX.putS j v vs)) M σ { s with sto := (s.sto.set k (.obj c (putF j x fs))).set (k + 1) (.aux true) } := by
  have ma : a ∈ M := List.mem_of_getElem? ha
  have md : dx ∈ M := List.mem_of_getElem? hd
  have ne : dx ≠ a := fun z => by
    rw [z] at hd
    have := M_inj rl.sto hd ha
    omega
  have out : ∀ q, q ∉ M → SlX.slH H a C dx (SlX.putS j v vs) q = H q := fun q hq => SlX.slH_ne (fun z => hq (by rw [z]; exact ma)) (fun z => hq (by rw [z]; exact md))
  have la : k < s.sto.length := (List.getElem?_eq_some_iff.mp h1).1
  have lb : k + 1 < s.sto.length := (List.getElem?_eq_some_iff.mp h2).1
  have atA : SlX.slH H a C dx (SlX.putS j v vs) a = some (SlX.SlO a C dx (SlX.putS j v vs)) := upd_same
  have atD : SlX.slH H a C dx (SlX.putS j v vs) dx = some (.xd []) := by unfold SlX.slH; rw [upd_ne ne, upd_same]
  refine ⟨⟨Same.refl _, fun p o q1 q2 _ => by rw [out p q2]; exact q1, fun p o q => ?_, fun _ _ h => .inl h, List.prefix_refl _, fun _ h => .inl h, fun _ h => .inl h⟩, ⟨?_, rl.len, fun i o e => ?_, rl.inj, ⟨by simpa using rl.sto.len, rl.sto.nd, fun i so q e1 e2 => ?_⟩⟩⟩
  · by_cases z1 : p = a
    · subst z1; exact ⟨_, atA⟩
    · by_cases z2 : p = dx
      · subst z2; exact ⟨_, atD⟩
      · rw [SlX.slH_ne z1 z2]; exact ⟨o, q⟩
  · intro p o q
    have z1 : p ≠ a := fun z => by rw [z, fa] at q; cases q
    have z2 : p ≠ dx := fun z => by rw [z, fd] at q; cases q
    rw [SlX.slH_ne z1 z2]
    exact rl.same p o q
  · have q := rl.slot i o e
    cases o with
    | none => trivial
    | some sv =>
      cases sv with
      | val d => exact q
      | own xs =>
        obtain ⟨q, us, e1, e2, e3, e4, e5⟩ := q
        exact ⟨q, us, e1, e2, by rw [out q e5]; exact e3, e4, e5⟩
  · have e1 : ((s.sto.set k (.obj c (putF j x fs))).set (k + 1) (.aux true))[i]? = some so := e1
    by_cases z2 : k + 1 = i
    · subst z2
      rw [List.getElem?_set_self (by simpa using lb)] at e1
      cases e1
      rw [hd] at e2
      cases e2
      exact ⟨fd, _, atD, fun _ => rfl⟩
    · rw [List.getElem?_set_ne z2] at e1
      by_cases z1 : k = i
      · subst z1
        rw [List.getElem?_set_self la] at e1
        cases e1
        rw [ha] at e2
        cases e2
        exact ⟨fa, C, dx, _, hc, ⟨k, ha, hd⟩, .inr ⟨putF_ne, atA⟩, fun i d e => putS_get hf dn e⟩
      · rw [List.getElem?_set_ne z1] at e1
        have z := rl.sto.ok i so q e1 e2
        refine z.mono (Same.refl _) (List.prefix_refl _) z.some.1 (SlX.slH_ne (fun y => ?_) fun y => ?_)
        · subst y; exact z1 (M_inj rl.sto ha e2)
        · subst y; exact z2 (M_inj rl.sto hd e2)
/-- a field stored -/
theorem Rl.setIns {k : Nat} {f : Str} {a C dx : Addr} {c : Str} {fs : List (Str × PV)} {vs : List (Str × V)} {v : V} {x : PV} (rl : Rl ct.K F H M σ s) (h1 : s.sto[k]? = some (.ins c fs)) (ha : M[k]? = some a)
    (hc : PySem.W.nsIn ct.K mainGlobals c = some (some (.ref C))) (fa : F a = none) (hH : H a = some (.ins C dx vs)) (hf : Flds ct.K F M vs fs) (dn : Dn ct.K F M v x) :
    Ext (Own σ s.loc) F H M F (upd H a (.ins C dx (L2.putF f v vs))) M (Own σ s.loc) ∧ Rl ct.K F (upd H a (.ins C dx (L2.putF f v vs))) M σ { s with sto := s.sto.set k (.ins c (putI f x fs)) } := by
  have ma : a ∈ M := List.mem_of_getElem? ha
  have la : k < s.sto.length := (List.getElem?_eq_some_iff.mp h1).1
  refine ⟨⟨Same.refl _, fun p o q1 q2 _ => by rw [upd_ne (fun z => q2 (by rw [z]; exact ma))]; exact q1, fun p o q => ?_, fun _ _ h => .inl h, List.prefix_refl _, fun _ h => .inl h, fun _ h => .inl h⟩, ⟨same_mut rl.same fa, rl.len, fun i o e => ?_, rl.inj, ⟨by simpa using rl.sto.len, rl.sto.nd, fun i so q e1 e2 => ?_⟩⟩⟩
  · by_cases z : p = a
    · subst z; exact ⟨_, upd_same⟩
    · exact ⟨o, by rw [upd_ne z]; exact q⟩
  · have q := rl.slot i o e
    cases o with
    | none => trivial
    | some sv =>
      cases sv with
      | val d => exact q
      | own xs =>
        obtain ⟨q, us, e1, e2, e3, e4, e5⟩ := q
        exact ⟨q, us, e1, e2, by rw [upd_ne (fun z => e5 (by rw [z]; exact ma))]; exact e3, e4, e5⟩
  · have e1 : (s.sto.set k (.ins c (putI f x fs)))[i]? = some so := e1
    by_cases z1 : k = i
    · subst z1
      rw [List.getElem?_set_self la] at e1
      cases e1
      rw [ha] at e2
      cases e2
      exact ⟨fa, C, dx, _, hc, upd_same, hf.put dn⟩
    · rw [List.getElem?_set_ne z1] at e1
      have z := rl.sto.ok i so q e1 e2
      exact z.mono (Same.refl _) (List.prefix_refl _) z.some.1 (upd_ne fun y => z1 (by subst y; exact M_inj rl.sto ha e2))
/-- o.f = e, a slot or a field -/
theorem ps_at {o value : Expr} {to tv : TE} {t : TS} {f : Str} {pos' : Pos} (ho : PE X o to) (hv : PE X value tv) (hs : swapsWith value (some (.Attribute o f pos')) pos.line X.env = pure false)
    (h : ∀ D σ H, t D σ H → tv σ H fun y H1 => to σ H1 fun x H2 => (∃ (a C dx p : Addr) (vs : List (Option V)) (i : Nat), x = .ref a ∧ SlX.Slt H2 a C dx vs ∧ SlX.SCls X.K C ∧ SlX.Slot1 X.K C f p i ∧ D.nx σ (SlX.slH H2 a C dx (SlX.putS i y vs))) ∨
      ∃ (a C dx : Addr) (fs : List (Str × V)), x = .ref a ∧ H2 a = some (.ins C dx fs) ∧ Cls X.K C ∧ NoAttr X.K C f ∧ fs.length < 1000 ∧ D.nx σ (upd H2 a (.ins C dx (L2.putF f y fs)))) : PS X (.Assign [.Attribute o f pos'] value pos) t := by
  refine ⟨fun pins sh σ H D I q => ?_⟩
  refine plainObj_wpAny_Assign_Attribute (thn (hv.run pins sh σ H _ I (h D σ H q)) fun u s1 ⟨y, H1, I1, ry, q1⟩ => thn (ho.run pins s1 σ H1 _ I1 q1) fun ov s2 ⟨x, H2, I2, rx, alt⟩ => ?_) hs
  rcases alt with ⟨a, C, dx, p, vs, i, ex, k1, k2, k3, k4⟩ | ⟨a, C, dx, fs, ex, k1, k2, k3, k4, k5⟩
  · subst ex
    obtain rfl : ov = Value.ref a := rx
    exact SlX.setslot_ok I2 k1 k2 k3 ry fun s3 I3 => ⟨σ, _, I3, k4⟩
  · subst ex
    obtain rfl : ov = Value.ref a := rx
    exact setattr_ok I2 k1 k2 k3 k4 ry fun s3 I3 => ⟨σ, _, I3, k5⟩
theorem st_setAt {n : Nat} {G : En} {i : Nat} {nm f : Str} {pn ps : Pos} (hK : X.K = ct.K) (hA : ∀ c at_, G.ca c f = some at_ → AtOk ct X n G.cl c f at_) (hx : PE X (.Name nm pn) (tVar i)) (ha : Snd ct X W x da)
    (hs : swapsWith x (some (.Attribute (.Name nm pn) f ps)) pos.line X.env = pure false) : PS X (.Assign [.Attribute (.Name nm pn) f ps] x pos) (tEx ct W (sSetAt G i f da)) :=
  ps_at hx ha.v hs fun D σ H h => fzS_rd h fun v a F H M s rl d p => by
    unfold PI.setAt at p
    split at p
    · rename_i k hk
      unfold setFld at p
      split at p
      · rename_i c fs b h1 h2
        cases e : G.ca c f with
        | none => rw [e] at p; exact p.elim
        | some at_ =>
          rw [e] at p
          obtain ⟨C', q1, q2, q3⟩ := hA c at_ e
          cases at_ with
          | prop g => exact p.elim
          | meth g _ => exact p.elim
          | neO => exact p.elim
          | isi => exact p.elim
          | fld => exact p.elim
          | propI g => exact p.elim
          | methI g _ => exact p.elim
          | slot j =>
            obtain ⟨p0, hsl⟩ := q3
            obtain ⟨w, w1, w2⟩ := rl.slot i _ hk
            cases w2 with
            | @ref aa _ hm =>
              have p : PstS ct W D σ F H M s (if !(fs.isEmpty || b) then .stuck else .ok .next { s with sto := (s.sto.set k (.obj c (putF j a.pv fs))).set (k + 1) (.aux true) }) := p
              by_cases hfb : (!(fs.isEmpty || b)) = true
              · rw [if_pos hfb] at p; exact p.elim
              · rw [if_neg hfb] at p
                have hfb' : fs = [] ∨ b = true := by
                  cases b with
                  | true => exact .inr rfl
                  | false =>
                    cases fs with
                    | nil => exact .inl rfl
                    | cons z zs => exact absurd rfl hfb
                obtain ⟨C, dx, vs, g1, g2, g3, g4, g5, g6⟩ := obj_at rl.sto h1 h2 hm hfb'
                rw [g1] at q1
                cases q1
                obtain ⟨ex, rl2⟩ := rl.setAt (j := j) h1 h2 hm g2 g1 g4 g5 g6 d
                exact ⟨_, w1, .inl ⟨aa, _, dx, p0, vs, j, rfl, g3, by rw [hK]; exact q2, by rw [hK]; exact hsl, p σ F _ M ex rl2⟩⟩
      · rename_i c fs h1
        cases e : G.ca c f with
        | none => rw [e] at p; exact p.elim
        | some at_ =>
          rw [e] at p
          obtain ⟨C', q1, q2, q3⟩ := hA c at_ e
          cases at_ with
          | prop g => exact p.elim
          | meth g _ => exact p.elim
          | neO => exact p.elim
          | isi => exact p.elim
          | slot _ => exact p.elim
          | propI g => exact p.elim
          | methI g _ => exact p.elim
          | fld =>
            obtain ⟨w, w1, w2⟩ := rl.slot i _ hk
            cases w2 with
            | @ref aa _ hm =>
              have p : PstS ct W D σ F H M s (if fs.length < 1000 then .ok .next { s with sto := s.sto.set k (.ins c (putI f a.pv fs)) } else .stuck) := p
              by_cases hfl : fs.length < 1000
              · rw [if_pos hfl] at p
                obtain ⟨g1, C, dx, vs, g2, g3, g4⟩ := ins_at rl.sto h1 hm
                rw [g2] at q1
                cases q1
                obtain ⟨ex, rl2⟩ := rl.setIns (f := f) h1 hm g2 g1 g3 g4 d
                exact ⟨_, w1, .inr ⟨aa, _, dx, vs, rfl, g3, by rw [hK]; exact q2, by rw [hK]; exact q3, by rw [g4.length]; exact hfl, p σ F _ M ex rl2⟩⟩
              · rw [if_neg hfl] at p; exact p.elim
      · exact p.elim
    · exact p.elim
/-! ### len(x) -/
def rLenX (ct : Ct) (W : WX) (G : En) : List V → Hp → VK → Prop := fun vs H Q => ∃ σ F M s v d, vs = [v] ∧ Rl ct.K F H M σ s ∧ DnO ct.K F H M v d ∧ Pst ct W (DrV ct.K) σ F H M s Q (lenP G d s)
theorem lenX_ok {n : Nat} {G : En} (hK : X.K = ct.K) (hc : X.calm = true) (hu : X.A.units + 64 < cLine) (hr : Room (n + 1) X.A) (hA : ∀ c at_, G.ca c "__len__" = some at_ → AtOk ct X n G.cl c "__len__" at_) : CallR X (.builtin "len") (rLenX ct W G) := by
  intro pins sh σ H vs us Q I r ⟨σ', F, M, s, v, d, ev, rl, hd, p⟩
  subst ev
  have plain : (∀ c fs, d ≠ .rcd c fs) → wpAny (model X.prog X.w) X.A (call (.builtin "len") us) (EP X pins σ Q) X.xe sh := fun hn => by
    have p' : Pst ct W (DrV ct.K) σ' F H M s Q (liftO (primP .len [d]) s) := by
      cases d with
      | rcd c fs => exact (hn c fs rfl).elim
      | _ => exact p
    exact prim_ok (W := W) hK hc hu .len rfl pins sh σ H [v] us Q I r ⟨σ', F, M, s, [d], rl, ⟨hd, trivial⟩, p'⟩
  cases d with
  | rcd c fs =>
    rcases hd with hd | ⟨_, _, _, _, z, _⟩
    · have hd0 := hd
      cases hd with
      | @rcd a C dx _ vs ws _ h1 h2 h3 h4 h5 =>
        obtain ⟨u, rfl, ru⟩ := r.one
        cases (show u = Value.ref a from ru)
        have p : Pst ct W (DrV ct.K) σ' F H M s Q (match G.ca c "__len__" with
          | some (.meth g 1) => lenK (G.cl g [.rcd c fs] s.sto) s
          | _ => .stuck) := p
        cases e : G.ca c "__len__" with
        | none => rw [e] at p; exact p.elim
        | some at_ =>
          rw [e] at p
          obtain ⟨C', q1, q2, q3⟩ := hA c at_ e
          rw [h1] at q1
          cases q1
          cases at_ with
          | slot i => exact p.elim
          | prop g => exact p.elim
          | neO => exact p.elim
          | isi => exact p.elim
          | fld => exact p.elim
          | propI g => exact p.elim
          | methI g _ => exact p.elim
          | meth g ar =>
            obtain ⟨gf, fd, ps, k1, k2, k3⟩ := q3
            by_cases har : ar = 1
            · subst har
              have p : Pst ct W (DrV ct.K) σ' F H M s Q (lenK (G.cl g [.rcd c fs] s.sto) s) := p
              obtain ⟨sl, od, _, J, _⟩ := SlX.slt_inst I (show SlX.Slt H a C dx vs from .inr ⟨rl.same _ _ h2, rl.same _ _ h3⟩)
              obtain ⟨m, hF⟩ := I.fr
              have e0 := I.env0.in1
              cases el : G.cl g [.rcd c fs] s.sto with
              | stuck => rw [el] at p; exact p.elim
              | exc c fs st => rw [el] at p; exact p.elim
              | ok x st =>
                rw [el] at p
                cases x with
                | own xs => exact p.elim
                | val dv =>
                  cases dv with
                  | int i =>
                    have p : Pst ct W (DrV ct.K) σ' F H M s Q (if 0 ≤ i ∧ i < 2 ^ 63 then .ok (.val (.int i)) { s with sto := st } else .stuck) := p
                    by_cases hi : 0 ≤ i ∧ i < 2 ^ 63
                    · rw [if_pos hi] at p
                      have key := SlX.run_at (us := [.ref a]) (ws := [.ref a]) (pins := pins) (σ := σ) (E := Ef) (Q := fun z H' => ∃ i, z = .int i ∧ (0 ≤ i ∧ i < 2 ^ 63) ∧ Q z H') (fnR_of k3 k2) hr.in1 e0 pass_ef I (.cons rfl .nil) (by
                        refine ⟨F, M, s.sto, [.rcd c fs], rl.same, rl.sto, .cons hd0 .nil, rfl, ?_⟩
                        rw [el]
                        intro v F' H' M' ex sm so dr
                        cases dr
                        obtain ⟨a1, a2⟩ := rl.after ex sm so
                        exact ⟨i, rfl, hi, p _ F' H' M' a1 a2 (.int i)⟩)
                      refine PySem.W.len_K hF I.ok.mod.kin J (by rw [hK]; exact k1.at_) (by rw [hK]; exact k1.fn) (wpAny_mono (PySem.wpAny_call key) (fun w s' z => ?_) fun _ _ y => y)
                      obtain ⟨z', H', I', rz, i', ei, hi', qz⟩ := z
                      subst ei
                      obtain ⟨t, et⟩ := (show ∃ t, w = Value.int i' t from rz)
                      subst et
                      exact ⟨hi', .int i', H', I'.tok _, ⟨_, rfl⟩, qz⟩
                    · rw [if_neg hi] at p; exact p.elim
                  | _ => exact p.elim
            · have : (match some (At.meth g ar) with
                | some (.meth g 1) => lenK (G.cl g [.rcd c fs] s.sto) s
                | _ => .stuck) = .stuck := by
                split
                · rename_i z; cases z; exact (har rfl).elim
                · rfl
              rw [this] at p
              exact p.elim
    · cases z
  | _ => exact plain fun _ _ z => by cases z
theorem snd_lenX {n : Nat} {G : En} {pn : Pos} (hK : X.K = ct.K) (hc : X.calm = true) (hu : X.A.units + 64 < cLine) (hr : Room (n + 1) X.A) (hA : ∀ c at_, G.ca c "__len__" = some at_ → AtOk ct X n G.cl c "__len__" at_) (hg : Gl X "len") (hm : X.mg "len" = none) (ha : Snd ct X W x da) (hs : noStar x = true) :
    Snd ct X W (.Call (.Name "len" pn) [x] [] pos) (dLenX G da) := by
  have key : PE X (.Call (.Name "len" pn) [x] [] pos) (tCB (rLenX ct W G) (tCons (tBo ct W (da.b true)) tNil)) :=
    pe_callB (lenX_ok hK hc hu hr hA) hg hm (pm_boot .len) (pa_cons ha.b pa_nil (starEach_cons _ X.env hs)) (pm_ok .len).1 (pm_ok .len).2 (starEach_cons _ X.env hs) rfl
  exact Snd.ofV hK (PE.imp key fun σ H Q h => opnd1_rd (fun H => hdV ct.K H) h fun v F H M s dx rl hv p => ⟨σ, F, M, s, v, dx, rfl, rl, hv, p⟩) fun _ => rfl
/-! ### C(e, ..) -/
theorem allSome_get {vs : List (Option V)} : ∀ {fs : List (Option PV)} {xs : List PV} (n : Nat), allSome fs = some xs → (∀ (i : Nat) (d : PV), fs[i]? = some (some d) → ∃ v, vs[n + i]? = some (some v) ∧ Dn ct.K F M v d) →
    ∃ ws : List V, Dns ct.K F M ws xs ∧ ∀ (i : Nat) (w : V), ws[i]? = some w → vs[n + i]? = some (some w)
  | [], xs, n, e, h => by
    cases e
    exact ⟨[], .nil, fun i w q => by simp at q⟩
  | none :: fs, xs, n, e, h => by cases e
  | some x :: fs, xs, n, e, h => by
    have e : (allSome fs).map (x :: ·) = some xs := e
    obtain ⟨ys, e1, rfl⟩ := Option.map_eq_some_iff.mp e
    obtain ⟨v, v1, v2⟩ := h 0 x rfl
    obtain ⟨ws, w1, w2⟩ := allSome_get (vs := vs) (fs := fs) (n + 1) e1 fun i d q => by
      obtain ⟨u, u1, u2⟩ := h (i + 1) d (by simpa using q)
      exact ⟨u, by rw [show n + 1 + i = n + (i + 1) by omega]; exact u1, u2⟩
    refine ⟨v :: ws, .cons v2 w1, fun i w q => ?_⟩
    cases i with
    | zero =>
      have q : some v = some w := q
      cases q
      exact v1
    | succ i =>
      have := w2 i w (by simpa using q)
      rw [show n + (i + 1) = n + 1 + i by omega]
      exact this
theorem pre_two {x dx : Addr} {M' : List Addr} (p : [x, dx] <+: M') (l : M'.length = 2) : M' = [x, dx] := by
  obtain ⟨r, rfl⟩ := p
  have : r = [] := by
    cases r with
    | nil => rfl
    | cons a b => simp at l
  rw [this]; rfl
/-- what a call leaves that knew of two new objects alone -/
theorem Rl.framed {x dx : Addr} {o1 o2 : HO} {F' H' : Hp} {M' : List Addr} (rl : Rl ct.K F H M σ s) (nx : H x = none) (nd : H dx = none) (e : Ext O0 F (upd (upd H dx o2) x o1) [x, dx] F' H' M' O0) (hM : M' = [x, dx]) (sm : Same F' H')
    {u1 u2 : HO} (fx : F' x = none) (fd : F' dx = none) (h1 : H' x = some u1) (h2 : H' dx = some u2) (hne : dx ≠ x) :
    ExtE (Own σ s.loc) F H M (upd (upd F' dx u2) x u1) H' M (Own σ s.loc) ∧ Rl ct.K (upd (upd F' dx u2) x u1) H' M σ s := by
  have old : ∀ p o, H p = some o → p ≠ x ∧ p ≠ dx := fun p o q => ⟨ne_of_none q nx, ne_of_none q nd⟩
  have kp : ∀ p o, H p = some o → H' p = some o := fun p o q => by
    obtain ⟨z1, z2⟩ := old p o q
    exact e.keep p o (by rw [upd_ne z1, upd_ne z2]; exact q) (by simp [z1, z2]) id
  have fn : ∀ p o, H p = some o → F p = none → upd (upd F' dx u2) x u1 p = none := fun p o q z => by
    obtain ⟨z1, z2⟩ := old p o q
    rw [upd_ne z1, upd_ne z2]
    cases w : F' p with
    | none => rfl
    | some o' =>
      rcases e.newF p o' w with h | h | h
      · rw [z] at h; cases h
      · rw [upd_ne z1, upd_ne z2, q] at h; cases h
      · exact h.elim
  have fs : Same F (upd (upd F' dx u2) x u1) := fun p o q => by
    have q' := rl.same p o q
    obtain ⟨z1, z2⟩ := old p o q'
    rw [upd_ne z1, upd_ne z2]
    exact e.fs p o q
  have sm2 : Same (upd (upd F' dx u2) x u1) H' := fun p o q => by
    by_cases z1 : p = x
    · subst z1; rw [upd_same] at q; cases q; exact h1
    · rw [upd_ne z1] at q
      by_cases z2 : p = dx
      · subst z2; rw [upd_same] at q; cases q; exact h2
      · rw [upd_ne z2] at q; exact sm p o q
  refine ⟨⟨⟨fs, fun p o q _ _ => kp p o q, fun p o q => ⟨o, kp p o q⟩, fun p o q => ?_, List.prefix_refl _, fun _ h => .inl h, fun _ h => .inl h⟩, fun _ h => h⟩, ⟨sm2, rl.len, fun i o q => ?_, rl.inj, ⟨rl.sto.len, rl.sto.nd, fun k so a q1 q2 => ?_⟩⟩⟩
  · by_cases z1 : p = x
    · subst z1; exact .inr (.inl nx)
    · rw [upd_ne z1] at q
      by_cases z2 : p = dx
      · subst z2; exact .inr (.inl nd)
      · rw [upd_ne z2] at q
        rcases e.newF p o q with h | h | h
        · exact .inl h
        · rw [upd_ne z1, upd_ne z2] at h; exact .inr (.inl h)
        · exact h.elim
  · have z := rl.slot i o q
    cases o with
    | none => trivial
    | some sv =>
      cases sv with
      | val d =>
        obtain ⟨w, w1, w2⟩ := z
        exact ⟨w, w1, w2.mono fs (List.prefix_refl _)⟩
      | own xs =>
        obtain ⟨p, us, w1, w2, w3, w4, w5⟩ := z
        exact ⟨p, us, w1, fn p _ w3 w2, kp p _ w3, w4.mono fs (List.prefix_refl _), w5⟩
  · have z := rl.sto.ok k so a q1 q2
    obtain ⟨z1, o2, z2⟩ := z.some
    exact z.mono fs (List.prefix_refl _) (fn a _ z2 z1) (by rw [z2]; exact kp a _ z2)
structure MkOk (ct : Ct) (X : Cx) (c : Str) : Prop where
  mg : ∃ C f, PySem.W.nsIn ct.K mainGlobals c = some (some (.ref C)) ∧ X.mg c = some (.ref C) ∧ Mk ct.K C f
  db : (c == ("__debug__" : Str)) = false
theorem snd_mkR {n : Nat} {G : En} {c g : Str} {ar : Nat} {pn : Pos} {es : List Expr} {ds : List Den} (hK : X.K = ct.K) (hr : Room (n + 1) X.A) (hC : MkOk ct X c) (hI : G.ca c "__init__" = some (.meth g ar)) (hA : AtOk ct X n G.cl c "__init__" (.meth g ar)) (hg : Gl X c)
    (ha : PA X (x :: es) (tBsR ct W (Den.bs false ds))) (hs : (x :: es).all noStar = true) : Snd ct X W (.Call (.Name c pn) (x :: es) [] pos) (dMkR G c ds) := by
  have hs' : noStar x = true ∧ es.all noStar = true := by rw [List.all_cons, Bool.and_eq_true] at hs; exact hs
  obtain ⟨⟨C, f, c1, c2, c3⟩, hdb⟩ := hC
  obtain ⟨C', q1, q2, gf, fd, ps, k1, k2, k3⟩ := hA
  rw [c1] at q1
  cases q1
  have ef : gf = f := by
    have h1 := c3.init
    rw [k1.at_] at h1
    exact Value.ref.inj (Option.some.inj (Option.some.inj h1))
  subst ef
  refine Snd.ofV hK (PE.imp (pe_make (E := Ef) (by rw [hK]; exact c3) k3 hr hg c2 k2 .nil pass_ef ha hdb (starEach_cons es X.env hs'.1) (starEach_any hs'.2)) fun σ H Q h => opndsF_rd (fun H => hdV ct.K H) h fun vs F H M s es rl d le p => ?_) fun _ => rfl
  intro x dx nx nd hne
  rw [List.append_nil]
  unfold mkP at p
  rw [hI] at p
  have p : Pst ct W (DrV ct.K) σ F H M s Q (if ar = es.length + 1 ∧ noRefs es = true then mkK c (G.cl g (.ref 0 :: es) [.obj c [], .aux false]) s else .stuck) := p
  by_cases hcnd : ar = es.length + 1 ∧ noRefs es = true
  · rw [if_pos hcnd] at p
    obtain ⟨har, hno⟩ := hcnd
    have fx := rl.same.free nx
    have fdx := rl.same.free nd
    refine ⟨F, [x, dx], [.obj c [], .aux false], .ref 0 :: es, fun p o q => ?_, ⟨rfl, ?_, fun k so a q1 q2 => ?_⟩, .cons (.ref rfl) (d.noM hno), by rw [har]; rfl, ?_⟩
    · have z1 : p ≠ x := fun z => by rw [z, fx] at q; cases q
      have z2 : p ≠ dx := fun z => by rw [z, fdx] at q; cases q
      rw [upd_ne z1, upd_ne z2]
      exact rl.same p o q
    · simp [Ne.symm hne]
    · match k, q1, q2 with
      | 0, q1, q2 =>
        cases q1
        cases q2
        exact ⟨fx, C, dx, [], c1, ⟨0, rfl, rfl⟩, .inl ⟨rfl, rfl, upd_same⟩, fun i d q => by simp at q⟩
      | 1, q1, q2 =>
        cases q1
        cases q2
        exact ⟨fdx, .own x, by rw [upd_ne hne, upd_same], fun z => by cases z⟩
      | k + 2, q1, q2 => simp at q1
    · cases el : G.cl g (.ref 0 :: es) [.obj c [], .aux false] with
      | stuck => rw [el] at p; exact p.elim
      | exc a b st => rw [el] at p; exact p.elim
      | ok v st =>
        rw [el] at p
        unfold mkK at p
        split at p
        · rename_i c' fs heq
          cases heq
          split at p
          · rename_i ec
            subst ec
            split at p
            · rename_i y ys hall
              split at p
              · rename_i hno2
                intro w F' H' M' ex sm so dr
                cases dr
                refine ⟨rfl, ?_⟩
                have eM := pre_two ex.pre so.len
                subst eM
                obtain ⟨g1, C2, dx2, us, g2, ⟨k', g3, g4⟩, g5, g6⟩ := so.ok 0 _ x rfl rfl
                rw [c1] at g2
                cases g2
                have ek : k' = 0 := by
                  obtain ⟨l1, z1⟩ := List.getElem?_eq_some_iff.mp g3
                  exact (List.getElem_inj so.nd (h₁ := by simp)).mp (by rw [z1]; rfl)
                subst ek
                have ed : dx = dx2 := Option.some.inj g4
                subst ed
                obtain ⟨f2, o, z1, z2⟩ := so.ok 1 _ dx rfl rfl
                rw [z2 rfl] at z1
                rcases g5 with ⟨w1, _⟩ | ⟨_, w3⟩
                · subst w1; cases hall
                · obtain ⟨ea, eb⟩ := rl.framed nx nd ex rfl sm g1 f2 w3 z1 hne
                  obtain ⟨ws, w4, w5⟩ := allSome_get (vs := us) 0 hall fun i d q => by rw [Nat.zero_add]; exact g6 i d q
                  have sm3 : Same F' (upd (upd F' dx (.xd [])) x (SlX.SlO x C dx us)) := fun p o q => by
                    have y1 : p ≠ x := fun z => by rw [z, g1] at q; cases q
                    have y2 : p ≠ dx := fun z => by rw [z, f2] at q; cases q
                    rw [upd_ne y1, upd_ne y2]; exact q
                  exact p _ _ H' M ea eb (.rcd c1 upd_same (by rw [upd_ne hne, upd_same]) (fun i w q => by have := w5 i w q; rwa [Nat.zero_add] at this) ((w4.noM hno2).mono sm3 (List.prefix_refl _)))
              · exact p.elim
            · exact p.elim
          · exact p.elim
        · exact p.elim
  · rw [if_neg hcnd] at p; exact p.elim
/-! ### several values at once, lists of their own kept so -/
def newAt : V → SV → List Addr
  | .ref p, .own _ => [p]
  | _, _ => []
def DnRs (K : PySem.W.Frag) (F H : Hp) (M : List Addr) (H0 : Hp) : List V → List SV → Prop
  | [], [] => True
  | v :: vs, a :: as => DnR K F H M H0 v a ∧ DnRs K F H M H0 vs as
  | _, _ => False
def news : List V → List SV → List Addr
  | v :: vs, a :: as => newAt v a ++ news vs as
  | _, _ => []
abbrev DrVs (K : PySem.W.Frag) : Hp → Hp → List Addr → Hp → List V → List SV → Prop := fun F H M H0 vs as => DnRs K F H M H0 vs as ∧ (news vs as).Nodup
def tVs (ct : Ct) (W : WX) (f : Ps → R (List SV)) : TA := fun σ H Q => ∃ F M s, Rl ct.K F H M σ s ∧ Pst ct W (DrVs ct.K) σ F H M s Q (f s)
theorem newAt_of {H0 : Hp} {v : V} {a : SV} (d : DnR ct.K F H M H0 v a) {p : Addr} (hp : p ∈ newAt v a) : H0 p = none ∧ ∃ o, H p = some o := by
  cases a with
  | val d' => cases v <;> cases hp
  | own xs =>
    obtain ⟨q, us, rfl, e2, e3, e4, e5, e6⟩ := d
    have : p = q := by simpa [newAt] using hp
    subst this
    exact ⟨e6, _, e3⟩
theorem news_of {H0 : Hp} : ∀ {vs : List V} {as : List SV}, DnRs ct.K F H M H0 vs as → ∀ {p : Addr}, p ∈ news vs as → H0 p = none
  | [], [], _, p, hp => by cases hp
  | v :: vs, a :: as, d, p, hp => by
    rcases List.mem_append.mp hp with h | h
    · exact (newAt_of d.1 h).1
    · exact news_of d.2 h
  | [], _ :: _, d, _, _ => d.elim
  | _ :: _, [], d, _, _ => d.elim
theorem DnRs.up {H0 H1 : Hp} (h : ∀ p, H1 p = none → H0 p = none) : ∀ {vs : List V} {as : List SV}, DnRs ct.K F H M H1 vs as → DnRs ct.K F H M H0 vs as
  | [], [], _ => trivial
  | v :: vs, a :: as, d => ⟨hdV ct.K H0 H1 F H M v a h d.1, DnRs.up h d.2⟩
  | [], _ :: _, d => d.elim
  | _ :: _, [], d => d.elim
theorem pa_nilV : PA X [] (tVs ct W (vsR [])) := PA.imp pa_nil fun σ H Q ⟨F, M, s, rl, p⟩ => Pst.fin rl p ⟨trivial, List.nodup_nil⟩
theorem pa_consV {es : List Expr} {ds : List Den} (ha : Snd ct X W x da) (hr : PA X es (tVs ct W (vsR ds))) (hs : noStar x = true) : PA X (x :: es) (tVs ct W (vsR (da :: ds))) := by
  refine PA.imp (pa_cons ha.v hr (starEach_cons es X.env hs)) fun σ H Q ⟨F, M, s, rl, p⟩ => ?_
  have p : Pst ct W (DrVs ct.K) σ F H M s Q ((da.v s).bind fun x s1 => (vsR ds s1).bind fun xs s2 => .ok (x :: xs) s2) := p
  refine ⟨F, M, s, rl, ?_⟩
  cases e : da.v s with
  | stuck => rw [e] at p; exact p
  | exc c fs s' => rw [e] at p; exact p
  | ok a s1 =>
    rw [e] at p
    have p : Pst ct W (DrVs ct.K) σ F H M s Q ((vsR ds s1).bind fun xs s2 => .ok (a :: xs) s2) := p
    intro v F1 H1 M1 ex1 rl1 d1
    refine ⟨F1, M1, s1, rl1, ?_⟩
    cases e2 : vsR ds s1 with
    | stuck => rw [e2] at p; exact p
    | exc c fs s' => rw [e2] at p; exact fun cls d F' H' M' x rl q => p cls d F' H' M' (ex1.trans x) rl q
    | ok as s2 =>
      rw [e2] at p
      have p : Pst ct W (DrVs ct.K) σ F H M s Q (.ok (a :: as) s2) := p
      intro vs F2 H2 M2 ex2 rl2 d2
      refine p (v :: vs) F2 H2 M2 (ex1.trans ex2) rl2 ⟨⟨d1.keep rl ex1.shr ex2, d2.1.up fun _ => ex1.x.none_back⟩, ?_⟩
      show (newAt v a ++ news vs as).Nodup
      rw [List.nodup_append]
      refine ⟨?_, d2.2, fun q hq r hr z => ?_⟩
      · cases v <;> cases a <;> simp [newAt]
      · subst z
        obtain ⟨_, o, ho⟩ := newAt_of d1 hq
        rw [news_of d2.1 hr] at ho
        cases ho
/-- a name gets a value, or a list that no name holds -/
theorem Rl.setFree {v : V} {a : SV} {H0 : Hp} (rl : Rl ct.K F H M σ s) (h : DnR ct.K F H M H0 v a) (ho : ∀ p ∈ newAt v a, ¬ Own σ s.loc p) (i : Nat) :
    Rl ct.K F H M (σ.set i (some v)) { s with loc := s.loc.set i (some a) } ∧ ∀ p, Own (σ.set i (some v)) (s.loc.set i (some a)) p → Own σ s.loc p ∨ p ∈ newAt v a := by
  obtain ⟨H2, h2, g2⟩ : ∃ H2 : Hp, DnR ct.K F H M H2 v a ∧ ∀ p, H2 p = none ↔ p ∈ newAt v a := by
    classical
    refine ⟨fun p => if p ∈ newAt v a then none else some (.own 0), ?_, fun p => ?_⟩
    · cases a with
      | val d => exact h
      | own xs =>
        obtain ⟨q, us, rfl, e2, e3, e4, e5, e6⟩ := h
        exact ⟨q, us, rfl, e2, e3, e4, e5, by simp [newAt]⟩
    · by_cases hp : p ∈ newAt v a
      · simp [hp]
      · simp [hp]
  obtain ⟨r, o⟩ := rl.setNew h2 (fun p z q => ho p ((g2 p).mp q) z) i
  exact ⟨r, fun p z => (o p z).imp_right (g2 p).mp⟩
def setSt : List Nat → List V → L2.St → L2.St
  | i :: is, v :: vs, σ => setSt is vs (σ.set i (some v))
  | _, _, σ => σ
theorem Rl.setAll {H0 : Hp} : ∀ {is : List Nat} {vs : List V} {as : List SV} {σ : L2.St} {s : Ps}, Rl ct.K F H M σ s → DnRs ct.K F H M H0 vs as → (news vs as).Nodup → (∀ p ∈ news vs as, ¬ Own σ s.loc p) → is.length = vs.length →
    Rl ct.K F H M (setSt is vs σ) { s with loc := setMany is as s.loc } ∧ ∀ p, Own (setSt is vs σ) (setMany is as s.loc) p → Own σ s.loc p ∨ p ∈ news vs as
  | [], [], [], σ, s, rl, d, nd, ho, hl => ⟨rl, fun p z => .inl z⟩
  | i :: is, v :: vs, a :: as, σ, s, rl, d, nd, ho, hl => by
    have nd : (newAt v a ++ news vs as).Nodup := nd
    rw [List.nodup_append] at nd
    obtain ⟨r1, o1⟩ := rl.setFree d.1 (fun p hp => ho p (List.mem_append_left _ hp)) i
    obtain ⟨r2, o2⟩ := Rl.setAll (is := is) (vs := vs) (as := as) r1 d.2 nd.2.1 (fun p hp z => by
      rcases o1 p z with h | h
      · exact ho p (List.mem_append_right _ hp) h
      · exact nd.2.2 p h p hp rfl) (by simpa using hl)
    refine ⟨r2, fun p z => ?_⟩
    rcases o2 p z with h | h
    · rcases o1 p h with h | h
      · exact .inl h
      · exact .inr (List.mem_append_left _ h)
    · exact .inr (List.mem_append_right _ h)
  | [], _ :: _, _, _, _, _, _, _, _, hl => by simp at hl
  | _ :: _, [], _, _, _, _, _, _, _, hl => by simp at hl
  | [], [], _ :: _, _, _, _, d, _, _, _ => d.elim
  | _ :: _, _ :: _, [], _, _, _, d, _, _, _ => d.elim
theorem DnRs.length {H0 : Hp} : ∀ {vs : List V} {as : List SV}, DnRs ct.K F H M H0 vs as → vs.length = as.length
  | [], [], _ => rfl
  | v :: vs, a :: as, d => by rw [List.length_cons, List.length_cons, DnRs.length d.2]
  | [], _ :: _, d => d.elim
  | _ :: _, [], d => d.elim
theorem vsR_len : ∀ {ds : List Den} {s s1 : Ps} {as : List SV}, vsR ds s = .ok as s1 → as.length = ds.length
  | [], s, s1, as, e => by cases e; rfl
  | d :: ds, s, s1, as, e => by
    have e : ((d.v s).bind fun x s1 => (vsR ds s1).bind fun xs s2 => .ok (x :: xs) s2) = .ok as s1 := e
    cases e1 : d.v s with
    | stuck => rw [e1] at e; cases e
    | exc c fs s' => rw [e1] at e; cases e
    | ok a s2 =>
      rw [e1] at e
      have e : ((vsR ds s2).bind fun xs s2 => .ok (a :: xs) s2) = .ok as s1 := e
      cases e2 : vsR ds s2 with
      | stuck => rw [e2] at e; cases e
      | exc c fs s' => rw [e2] at e; cases e
      | ok bs s3 =>
        rw [e2] at e
        cases e
        rw [List.length_cons, List.length_cons, vsR_len e2]
theorem parN_rd {is : List Nat} {ds : List Den} {D : Ends} {Kt : List V → Hp → Prop} (h : tEx ct W (sParN is ds) D σ H)
    (hk : ∀ vs H1, vs.length = ds.length → (is.length = vs.length → D.nx (setSt is vs σ) H1) → Kt vs H1) : tVs ct W (vsR ds) σ H Kt := by
  obtain ⟨F, M, s, rl, p⟩ := h
  refine ⟨F, M, s, rl, ?_⟩
  have p : PstS ct W D σ F H M s ((vsR ds s).bind fun xs s1 => .ok .next { s1 with loc := setMany is xs s1.loc }) := p
  cases e : vsR ds s with
  | stuck => rw [e] at p; exact p
  | exc c fs s' => rw [e] at p; exact fun cls d F' H' M' x rl q => p cls d σ F' H' M' x.x rl q
  | ok as s1 =>
    rw [e] at p
    have p : PstS ct W D σ F H M s (.ok .next { s1 with loc := setMany is as s1.loc }) := p
    intro vs F1 H1 M1 ex rl1 d
    refine hk vs H1 (by rw [d.1.length, vsR_len e]) fun hl => ?_
    have nO : ∀ p ∈ news vs as, ¬ Own σ s1.loc p := fun q hq z => by
      obtain ⟨⟨us, hu⟩, _⟩ := rl.own_some (ex.shr q z)
      rw [news_of d.1 hq] at hu
      cases hu
    obtain ⟨r2, o2⟩ := rl1.setAll d.1 d.2 nO hl
    refine p _ F1 H1 M1 ⟨ex.x.fs, ex.x.keep, ex.x.dom, ex.x.newF, ex.x.pre, ex.x.newM, fun q z => ?_⟩ r2
    rcases o2 q z with h | h
    · exact .inl (ex.shr q h)
    · exact .inr (news_of d.1 h)
theorem st_par3 {i j l : Nat} {st : Stmt} {d1 d2 d3 : Den} (hp : PS X st (tPar3 i j l (tVs ct W (vsR [d1, d2, d3])))) : PS X st (tEx ct W (sParN [i, j, l] [d1, d2, d3])) :=
  PS.imp hp fun D σ H h => parN_rd h fun vs H1 hl hn => by
    match vs, hl, hn with
    | [u, v, w], _, hn => exact ⟨u, v, w, rfl, hn rfl⟩
end
end PI

set_option Elab.async false
set_option linter.all false
set_option autoImplicit false
set_option maxRecDepth 100000
set_option maxHeartbeats 4000000
/-! Instances with a dict: made, their methods called, their fields changed. -/
namespace PI
open PySem L2
section
variable {ct : Ct} {X : Cx} {W : WX} {x y z : Expr} {pos : Pos} {da db dc : Den}
variable {σ σ1 : L2.St} {F F1 H H1 : Hp} {M M1 : List Addr} {s s1 : Ps}
/-- arguments read: what the store knew stands where it stood -/
theorem opndsM_rd {α β : Type} {Dr : Hp → Hp → List Addr → Hp → β → α → Prop} {Q : β → Hp → Prop} {ds : List Den} {f : List PV → Ps → R α} {Kt : List V → Hp → Prop}
    (hD : ∀ H H1 F' H' M' b a, (∀ p, H1 p = none → H p = none) → Dr F' H' M' H1 b a → Dr F' H' M' H b a)
    (rl : Rl ct.K F H M σ s) (p : Pst ct W Dr σ F H M s Q (opnds false ds f s))
    (hk : ∀ vs F' H' M' s' es, Rl ct.K F' H' M' σ s' → M <+: M' → Dns ct.K F' M' vs es → es.length = ds.length → Pst ct W Dr σ F' H' M' s' Q (f es s') → Kt vs H') :
    tBsR ct W (Den.bs false ds) σ H Kt := by
  refine ⟨F, M, s, rl, ?_⟩
  unfold opnds at p
  cases e : Den.bs false ds s with
  | stuck => rw [e] at p; exact p
  | exc c fs s' => rw [e] at p; exact p
  | ok a s' =>
    rw [e] at p
    intro v F' H' M' ex rl' d
    have p2 : Pst ct W Dr σ F' H' M' s' Q (match derefs s' a with
      | some ds => f ds s'
      | none => .stuck) := Pst.at (F1 := F') (H1 := H') (M1 := M') (s1 := s') ex (fun _ _ _ _ _ => hD _ _ _ _ _ _ _ fun _ => ex.x.none_back) p
    cases q : derefs s' a with
    | none => rw [q] at p2; exact p2.elim
    | some dx =>
      rw [q] at p2
      exact hk v F' H' M' s' dx rl' ex.x.pre (dns_of d (bs_vals e) q) (by rw [derefs_len q, bs_len e]) p2
/-! ### o.m(e, ..) -/
theorem meth_eq {o : Expr} {m : Str} {apos : Pos} {es : List Expr} {env : Env} (hb : attrBase o = true) (hs : es.all noStar = true) (hn : es.length < 29) (hl : (apos.endLine == pos.line) = true) :
    ∃ pl, eval (.Call (.Attribute o m apos) es [] pos) env = (do
      let ov ← eval o env
      standAt apos.atName
      let (f, first) ← holding [ov] (getMethod ov m pl)
      callWith pos f first (backTo pos (starEach es env)) (backToKw pos (keywordEach [] env))) := by
  have hform : methodCallForm (es.length + ([] : List Keyword).length) (backTo pos (starEach es env)) (backToKw pos (keywordEach [] env)) = true := by
    have h1 : (backTo pos (starEach es env)).all (fun x => !x.1) = true := by
      have := starEach_any (env := env) (pos := pos) hs
      rw [List.all_eq_not_any_not]
      simpa using this
    have h2 : decide (es.length + ([] : List Keyword).length + (if (backToKw pos (keywordEach [] env)).isEmpty then 0 else 1) < 30) = true := by
      refine decide_eq_true ?_
      show es.length + 0 + 0 < 30
      omega
    show ((backTo pos (starEach es env)).all (fun x => !x.1) && (backToKw pos (keywordEach [] env)).all (fun x => x.1.isSome) && decide (es.length + ([] : List Keyword).length + (if (backToKw pos (keywordEach [] env)).isEmpty then 0 else 1) < 30)) = true
    rw [h1, h2]
    rfl
  have hpos : methodCallPos true o env apos pos = pure pos := by unfold methodCallPos; simp [hl]
  refine ⟨(do return (← importBound o env).getD true), ?_⟩
  rw [arm_eval_Call, attrBase_ok hb]
  unfold methodCall
  rw [hform, hpos]
  unfold calleeOf
  simp only [if_true, pure_bind]
theorem mcl_rd {n : Nat} {G : En} {k ar : Nat} {g : Str} {a : Addr} {vs : List V} {es : List PV} {Q : VK} (rl : Rl ct.K F H M σ s) (hm : M[k]? = some a) (d : Dns ct.K F M vs es) (p : Pst ct W (DrV ct.K) σ F H M s Q (mclG G k g ar es s)) : spF ct G.cl g ar (.ref a :: vs) H Q (WE W σ) := by
  unfold mclG at p
  by_cases hc : es.length + 1 = ar
  · rw [if_pos hc] at p
    exact call_rd rl (.cons (.ref hm) d) hc p
  · rw [if_neg hc] at p; exact p.elim
theorem snd_mcl {n : Nat} {G : En} {f : Str} {apos : Pos} {es : List Expr} {ds : List Den} (hK : X.K = ct.K) (tk : Takes X W) (hr : Room n X.A) (hA : ∀ c at_, G.ca c f = some at_ → AtOk ct X n G.cl c f at_)
    (ha : Snd ct X W x da) (hb : attrBase x = true) (hes : PA X es (tBsR ct W (Den.bs false ds))) (hs : es.all noStar = true) (hn : es.length < 29) (hl : (apos.endLine == pos.line) = true) (hz : es = [] → ds = []) : Snd ct X W (.Call (.Attribute x f apos) es [] pos) (dMcl G da f ds) := by
  refine Snd.ofV hK ⟨fun pins sh σ H Q I h => ?_⟩ fun _ => rfl
  obtain ⟨pl, ht⟩ := meth_eq (m := f) (env := X.env) hb hs hn hl
  refine PySem.W.methodCall_KW (pl := pl) (thn (ha.v.run pins sh σ H _ I (fz_rd (Kt := fun v H1 => ∃ a F M s, Rl ct.K F H1 M σ s ∧ Dn ct.K F M v a.pv ∧ Pst ct W (DrV ct.K) σ F H1 M s Q (mclK G f ds a s)) (fun H => hdV ct.K H) h fun v a F H M s rl d p => ⟨a, F, M, s, rl, d, p⟩)) fun u s1 ⟨v, H1, I1, rx, a, F, M, s, rl, d, p⟩ => ?_) ht
  unfold mclK at p
  split at p
  · rename_i k
    cases d with
    | @ref aa _ hm =>
      obtain rfl : u = Value.ref aa := rx
      unfold mclO at p
      split at p
      · rename_i c fs h1
        split at p
        · rename_i g ar h2 h3
          obtain ⟨g1, C, dx, vs, g2, g3, g4⟩ := ins_at rl.sto h1 hm
          obtain ⟨C', q1, q2, gf, fd, ps, q3, q4, q5⟩ := hA c _ h2
          rw [g2] at q1
          cases q1
          have hl0 : vs.lookup f = none := by
            rcases g4.look (f := f) with ⟨z, _⟩ | ⟨_, _, _, z, _⟩
            · exact z
            · rw [h3] at z; cases z
          rw [← hK] at q2 q3
          refine getmeth_ok I1 g3 q2 q3 hl0 ?_
          have key := opndsM_rd (Kt := fun us H2 => spF ct G.cl g ar (.ref aa :: us) H2 Q (WE W σ)) (fun H => hdV ct.K H) rl p fun us F' H' M' s' es' rl' pre d' _ p' => mcl_rd (n := n) rl' (pre_get pre hm) d' p'
          cases es with
          | nil =>
            obtain rfl := hz rfl
            obtain ⟨F2, M2, s2, rl2, p2⟩ := key
            have q : spF ct G.cl g ar [.ref aa] H1 Q (WE W σ) := Pst.fin (Dr := DrBs ct.K σ) (b := []) rl2 p2 trivial
            exact PySem.W.callWith_K0 (first := [.ref aa]) I1.kIn q3.kp (run_fnS (us := [.ref aa]) (vs := [.ref aa]) q5 hr q4 (passAt tk σ) I1 (.cons rfl .nil) q)
          | cons e es =>
            have hs' : noStar e = true ∧ es.all noStar = true := by rw [List.all_cons, Bool.and_eq_true] at hs; exact hs
            refine PySem.W.callWith_K (first := [.ref aa]) (h₀ := X.base) I1.ok.mod.kin q3.kp (thn (hes.run pos pins s1 σ H1 _ I1 key) fun us s2 ⟨ws, H2, I2, r, q⟩ => ⟨I2.kIn, ?_⟩) (starEach_cons es X.env hs'.1) (starEach_any hs'.2)
            exact run_fnS (us := .ref aa :: us) (vs := .ref aa :: ws) q5 hr q4 (passAt tk σ) I2 (.cons rfl r) q
        · exact p.elim
      · exact p.elim
  · exact p.elim
/-! ### C(e, ..), an instance with a dict -/
structure MkOkI (ct : Ct) (X : Cx) (c : Str) : Prop where
  mg : ∃ C f, PySem.W.nsIn ct.K mainGlobals c = some (some (.ref C)) ∧ X.mg c = some (.ref C) ∧ Mk ct.K C f
  db : (c == ("__debug__" : Str)) = false
theorem made_ok {n : Nat} {C f : Addr} {fd : FuncData} {ps : List Str} {sp : Sp} {E : L2.St → XK} {nm : Str} {e : Expr} {es : List Expr} {t : TA} {pn : Pos} (m : Mk X.K C f) (fn : FnOk X.prog X.w X.K X.mg X.base (CX X.prog X.w) n f fd ps sp) (hr : Room (n + 1) X.A) (hb : Binds X.K fd ps [])
    (hg : Gl X nm) (hm : X.mg nm = some (.ref C)) (hx : ∀ σ, PassesAt (CX X.prog X.w) X σ (E σ)) (ha : PA X (e :: es) t) (hdb : (nm == ("__debug__" : Str)) = false) (he : starEach (e :: es) X.env = (false, eval e X.env) :: starEach es X.env) (hpl : (backTo pos (starEach es X.env)).any (·.1) = false) :
    PE X (.Call (.Name nm pn) (e :: es) [] pos) (fun σ H Q => t σ H fun vs H1 => ∀ x dx, H1 x = none → H1 dx = none → dx ≠ x → sp (.ref x :: vs) (upd (upd H1 dx (.own x)) x (.ins C dx [])) (fun v H2 => v = .non ∧ Q (.ref x) H2) (E σ)) := by
  constructor
  intro pins sh σ H Q I h
  apply wpAny_Call_Name_kw (ld_glob I hg hm ?_ hdb)
  apply PySem.W.callWith_K (h₀ := X.base) I.ok.mod.kin m.kp (thn (ha.run pos pins sh σ H _ I h) ?_) he hpl
  intro us s1 ⟨vs, H1, I1, r, q⟩
  refine ⟨I1.kIn, ?_⟩
  have J := Inv.made (C := C) I1
  have qq := q _ _ (I1.hok.fresh (Nat.le_succ s1.heap.objs.size)) (I1.hok.fresh Nat.le.refl) (Nat.ne_of_lt (Nat.lt_add_one _))
  have rr : Vals (.ref (s1.heap.objs.size + 1) :: vs) (.ref (s1.heap.objs.size + 1) :: us) := .cons rfl r
  have hlen : (Value.ref (s1.heap.objs.size + 1) :: us).length = ps.length := by rw [← rr.length]; exact fn.len _ _ _ _ qq
  have bb := hb _ (Value.ref (s1.heap.objs.size + 1) :: us) J.kIn (by rw [List.append_nil]; exact hlen)
  rw [List.append_nil] at bb
  have body := fn.run _ X.stack _ _ ⟨Value.ref (s1.heap.objs.size + 1) :: us, []⟩ _ _ _ (E σ) (hr.make C us []) (J.env0.make C us []) bb rr qq
  apply wpAny_call
  apply make_map (f := f) I1.kIn m.makes m.init (beq_iff_eq.mp m.fn)
  refine codeAny_mono body ?_
  rintro (e1 | fl) s2 z
  · exact hx σ pins _ _ e1 s2 J z
  · cases fl with
    | ret u =>
      obtain ⟨v, H2, I2, rv, ev, q2⟩ := J.after z
      subst ev
      exact ⟨rv, .ref (s1.heap.objs.size + 1), H2, I2, rfl, q2⟩
    | next => exact z.elim
    | brk => exact z.elim
    | cont => exact z.elim
theorem pre_at {M' : List Addr} {a : Addr} (p : M ++ [a] <+: M') : M'[M.length]? = some a := pre_get p (by simp)
/-- a new instance with a dict, its store's last -/
theorem Rl.mkIns {x dx C : Addr} {c : Str} (rl : Rl ct.K F H M σ s) (nx : H x = none) (nd : H dx = none) (hne : dx ≠ x) (hc : PySem.W.nsIn ct.K mainGlobals c = some (some (.ref C))) :
    Ext O0 F H M F (upd (upd H dx (.own x)) x (.ins C dx [])) (M ++ [x]) O0 ∧ Same F (upd (upd H dx (.own x)) x (.ins C dx [])) ∧ Stos ct.K F (upd (upd H dx (.own x)) x (.ins C dx [])) (M ++ [x]) (s.sto ++ [.ins c []]) := by
  have kp : ∀ p o, H p = some o → upd (upd H dx (.own x)) x (.ins C dx []) p = some o := fun p o q => by
    rw [upd_ne (ne_of_none q nx), upd_ne (ne_of_none q nd)]; exact q
  have hxM : x ∉ M := fun z => by
    obtain ⟨_, o, q⟩ := rl.sto.some z
    rw [nx] at q; cases q
  refine ⟨⟨Same.refl _, fun p o q _ _ => kp p o q, fun p o q => ⟨o, kp p o q⟩, fun _ _ h => .inl h, List.prefix_append _ _, fun a h => ?_, fun _ h => .inl h⟩, fun p o q => kp p o (rl.same p o q), ⟨by simp [rl.sto.len], ?_, fun k so a e1 e2 => ?_⟩⟩
  · rcases List.mem_append.mp h with h | h
    · exact .inl h
    · have : a = x := by simpa using h
      subst this
      exact .inr nx
  · rw [List.nodup_append]
    refine ⟨rl.sto.nd, by simp, fun a ha b hb z => ?_⟩
    have : b = x := by simpa using hb
    subst this
    subst z
    exact hxM ha
  · by_cases hk : k < s.sto.length
    · rw [List.getElem?_append_left hk] at e1
      rw [List.getElem?_append_left (by rw [rl.sto.len]; exact hk)] at e2
      have z := rl.sto.ok k so a e1 e2
      obtain ⟨z1, o, z2⟩ := z.some
      exact z.mono (Same.refl _) (List.prefix_append _ _) z1 (by rw [kp a o z2, z2])
    · have hk2 : k = s.sto.length := by
        have := (List.getElem?_eq_some_iff.mp e1).1
        rw [List.length_append, List.length_singleton] at this
        omega
      subst hk2
      rw [List.getElem?_append_right (Nat.le_refl _), Nat.sub_self] at e1
      rw [List.getElem?_append_right (by rw [rl.sto.len]; exact Nat.le_refl _), rl.sto.len, Nat.sub_self] at e2
      cases e1
      cases e2
      exact ⟨rl.same.free nx, C, dx, [], hc, upd_same, .nil⟩
theorem Ext.trans0 {F2 H2 : Hp} {M2 : List Addr} (a : Ext O0 F H M F1 H1 M1 O0) (b : Ext O0 F1 H1 M1 F2 H2 M2 O0) : Ext O0 F H M F2 H2 M2 O0 := a.trans b
theorem snd_mkI {n : Nat} {G : En} {c g : Str} {ar : Nat} {pn : Pos} {es : List Expr} {ds : List Den} (hK : X.K = ct.K) (tk : Takes X W) (hr : Room (n + 1) X.A) (hC : MkOkI ct X c) (hI : G.ca c "__init__" = some (.methI g ar)) (hA : AtOk ct X n G.cl c "__init__" (.methI g ar)) (hg : Gl X c)
    (ha : PA X (x :: es) (tBsR ct W (Den.bs false ds))) (hs : (x :: es).all noStar = true) : Snd ct X W (.Call (.Name c pn) (x :: es) [] pos) (dMkI G c ds) := by
  have hs' : noStar x = true ∧ es.all noStar = true := by rw [List.all_cons, Bool.and_eq_true] at hs; exact hs
  obtain ⟨⟨C, f, c1, c2, c3⟩, hdb⟩ := hC
  obtain ⟨C', q1, q2, gf, fd, ps, k1, k2, k3⟩ := hA
  rw [c1] at q1
  cases q1
  have ef : gf = f := by
    have h1 := c3.init
    rw [k1.at_] at h1
    exact Value.ref.inj (Option.some.inj (Option.some.inj h1))
  subst ef
  refine Snd.ofV hK (PE.imp (made_ok (E := WE W) (by rw [hK]; exact c3) k3 hr k2 hg c2 (fun σ => passAt tk σ) ha hdb (starEach_cons es X.env hs'.1) (starEach_any hs'.2)) fun σ H Q h => opndsF_rd (fun H => hdV ct.K H) h fun vs F H M s es rl d le p => ?_) fun _ => rfl
  intro x dx nx nd hne
  unfold mkIP at p
  rw [hI] at p
  have p : Pst ct W (DrV ct.K) σ F H M s Q (if ar = es.length + 1 then mkIK s.sto.length (G.cl g (.ref s.sto.length :: es) (s.sto ++ [.ins c []])) s else .stuck) := p
  by_cases hcnd : ar = es.length + 1
  · rw [if_pos hcnd] at p
    obtain ⟨e1, sm1, so1⟩ := rl.mkIns nx nd hne c1
    refine ⟨F, M ++ [x], s.sto ++ [.ins c []], .ref s.sto.length :: es, sm1, so1, .cons (.ref (by rw [← rl.sto.len]; simp)) (d.mono (Same.refl _) (List.prefix_append _ _)), by rw [hcnd]; rfl, ?_⟩
    cases el : G.cl g (.ref s.sto.length :: es) (s.sto ++ [.ins c []]) with
    | stuck => rw [el] at p; exact p.elim
    | exc cc fs st =>
      rw [el] at p
      intro cls dd F' H' M' ex sm so dr
      obtain ⟨a, b⟩ := rl.after (e1.trans0 ex) sm so
      exact p cls dd F' H' M' a b dr
    | ok v st =>
      rw [el] at p
      intro v' F' H' M' ex sm so dr
      unfold mkIK at p
      split at p
      · rename_i st' e
        cases e
        cases dr
        obtain ⟨a, b⟩ := rl.after (e1.trans0 ex) sm so
        exact ⟨rfl, p _ F' H' M' a b (.ref (by rw [← rl.sto.len]; exact pre_at ex.pre))⟩
      · rename_i e; cases e
      · exact p.elim
  · rw [if_neg hcnd] at p; exact p.elim
/-! ### self.f op= e -/
def rdI (op : Operator) : V → V → Hp → VK → Prop := fun x y H Q => ∃ i j, x = .int i ∧ y = .int j ∧ ((op = .Add ∧ Q (.int (i + j)) H) ∨ (op = .Sub ∧ Q (.int (i - j)) H))
theorem in_rdI {op : Operator} (h : op = .Add ∨ op = .Sub) : InOp X op (rdI op) := by
  intro pins sh σ H x y u v Q I rx ry ⟨i, j, e1, e2, q⟩
  rcases h with rfl | rfl
  · refine in_add pins sh σ H x y u v Q I rx ry ⟨i, j, e1, e2, ?_⟩
    rcases q with ⟨_, q⟩ | ⟨z, _⟩
    · exact q
    · cases z
  · refine in_sub pins sh σ H x y u v Q I rx ry ⟨i, j, e1, e2, ?_⟩
    rcases q with ⟨z, _⟩ | ⟨_, q⟩
    · cases z
    · exact q
theorem augI_int {op : Operator} {a b z : PV} (h : augI op a b = some z) : ∃ i j, a = .int i ∧ b = .int j ∧ ((op = .Add ∧ z = .int (i + j)) ∨ (op = .Sub ∧ z = .int (i - j))) := by
  unfold augI at h
  split at h
  · exact ⟨_, _, rfl, rfl, .inl ⟨rfl, (Option.some.inj h).symm⟩⟩
  · exact ⟨_, _, rfl, rfl, .inr ⟨rfl, (Option.some.inj h).symm⟩⟩
  · cases h
theorem valM_rd {f : Ps → R SV} {g : SV → Ps → R Fl} {D : Ends} {Kt : V → Hp → Prop} (rl : Rl ct.K F H M σ s) (p : PstS ct W D σ F H M s ((f s).bind g))
    (hk : ∀ v a F' H' M' s', Rl ct.K F' H' M' σ s' → M <+: M' → Dn ct.K F' M' v a.pv → PstS ct W D σ F' H' M' s' (g a s') → Kt v H') : tV ct W f σ H Kt := by
  refine ⟨F, M, s, rl, ?_⟩
  cases e : f s with
  | stuck => rw [e] at p; exact p
  | exc c fs s' => rw [e] at p; exact fun cls d F' H' M' x rl q => p cls d σ F' H' M' x.x rl q
  | ok a s' =>
    rw [e] at p
    intro v F' H' M' x rl' d
    obtain ⟨F2, e2, r2, d2⟩ := fz_ext rl x rl' d
    exact hk v a F2 H' M' s' r2 e2.x.pre d2 (p.at e2.x)
theorem st_augAt {n : Nat} {G : En} {i : Nat} {nm f : Str} {op : Operator} {pn ps : Pos} (hK : X.K = ct.K) (hA : ∀ c at_, G.ca c f = some at_ → AtOk ct X n G.cl c f at_) (hx : PE X (.Name nm pn) (tVar i)) (ha : Snd ct X W x da) (ho : op = .Add ∨ op = .Sub) :
    PS X (.AugAssign (.Attribute (.Name nm pn) f ps) op x pos) (tEx ct W (sAugAt G i f op da)) :=
  PS.imp (ps_fldaug hx ha.v (in_rdI ho)) fun D σ H ⟨F, M, s, rl, p⟩ => by
    unfold sAugAt at p
    split at p
    · rename_i k hk
      obtain ⟨w, w1, w2⟩ := rl.slot i _ hk
      cases w2 with
      | @ref aa _ hm =>
        refine ⟨_, w1, ?_⟩
        unfold augG at p
        split at p
        · rename_i c fs h1
          split at p
          · rename_i x0 h2 h3
            obtain ⟨g1, C, dx, vs, g2, g3, g4⟩ := ins_at rl.sto h1 hm
            obtain ⟨C', q1, q2, q3⟩ := hA c _ h2
            rw [g2] at q1
            cases q1
            obtain ⟨v0, y0, z1, z2, z3⟩ : ∃ v0 y0, vs.lookup f = some v0 ∧ fs.lookup f = some y0 ∧ Dn ct.K F M v0 y0 := by
              rcases g4.look (f := f) with ⟨_, z⟩ | z
              · rw [h3] at z; cases z
              · exact z
            rw [h3] at z2
            cases z2
            refine ⟨aa, _, dx, vs, v0, rfl, g3, by rw [hK]; exact q2, by rw [hK]; exact q3, z1, ?_⟩
            refine valM_rd rl p fun v a F' H' M' s' rl' pre d p' => ?_
            unfold augF at p'
            split at p'
            · rename_i z hz
              obtain ⟨i0, j0, ei, ej, hor⟩ := augI_int hz
              subst ei
              rw [ej] at d
              cases z3
              cases d
              unfold augO at p'
              split at p'
              · rename_i c' fs' k1
                by_cases hcc : c' = c ∧ fs'.length < 1000
                · rw [if_pos hcc] at p'
                  obtain ⟨rfl, hlen⟩ := hcc
                  obtain ⟨g1', C2, dx2, vs2, g2', g3', g4'⟩ := ins_at rl'.sto k1 (pre_get pre hm)
                  rw [g2] at g2'
                  cases g2'
                  have fin : ∀ t : V, Dn ct.K F' M' t z → ∃ dx' fs', H' aa = some (.ins C dx' fs') ∧ fs'.length < 1000 ∧ D.nx σ (upd H' aa (.ins C dx' (L2.putF f t fs'))) := fun t dt => by
                    obtain ⟨ex, rl2⟩ := rl'.setIns (f := f) k1 (pre_get pre hm) g2 g1' g3' g4' dt
                    exact ⟨dx2, vs2, g3', by rw [g4'.length]; exact hlen, p' σ F' _ M' ex rl2⟩
                  refine ⟨i0, j0, rfl, rfl, ?_⟩
                  rcases hor with ⟨e1, rfl⟩ | ⟨e1, rfl⟩
                  · exact .inl ⟨e1, fin _ (.int _)⟩
                  · exact .inr ⟨e1, fin _ (.int _)⟩
                · rw [if_neg hcc] at p'; exact p'.elim
              · exact p'.elim
            · exact p'.elim
          · exact p.elim
        · exact p.elim
    · exact p.elim
end
end PI

set_option Elab.async false
set_option linter.all false
set_option autoImplicit false
set_option maxRecDepth 100000
set_option maxHeartbeats 4000000
/-! x != y where the class has an own == alone. -/
namespace PI
open PySem L2 PySem.Spec PyProof.Rows
section
variable {prog : Program} {w : World} {A : Around} {E : Value → Shared → Prop} {s : Shared} {K : PySem.W.Frag} {x C f : Addr} {ox : Obj} {od : Option Obj} {b : Value}
theorem body_ne {Q : Fin → Shared → Prop} (kin : K.In s.heap) (I : PySem.W.InstAt s.heap x ox C od) (he : PySem.W.findIn K (.ref C) "__eq__" = some (some (.ref f))) (hf : PySem.W.isFn K (.ref f) = true) (hu : A.units < cLine)
    (h : wpAny (model prog w) A (call (.ref f) [.ref x, b]) (fun v s' => ∃ t, v = .bool t ∧ Q (.done (.ret (.bool (!t)))) s') E s) : wpAny (model prog w) A (Builtin.«object.__ne__» ⟨[.ref x, b], []⟩) Q E s := by
  unfold Builtin.«object.__ne__»
  refine wpAny_bind (wpAny_of_eq (a := (.ref x, [b])) rfl ?_)
  refine wpAny_bind (wpAny_cRoomFor hu ?_)
  refine wpAny_bind (PySem.W.ifBound_K kin I he hf (wpAny_mono h (fun v s' hv => ?_) fun _ _ z => z))
  obtain ⟨t, rfl, hq⟩ := hv
  exact wpAny_bind (wpAny_truthy_bool (wpAny_pure hq))
theorem call_ne {Q : Value → Shared → Prop} (kin : K.In s.heap) (I : PySem.W.InstAt s.heap x ox C od) (hm : PySem.W.mroIn K C (.type "object") = some true) (he : PySem.W.findIn K (.ref C) "__eq__" = some (some (.ref f))) (hf : PySem.W.isFn K (.ref f) = true) (hu : A.in1.units < cLine)
    (h : wpAny (model prog w) A.in1 (call (.ref f) [.ref x, b]) (fun v s' => ∃ t, v = .bool t ∧ Q (.bool (!t)) s') E s) : wpAny (model prog w) A (call (.builtin "object.__ne__") [.ref x, b]) Q E s := by
  have body := body_ne (Q := fun r s' => ∃ t, r = .done (.ret (.bool t)) ∧ Q (.bool t) s') kin I he hf hu (wpAny_mono h (fun v s' ⟨t, e, q⟩ => ⟨t, e, _, rfl, q⟩) fun _ _ z => z)
  apply wpAny_call
  apply codeAny_call_builtin F.cmp_object.ne.plain F.cmpEntry_ne
  apply PySem.W.check_slot F.cmpKind_ne F.cmpSplit_ne (I.type.andThen (PySem.W.looks_mroIn kin hm)) (F.cmpArgs_ne _ _)
  exact wpAny_mono body (fun r s' ⟨t, e, q⟩ => by subst e; exact q) fun _ _ z => z
theorem bound_ne {M : Model} {args : List Value} {Q : Option Value → Shared → Prop} (kin : K.In s.heap) (I : PySem.W.InstAt s.heap x ox C od) (hn : PySem.W.findIn K (.ref C) "__ne__" = some (some (.builtin "object.__ne__")))
    (h : wpAny M A (call (.builtin "object.__ne__") (.ref x :: args)) (fun v => Q (some v)) E s) : wpAny M A (callSpecialIfBound? (.ref x) "__ne__" args) Q E s := by
  have last : wpAny M A (call (.builtin "object.__ne__") ([.ref x] ++ args) >>= fun v => pure (some v)) Q E s := wpAny_bind (wpAny_mono h (fun v s' q => wpAny_pure q) fun _ _ q => q)
  unfold callSpecialIfBound? bindSpecialIfBound?
  apply wpAny_holding
  apply wpAny_bind
  apply wpAny_bind
  apply wpAny_bind
  apply I.type.here
  apply (PySem.W.looks_findIn kin hn).here
  apply wpAny_bind
  apply wpAny_askSetting
  apply wpAny_ite
  have hb := F.cmp_object.ne.bind (.ref x)
  split
  · exact wpAny_bind (wpAny_of_eq hb (wpAny_pure last))
  · exact wpAny_tryCatch (wpAny_bind (wpAny_of_eq hb (wpAny_pure last)))
theorem rich_ne {Q : Value → Shared → Prop} {tb : Value} (kin : K.In s.heap) (I : PySem.W.InstAt s.heap x ox C od) (hb : PySem.W.Looks (model prog w) s.heap (typeOf b) tb) (hn : PySem.W.notFirst K C tb = true) (hm : PySem.W.mroIn K C (.type "object") = some true)
    (hne : PySem.W.findIn K (.ref C) "__ne__" = some (some (.builtin "object.__ne__"))) (he : PySem.W.findIn K (.ref C) "__eq__" = some (some (.ref f))) (hf : PySem.W.isFn K (.ref f) = true) (hu : A.in1.units < cLine)
    (h : wpAny (model prog w) A.in1 (call (.ref f) [.ref x, b]) (fun v s' => ∃ t, v = .bool t ∧ Q (.bool (!t)) s') E s) : wpAny (model prog w) A (richCompare .NotEq (.ref x) b) Q E s := by
  have hu0 : A.units < cLine := by
    have : A.units ≤ A.in1.units := by show A.units ≤ A.units + 1; omega
    omega
  have one : wpAny (model prog w) A (tryCompare (.ref x) "__ne__" b) (fun r s' => ∃ v, r = some v ∧ Q v s') E s := by
    unfold tryCompare
    refine wpAny_bind (bound_ne kin I hne (call_ne kin I hm he hf hu (wpAny_mono h (fun v s' ⟨t, e, q⟩ => ⟨t, e, ?_⟩) fun _ _ q => q)))
    exact wpAny_pure ⟨_, rfl, q⟩
  simp only [oneThing_ref, richCompare]
  apply wpAny_holding
  apply wpAny_bind
  apply wpAny_cRoomFor hu0
  apply wpAny_bind
  apply I.type.here
  apply wpAny_bind
  apply hb.here
  split
  · rename_i q
    have e : PySem.W.subIn K tb (.ref C) = some false := (Bool.or_eq_true_iff.mp hn).elim (fun e => by rw [beq_iff_eq.mp e] at q; simp at q) fun e => beq_iff_eq.mp e
    apply wpAny_bind
    apply (PySem.W.looks_subIn kin e).here
    simp only [if_neg Bool.false_ne_true]
    exact wpAny_bind (wpAny_mono one (fun r s' ⟨v, e, hq⟩ => by subst e; exact wpAny_pure hq) fun _ _ z => z)
  · apply wpAny_bind
    apply wpAny_pure
    simp only [if_neg Bool.false_ne_true]
    exact wpAny_bind (wpAny_mono one (fun r s' ⟨v, e, hq⟩ => by subst e; exact wpAny_pure hq) fun _ _ z => z)
end
section
variable {ct : Ct} {X : Cx} {W : WX} {x y : Expr} {pos : Pos} {da db : Den}
variable {σ : L2.St} {F H : Hp} {M : List Addr} {s : Ps}
def rEqR (ct : Ct) (W : WX) (G : En) (ne : Bool) : R2 := fun v w H Q => ∃ σ F M s dx dy, Rl ct.K F H M σ s ∧ DnO ct.K F H M v dx ∧ DnO ct.K F H M w dy ∧ Pst ct W (DrV ct.K) σ F H M s Q (eqrP G ne dx dy s)
def neOp (ne : Bool) : CmpOp := if ne then .NotEq else .Eq
theorem op_eqR {n : Nat} {G : En} {ne : Bool} (hK : X.K = ct.K) (hr : Room (n + 1) X.A) (hA : ∀ c f at_, G.ca c f = some at_ → AtOk ct X n G.cl c f at_) : OpR X (compareOp (neOp ne)) (rEqR ct W G ne) := by
  intro pins sh σ' H v w u1 u2 Q I r1 r2 ⟨σ, F, M, s, dx, dy, rl, hx, hy, p⟩
  unfold eqrP at p
  split at p
  · rename_i c fs c' fs'
    by_cases hcc : c = c'
    · rw [if_pos hcc] at p
      subst hcc
      rcases hx with hx | ⟨_, _, _, _, z, _⟩
      · rcases hy with hy | ⟨_, _, _, _, z, _⟩
        · have hx0 := hx
          have hy0 := hy
          cases hx with
          | @rcd a C dx _ vs ws _ h1 h2 h3 h4 h5 =>
            cases hy with
            | @rcd b C2 dy _ vs2 ws2 _ k1 k2 k3 k4 k5 =>
              rw [h1] at k1
              cases k1
              cases (show u1 = Value.ref a from r1)
              cases (show u2 = Value.ref b from r2)
              obtain ⟨_, od, _, J, _⟩ := SlX.slt_inst I (show SlX.Slt H a C dx vs from .inr ⟨rl.same _ _ h2, rl.same _ _ h3⟩)
              obtain ⟨_, od2, _, J2, _⟩ := SlX.slt_inst I (show SlX.Slt H b C dy vs2 from .inr ⟨rl.same _ _ k2, rl.same _ _ k3⟩)
              unfold eqrC at p
              split at p
              · rename_i g ar e
                by_cases hcd : ar = 2 ∧ (ne = false ∨ isNeO (G.ca c "__ne__") = true)
                · rw [if_pos hcd] at p
                  obtain ⟨har, hnn⟩ := hcd
                  subst har
                  obtain ⟨C', q1, q2, gf, fd, ps, l1, l2, l3⟩ := hA c _ _ e
                  rw [h1] at q1
                  cases q1
                  have post : ∀ (A : Around) (ne : Bool), Pst ct W (DrV ct.K) σ F H M s Q (eqrK ne (G.cl g [.rcd c fs, .rcd c fs'] s.sto) s) → Room n A → Env0 X.prog X.w X.K X.mg X.base A X.stack sh H →
                      wpAny (model X.prog X.w) A (call (.ref gf) [.ref a, .ref b]) (fun v s' => ∃ t, v = .bool t ∧ EP X pins σ' Q (.bool (if ne then !t else t)) s') X.xe sh := fun A ne p hrA e0 => by
                    cases el : G.cl g [.rcd c fs, .rcd c fs'] s.sto with
                    | stuck => rw [el] at p; exact p.elim
                    | exc cc ff st => rw [el] at p; exact p.elim
                    | ok rv st =>
                      rw [el] at p
                      unfold eqrK at p
                      split at p
                      · rename_i t st' er
                        cases er
                        have key := SlX.run_at (us := [.ref a, .ref b]) (ws := [.ref a, .ref b]) (pins := pins) (σ := σ') (E := Ef) (Q := fun z H' => ∃ t', z = .bl t' ∧ Q (.bl (if ne then !t' else t')) H') (fnR_of l3 l2) hrA e0 pass_ef I (.cons rfl (.cons rfl .nil)) (by
                          refine ⟨F, M, s.sto, [.rcd c fs, .rcd c fs'], rl.same, rl.sto, .cons hx0 (.cons hy0 .nil), rfl, ?_⟩
                          rw [el]
                          intro v F' H' M' ex sm so dr
                          cases dr
                          obtain ⟨a1, a2⟩ := rl.after ex sm so
                          exact ⟨t, rfl, p _ F' H' M' a1 a2 (.bl _)⟩)
                        refine wpAny_mono (wpAny_call key) (fun w s' z => ?_) fun _ _ y => y
                        obtain ⟨z', H', I', rz, t', et, qz⟩ := z
                        subst et
                        cases rz
                        exact ⟨t', rfl, .bl _, H', I', rfl, qz⟩
                      · exact p.elim
                  have hk : PySem.W.notFirst ct.K C (.ref C) = true := by
                    show ((Value.ref C == Value.ref C) || _) = true
                    rw [beq_self_eq_true, Bool.true_or]
                  cases ne with
                  | false =>
                    obtain ⟨m, hF⟩ := I.fr
                    show wpAny _ _ (richCompare .Eq (.ref a) (.ref b)) _ _ _
                    refine PySem.W.cmp_K (op := .Eq) (tb := .ref C) (hr.units0) hF I.ok.mod.kin J J2.type (by rw [hK]; exact hk) (by rw [hK]; exact l1.at_) (by rw [hK]; exact l1.fn) ?_
                    refine wpAny_mono (post X.A false p (hr.mono (Nat.le_succ n)) I.env0) (fun v s' z => ?_) fun _ _ y => y
                    obtain ⟨t, et, q⟩ := z
                    subst et
                    exact q
                  | true =>
                    have hno : isNeO (G.ca c "__ne__") = true := hnn.resolve_left (by simp)
                    unfold isNeO at hno
                    split at hno
                    · rename_i en
                      obtain ⟨C3, z1, z2, z3, z4⟩ := hA c _ _ en
                      rw [h1] at z1
                      cases z1
                      show wpAny _ _ (richCompare .NotEq (.ref a) (.ref b)) _ _ _
                      refine rich_ne (tb := .ref C) I.kIn J J2.type (by rw [hK]; exact hk) (by rw [hK]; exact z4) (by rw [hK]; exact z3) (by rw [hK]; exact l1.at_) (by rw [hK]; exact l1.fn) (hr.in1).units0 ?_
                      exact post X.A.in1 true p hr.in1 I.env0.in1
                    · cases hno
                · rw [if_neg hcd] at p; exact p.elim
              · exact p.elim
        · cases z
      · cases z
    · rw [if_neg hcc] at p; exact p.elim
  · exact p.elim
/-- a class of which isinstance is asked -/
def IscOk (ct : Ct) (X : Cx) (c : Str) : Prop := ∃ C, PySem.W.nsIn ct.K mainGlobals c = some (some (.ref C)) ∧ X.mg c = some (.ref C) ∧ SlX.SCls ct.K C ∧ SlX.SIsi ct.K C
theorem snd_isC {c : Str} {p p2 : Pos} (hK : X.K = ct.K) (hi : IscOk ct X c) (hg : Gl X "isinstance") (hm : X.mg "isinstance" = none) (hgc : Gl X c) (hdb : (c == ("__debug__" : Str)) = false) (ha : Snd ct X W x da) (hs : noStar x = true) :
    Snd ct X W (.Call (.Name "isinstance" p) [x, .Name c p2] [] pos) (dIsC da c) := by
  obtain ⟨C, z1, z3, z2, z4⟩ := hi
  have hT : PE X (.Name c p2) (tC (.ref C)) := pe_glob hgc z3 rfl hdb
  have key : PE X (.Call (.Name "isinstance" p) [x, .Name c p2] [] pos) (tCB (SlX.rIsiSl X.K (.ref C)) (tCons (tBo ct W (da.b true)) (tCons (tC (.ref C)) tNil))) :=
    pe_callB (SlX.call_isiSl _) hg hm (by decide +kernel) (pa_cons ha.b (pa_cons hT pa_nil) (starEach_cons _ X.env hs)) (by decide) (by decide) (starEach_cons _ X.env hs) rfl
  refine Snd.ofV hK (PE.imp key fun σ H Q h => opnd1_rd (fun H => hdV ct.K H) h fun v F H M s dx rl hv p => ?_) fun _ => rfl
  unfold isCP at p
  split at p
  · split at p
    · rename_i hcc
      subst hcc
      rcases hv with hv | ⟨_, _, _, _, z, _⟩
      · cases hv with
        | @rcd a C2 dx _ vs ws _ h1 h2 h3 h4 h5 =>
          rw [z1] at h1
          cases h1
          exact ⟨a, _, dx, vs, .ref C, true, rfl, rfl, fun w hw => hw, .inr ⟨rl.same _ _ h2, rl.same _ _ h3⟩, by rw [hK]; exact z2, by rw [hK]; exact z4, if_pos (beq_self_eq_true _), Pst.fin rl p (.bl _)⟩
      · cases z
    · exact p.elim
  · exact p.elim
theorem eqrP_bl {G : En} {ne : Bool} {dx dy : PV} {s s1 : Ps} {x : SV} (e : eqrP G ne dx dy s = .ok x s1) : ∃ t, x = .val (.bl t) := by
  unfold eqrP at e
  split at e
  · split at e
    · unfold eqrC at e
      split at e
      · split at e
        · unfold eqrK at e
          split at e
          · cases e; exact ⟨_, rfl⟩
          · cases e
        · cases e
      · cases e
    · cases e
  · cases e
theorem snd_eqR {n : Nat} {G : En} {ne : Bool} (hK : X.K = ct.K) (hr : Room (n + 1) X.A) (hA : ∀ c f at_, G.ca c f = some at_ → AtOk ct X n G.cl c f at_) (ha : Snd ct X W x da) (hb : Snd ct X W y db) (hm : behindInMarks (neOp ne) y = false) : Snd ct X W (.Compare x [neOp ne] [y] pos) (dEqR G ne da db) := by
  have hv : PE X (.Compare x [neOp ne] [y] pos) (tV ct W (dEqR G ne da db).v) := PE.imp (pe_cmpR (op_eqR (W := W) (ne := ne) hK hr hA) ha.b hb.b hm) fun σ H Q h => opnd2_rd (fun H => hdV ct.K H) h fun v w F H M s dx dy rl h1 h2 p => ⟨σ, F, M, s, dx, dy, rl, h1, h2, p⟩
  refine ⟨hv, PE.toB hv, PT.imp (pt_cmpR (op_eqR (W := W) (ne := ne) hK hr hA) ha.b hb.b hm) fun σ H Q h => opnd2_rd (fun H => hdT H) h fun v w F H M s dx dy rl h1 h2 p => ⟨σ, F, M, s, dx, dy, rl, h1, h2, ?_⟩⟩
  have p : Pst ct W DrT σ F H M s Q ((eqrP G ne dx dy s).bind fun x s1 => liftO (truP x.pv) s1) := p
  cases e : eqrP G ne dx dy s with
  | stuck => rw [e] at p; exact p.elim
  | exc c fs s1 => rw [e] at p; exact p
  | ok x s1 =>
    rw [e] at p
    obtain ⟨t, rfl⟩ := eqrP_bl e
    intro b F' H' M' ex rl' dr
    cases dr
    exact ⟨t, rfl, p t F' H' M' ex rl' rfl⟩
/-! ### a call that leaves nothing in the store -/
theorem take_pre {α : Type} {M M' : List α} (p : M <+: M') : M'.take M.length = M := by
  obtain ⟨r, rfl⟩ := p
  simp
theorem get_cut {M M' : List Addr} (p : M <+: M') {k : Nat} {a : Addr} (h : M'[k]? = some a) (hk : k < M.length) : M[k]? = some a := by
  obtain ⟨r, rfl⟩ := p
  rw [List.getElem?_append_left hk] at h
  exact h
mutual
theorem Dn.cutM {K : PySem.W.Frag} {F : Hp} {M M' : List Addr} (p : M <+: M') : ∀ {v : V} {d : PV}, Dn K F M' v d → refLt M.length d = true → Dn K F M v d
  | _, _, .non, _ => .non
  | _, _, .bl b, _ => .bl b
  | _, _, .int i, _ => .int i
  | _, _, .str x, _ => .str x
  | _, _, .tup h r, q => .tup h (Dns.cutM p r q)
  | _, _, .lst h r, q => .lst h (Dns.cutM p r q)
  | _, _, .scr h, _ => .scr h
  | _, _, .ref h, q => .ref (get_cut p h (of_decide_eq_true q))
  | _, _, .rcd h1 h2 h3 h4 r, q => .rcd h1 h2 h3 h4 (Dns.cutM p r q)
theorem Dns.cutM {K : PySem.W.Frag} {F : Hp} {M M' : List Addr} (p : M <+: M') : ∀ {v : List V} {d : List PV}, Dns K F M' v d → refsLt M.length d = true → Dns K F M v d
  | _, _, .nil, _ => .nil
  | _, _, .cons (d := d) (ds := ds) h r, q => by
    have q : (refLt M.length d && refsLt M.length ds) = true := q
    rw [Bool.and_eq_true] at q
    exact .cons (Dn.cutM p h q.1) (Dns.cutM p r q.2)
end
theorem Flds.cut {K : PySem.W.Frag} {F : Hp} {M M' : List Addr} (p : M <+: M') : ∀ {v : List (Str × V)} {d : List (Str × PV)}, Flds K F M' v d → refsLt M.length (d.map (·.2)) = true → Flds K F M v d
  | _, _, .nil, _ => .nil
  | _, _, .cons (d := d) (ds := ds) h r, q => by
    have q : (refLt M.length d && refsLt M.length (ds.map (·.2))) = true := q
    rw [Bool.and_eq_true] at q
    exact .cons (Dn.cutM p h q.1) (Flds.cut p r q.2)
theorem Ext.cut {F' H' : Hp} {M' : List Addr} {O O' : Addr → Prop} (e : Ext O F H M F' H' M' O') : Ext O F H M F' H' M O' := ⟨e.fs, e.keep, e.dom, e.newF, List.prefix_refl _, fun _ h => .inl h, e.newO⟩
theorem Stos.cut {M' : List Addr} {st : Sto} (h : Stos ct.K F H M' st) (p : M <+: M') (q : (st.take M.length).all (soLt M.length) = true) : Stos ct.K F H M (st.take M.length) := by
  have hl : M.length ≤ st.length := by rw [← h.len]; exact p.length_le
  refine ⟨by rw [List.length_take]; omega, ?_, fun k so a e1 e2 => ?_⟩
  · have := h.nd
    rw [← take_pre p]
    exact this.sublist (List.take_sublist _ _)
  · have hk : k < M.length := (List.getElem?_eq_some_iff.mp e2).1
    have hs := List.all_eq_true.mp q so (List.mem_of_getElem? e1)
    rw [List.getElem?_take_of_lt hk] at e1
    have z := h.ok k so a e1 (pre_get p e2)
    cases so with
    | row xs =>
      obtain ⟨z1, vs, z2, z3⟩ := z
      exact ⟨z1, vs, z2, z3.cutM p hs⟩
    | ins c fs =>
      obtain ⟨z1, C, dx, vs, z2, z3, z4⟩ := z
      exact ⟨z1, C, dx, vs, z2, z3, z4.cut p hs⟩
    | obj c fs => cases hs
    | aux b => cases hs
theorem callT_rd {Q : VK} {cl : Str → List PV → Sto → C} {f : Str} {ar : Nat} {vs : List V} {ds : List PV} (rl : Rl ct.K F H M σ s) (d : Dns ct.K F M vs ds) (ha : ds.length = ar)
    (p : Pst ct W (DrV ct.K) σ F H M s Q (calT (cl f ds s.sto) s)) : spF ct cl f ar vs H Q (WE W σ) := by
  refine ⟨F, M, s.sto, ds, rl.same, rl.sto, d, ha, ?_⟩
  cases e : cl f ds s.sto with
  | stuck => rw [e] at p; exact p
  | exc c fs st =>
    rw [e] at p
    intro cls dd F' H' M' ex sm so dr
    obtain ⟨a, b⟩ := rl.after ex sm so
    exact p cls dd F' H' M' a b dr
  | ok x st =>
    rw [e] at p
    intro v F' H' M' ex sm so dr
    have p : Pst ct W (DrV ct.K) σ F H M s Q (.ok x { s with sto := trimS s.sto.length x st }) := p
    unfold trimS at p
    rw [← rl.sto.len] at p
    split at p
    · rename_i hc
      rw [Bool.and_eq_true] at hc
      obtain ⟨a, b⟩ := rl.after ex.cut sm (so.cut ex.pre hc.2)
      refine p v F' H' M a b ?_
      cases x with
      | val dd => exact Dn.cutM ex.pre dr hc.1
      | own xs =>
        obtain ⟨q, us, e1, e2, e3, e4, e5, e6⟩ := dr
        exact ⟨q, us, e1, e2, e3, Dns.cutM ex.pre e4 hc.1, fun z => e5 (ex.pre.subset z), e6⟩
    · obtain ⟨a, b⟩ := rl.after ex sm so
      exact p v F' H' M' a b dr
theorem snd_callT {n : Nat} {G : En} {f : Str} {ar : Nat} {a : Addr} {fd : FuncData} {ps : List Str} {pn : Pos} {es : List Expr} {ds : List Den} (hK : X.K = ct.K) (tk : Takes X W) (hr : Room n X.A) (hF : FOk ct X n G.cl f ar a fd ps) (hg : Gl X f)
    (ha : PA X (x :: es) (tBsR ct W (Den.bs false ds))) (hs : (x :: es).all noStar = true) (hl : ds.length = ar) : Snd ct X W (.Call (.Name f pn) (x :: es) [] pos) (dCallT G f ds) := by
  have hs' : noStar x = true ∧ es.all noStar = true := by rw [List.all_cons, Bool.and_eq_true] at hs; exact hs
  have key := pe_callS (E := WE W) (pos := pos) (p := pn) hF.ok hr hg hF.mg hF.kp hF.bn (fun σ => passAt tk σ) ha hF.db (starEach_cons es X.env hs'.1) (starEach_any hs'.2)
  exact Snd.ofV hK (PE.imp key fun σ H Q h => opndsF_rd (fun H => hdV ct.K H) h fun vs F H M s es rl d le p => callT_rd rl d (by rw [le, hl]) p) fun _ => rfl
end
end PI

set_option Elab.async false
set_option linter.all false
set_option autoImplicit false
set_option maxRecDepth 100000
set_option maxHeartbeats 4000000
namespace PI
open PySem L2
abbrev Sc := List (Str × NameKind)
/-- what the checker knows of the text: the defs with their numbers of parameters, the constants; the names that must be the built-ins' -/
structure Ck where
  ft : Str → Option Nat
  gl : Str → Bool
  bi : Str → Bool
  cm : Str → Bool
  ci : Str → Bool
  ic : Str → Bool

def okName (x : Str) : Bool := !(x == ("__debug__" : Str)) && !(x == ("__classdict__" : Str))
def isVis (sc : Sc) (x : Str) : Bool := match sc.lookup x with
  | some .local => true
  | some .cell => true
  | some .free => true
  | _ => false
def isLoc (sc : Sc) (x : Str) : Bool := match sc.lookup x with
  | some .local => true
  | some .cell => true
  | _ => false
def isGlb (sc : Sc) (x : Str) : Bool := match sc.lookup x with
  | some .globalImplicit => true
  | _ => false
def ckVar (N : List Str) (sc : Sc) (i : Nat) : Expr → Bool
  | .Name x _ => isVis sc x && decide (N[i]? = some x) && okName x
  | _ => false
def notSlice : Expr → Bool
  | .Slice .. => false
  | _ => true
def isTupE : Expr → Bool
  | .Tuple _ _ _ => true
  | _ => false
def notSet : Expr → Bool
  | .Set .. => false
  | _ => true
mutual
def ckT (N : List Str) (sc : Sc) : T → Expr → Bool
  | .var i, x => match x with
    | .Name x _ => isLoc sc x && decide (N[i]? = some x)
    | _ => false
  | .tup ts, x => match x with
    | .Tuple es _ _ => ckTs N sc ts es
    | _ => false
def ckTs (N : List Str) (sc : Sc) : List T → List Expr → Bool
  | [], x => match x with
    | [] => true
    | _ => false
  | t :: ts, x => match x with
    | e :: es => ckT N sc t e && noStar e && ckTs N sc ts es
    | [] => false
end
/-- the block of a comprehension -/
def ckBlk (N : List Str) (sc : Sc) (scope : Scope) (own : List (Str × Nat)) : Bool :=
  (match scope.kind with | .function => true | _ => false) && (scope.names.all fun y => decide (scope.names.lookup y.1 = some y.2)) && (own.all fun p => decide (N[p.2]? = some p.1)) &&
    (scope.names.all fun y => match y.2 with
      | .free => (match sc.lookup y.1 with | some .cell => true | some .free => true | _ => false)
      | .local => decide (y.1 ∈ own.map (·.1)) || decide (y.1 ∉ N)
      | .cell => decide (y.1 ∈ own.map (·.1)) || decide (y.1 ∉ N)
      | _ => true)
mutual
def ck (C : Ck) (N : List Str) (sc : Sc) : E → Expr → Bool
  | .var i, x => ckVar N sc i x
  | .glob g, x => match x with
    | .Name y _ => decide (g = y) && isGlb sc y && C.gl y && okName y
    | _ => false
  | .cst d, x => match x, d with
    | .Constant .none _ _, .non => true
    | .Constant (.bool b) _ _, .bl c => b == c
    | .Constant (.int b) _ _, .int c => b == c
    | .Constant (.str b) _ _, .str c => decide (b = c)
    | _, _ => false
  | .bin op a b, x => match x with
    | .BinOp l o r _ => decide (o = op) && ck C N sc a l && ck C N sc b r
    | _ => false
  | .neg a, x => match x with
    | .UnaryOp .USub l _ => ck C N sc a l
    | _ => false
  | .not a, x => match x with
    | .UnaryOp .Not l _ => ck C N sc a l
    | _ => false
  | .and a b, x => match x with
    | .BoolOp .And [l, r] _ => ck C N sc a l && ck C N sc b r
    | .BoolOp .And (l :: r :: r2 :: rest) _ => ck C N sc a l && ckL C N sc .And b (r :: r2 :: rest)
    | _ => false
  | .or a b, x => match x with
    | .BoolOp .Or [l, r] _ => ck C N sc a l && ck C N sc b r
    | .BoolOp .Or (l :: r :: r2 :: rest) _ => ck C N sc a l && ckL C N sc .Or b (r :: r2 :: rest)
    | _ => false
  | .cmp op a b, x => match x with
    | .Compare l [o] [r] _ => decide (o = op) && ck C N sc a l && ck C N sc b r && notSet r
    | _ => false
  | .chain op op' a b c, x => match x with
    | .Compare l [o, o'] [m, r] _ => decide (o = op) && decide (o' = op') && ck C N sc a l && ck C N sc b m && ck C N sc c r && notSet r
    | _ => false
  | .ite c a b, x => match x with
    | .IfExp t l r _ => ck C N sc c t && ck C N sc a l && ck C N sc b r
    | _ => false
  | .tup es, x => match x with
    | .Tuple xs _ _ => cks C N sc es xs && decide (es.length ≤ lim)
    | _ => false
  | .lst es, x => match x with
    | .List xs _ => cks C N sc es xs && decide (es.length ≤ lim)
    | _ => false
  | .dsp t fl es, x => match x with
    | .Tuple xs _ _ => t && ckD C N sc es fl xs
    | .List xs _ => !t && ckD C N sc es fl xs
    | _ => false
  | .call f es, x => match x with
    | .Call (.Name g _) xs [] _ => decide (g = f) && isGlb sc g && decide (C.ft g = some es.length) && cks C N sc es xs
    | _ => false
  | .prim f es, x => bif f.two then (match x with
    | .Call (.Name g _) [.Call (.Name g2 _) (y :: ys) [] _] [] _ => decide (g = f.name) && isGlb sc g && C.bi g && decide (g2 = f.inn) && isGlb sc g2 && C.bi g2 && cks C N sc es (y :: ys)
    | _ => false) else (match x with
    | .Call (.Name g _) (y :: ys) [] _ => decide (g = f.name) && isGlb sc g && C.bi g && cks C N sc es (y :: ys)
    | _ => false)
  | .isi a t, x => match x with
    | .Call (.Name g _) [y, .Name u _] [] _ => decide (g = "isinstance") && isGlb sc g && C.bi g && decide (u = Str.ofString t) && isGlb sc u && C.bi u && decide (t ∈ isiTys) && ck C N sc a y && noStar y
    | _ => false
  | .app i e, x => match x with
    | .Call (.Attribute o m apos) [y] [] pos => ckVar N sc i o && decide (m = "append") && ck C N sc e y && noStar y && (apos.endLine == pos.line)
    | _ => false
  | .ext i e, x => match x with
    | .Call (.Attribute o m apos) [y] [] pos => ckVar N sc i o && decide (m = "extend") && ck C N sc e y && noStar y && (apos.endLine == pos.line)
    | _ => false
  | .pop i e, x => match x with
    | .Call (.Attribute o m apos) [y] [] pos => ckVar N sc i o && decide (m = "pop") && ck C N sc e y && noStar y && (apos.endLine == pos.line)
    | _ => false
  | .idx a i, x => match x with
    | .Subscript l r _ => ck C N sc a l && ck C N sc i r && notSlice r
    | _ => false
  | .slo a i, x => match x with
    | .Subscript l (.Slice (some r) none none _) _ => ck C N sc a l && ck C N sc i r
    | _ => false
  | .shi a i, x => match x with
    | .Subscript l (.Slice none (some r) none _) _ => ck C N sc a l && ck C N sc i r
    | _ => false
  | .sl2 a i j, x => match x with
    | .Subscript l (.Slice (some r) (some u) none _) _ => ck C N sc a l && ck C N sc i r && ck C N sc j u
    | _ => false
  | .sls a i k, x => match x with
    | .Subscript l (.Slice (some r) none (some u) _) _ => ck C N sc a l && ck C N sc i r && ck C N sc k u
    | _ => false
  | .mnd mx a d, x => match x with
    | .Call (.Name g _) [y] [kw] _ => decide (g = (if mx then "max" else "min" : Str)) && isGlb sc g && C.bi g && decide (kw.arg = some "default") && ck C N sc a y && noStar y && ck C N sc d kw.value
    | _ => false
  | .join sep a, x => match x with
    | .Call (.Attribute (.Constant (.str z) _ _) m apos) [y] [] pos => decide (z = sep) && decide (m = "join") && ck C N sc a y && noStar y && (apos.endLine == pos.line)
    | _ => false
  | .attr a f, x => match x with
    | .Attribute y g _ => decide (g = f) && ck C N sc a y && attrBase y
    | _ => false
  | .mkR c es, x => match x with
    | .Call (.Name g _) (y :: ys) [] _ => decide (g = c) && isGlb sc g && C.cm g && cks C N sc es (y :: ys)
    | _ => false
  | .callT f es, x => match x with
    | .Call (.Name g _) (y :: ys) [] _ => decide (g = f) && isGlb sc g && decide (C.ft g = some es.length) && cks C N sc es (y :: ys)
    | _ => false
  | .isC a c, x => match x with
    | .Call (.Name g _) [y, .Name u _] [] _ => decide (g = "isinstance") && isGlb sc g && C.bi g && decide (u = c) && isGlb sc u && C.ic u && ck C N sc a y && noStar y
    | _ => false
  | .eqR ne a b, x => match x with
    | .Compare l [o] [r] _ => decide (o = neOp ne) && ck C N sc a l && ck C N sc b r && notSet r
    | _ => false
  | .mkI c es, x => match x with
    | .Call (.Name g _) (y :: ys) [] _ => decide (g = c) && isGlb sc g && C.ci g && cks C N sc es (y :: ys)
    | _ => false
  | .mcl a f es, x => match x with
    | .Call (.Attribute o m apos) ys [] pos => decide (m = f) && ck C N sc a o && attrBase o && cks C N sc es ys && decide (ys.length < 29) && (apos.endLine == pos.line)
    | _ => false
  | .lenX a, x => match x with
    | .Call (.Name g _) [y] [] _ => decide (g = "len") && isGlb sc g && C.bi g && ck C N sc a y && noStar y
    | _ => false
  | .comp own elt tg k src ifs, x => match x with
    | .ListComp e [g] scope _ => decide (g.is_async = 0) && ckBlk N sc scope own && (tsl tg).all (fun j => decide (j ∈ own.map (·.2))) && ckT N scope.names tg g.target && ck C N scope.names elt e && cks C N scope.names ifs g.ifs && decide (ifs.length ≤ 1) && ckI C N sc g.target k src g.iter
    | _ => false
  | .comp2 own own1 elt tg k src tg1 k1 src1 ifs, x => match x with
    | .ListComp e [g, g1] scope _ => decide (g.is_async = 0) && decide (g1.is_async = 0) && g.ifs.isEmpty && ckBlk N sc scope own && own1.all (fun p => decide (p ∈ own)) && (tsl tg).all (fun j => decide (j ∈ own.map (·.2))) && (tsl tg1).all (fun j => decide (j ∈ own1.map (·.2))) && ckT N scope.names tg g.target && ckT N scope.names tg1 g1.target && ck C N scope.names elt e && cks C N scope.names ifs g1.ifs && decide (ifs.length ≤ 1) && ckI C N sc g.target k src g.iter && ckI C N scope.names g1.target k1 src1 g1.iter && notSet g1.iter
    | _ => false
  | .cnt i e, x => match x with
    | .Call (.Attribute o m apos) [y] [] pos => ckVar N sc i o && decide (m = "count") && ck C N sc e y && noStar y && (apos.endLine == pos.line)
    | _ => false
def cks (C : Ck) (N : List Str) (sc : Sc) : List E → List Expr → Bool
  | [], x => match x with
    | [] => true
    | _ => false
  | e :: es, x => match x with
    | y :: ys => ck C N sc e y && noStar y && cks C N sc es ys
    | [] => false
def ckD (C : Ck) (N : List Str) (sc : Sc) : List E → List Bool → List Expr → Bool
  | [], fl, x => match fl, x with
    | [], [] => true
    | _, _ => false
  | e :: es, fl, x => match fl, x with
    | b :: fl, y :: ys => (match unStar b y with
      | some z => ck C N sc e z
      | none => false) && ckD C N sc es fl ys
    | _, _ => false
/-- two or more in a row -/
def ckL (C : Ck) (N : List Str) (sc : Sc) (op : BoolOp) : E → List Expr → Bool
  | .and a b, x => match x with
    | [l, r] => decide (op = .And) && ck C N sc a l && ck C N sc b r
    | l :: r :: r2 :: rest => decide (op = .And) && ck C N sc a l && ckL C N sc op b (r :: r2 :: rest)
    | _ => false
  | .or a b, x => match x with
    | [l, r] => decide (op = .Or) && ck C N sc a l && ck C N sc b r
    | l :: r :: r2 :: rest => decide (op = .Or) && ck C N sc a l && ckL C N sc op b (r :: r2 :: rest)
    | _ => false
  | _, _ => false
def ckI (C : Ck) (N : List Str) (sc : Sc) (tg : Expr) : IK → List E → Expr → Bool
  | k, src, x => match k, src, x with
    | .seq, [e], y => ck C N sc e y && notSet y
    | .enm, [a], .Call (.Name g _) [y] [] _ => isTupE tg && decide (g = "enumerate") && isGlb sc g && C.bi g && ck C N sc a y && noStar y
    | .zp, [a, b], .Call (.Name g _) [y, z] [] _ => isTupE tg && decide (g = "zip") && isGlb sc g && C.bi g && ck C N sc a y && noStar y && ck C N sc b z && noStar z
    | .rng, [a], .Call (.Name g _) [y] [] _ => decide (g = "range") && isGlb sc g && C.bi g && ck C N sc a y && noStar y
    | .rng, [a, b, d], .Call (.Name g _) [y, z, u] [] _ => decide (g = "range") && isGlb sc g && C.bi g && ck C N sc a y && noStar y && ck C N sc b z && noStar z && ck C N sc d u && noStar u
    | .rng, [a, b], .Call (.Name g _) [y, z] [] _ => decide (g = "range") && isGlb sc g && C.bi g && ck C N sc a y && noStar y && ck C N sc b z && noStar z
    | _, _, _ => false
end
end PI

set_option Elab.async false
set_option linter.all false
set_option autoImplicit false
set_option maxRecDepth 100000
set_option maxHeartbeats 4000000
namespace PI
open PySem L2
/-- what holds of the context in which a piece of the text runs -/
structure Cn (ct : Ct) (C : Ck) (G : En) (n : Nat) (X : Cx) (W : WX) (N : List Str) (sc : Sc) : Prop where
  hK : X.K = ct.K
  calm : X.calm = true
  eN : X.N = N
  nd : N.Nodup
  kind : X.env.scope.kind = .function
  loc : ∀ x, sc.lookup x = some .local → X.env.scope.names.lookup x = some .local
  cel : ∀ x, sc.lookup x = some .cell → X.env.scope.names.lookup x = some .cell ∧ X.fn x = true
  fre : ∀ x, sc.lookup x = some .free → X.env.scope.names.lookup x = some .cell ∨ X.env.scope.names.lookup x = some .free
  glb : ∀ x, sc.lookup x = some .globalImplicit → X.env.scope.names.lookup x = some .globalImplicit
  tk : Takes X W
  room : Room (n + 1) X.A
  fns : ∀ f ar, C.ft f = some ar → ∃ a fd ps, FOk ct X n G.cl f ar a fd ps
  gls : ∀ x, C.gl x = true → ∃ d v u, G.gl x = some d ∧ X.mg x = some u ∧ RelV v u ∧ ∀ F M, Dn ct.K F M v d
  bis : ∀ x, C.bi x = true → X.mg x = none
  cas : ∀ c f a, G.ca c f = some a → AtOk ct X n G.cl c f a
  mks : ∀ c, C.cm c = true → MkOk ct X c ∧ ∃ g ar, G.ca c "__init__" = some (.meth g ar)
  ics : ∀ c, C.ic c = true → IscOk ct X c ∧ (c == ("__debug__" : Str)) = false
  mki : ∀ c, C.ci c = true → MkOkI ct X c ∧ ∃ g ar, G.ca c "__init__" = some (.methI g ar)
section
variable {ct : Ct} {C : Ck} {G : En} {n : Nat} {X : Cx} {W : WX} {N : List Str} {sc : Sc}
theorem Cn.vis (c : Cn ct C G n X W N sc) {x : Str} (h : isVis sc x = true) : Vis X.env.scope x := by
  unfold isVis at h
  split at h
  · rename_i q; exact .inl (c.loc x q)
  · rename_i q; exact .inr (.inl (c.cel x q).1)
  · rename_i q
    rcases c.fre x q with z | z
    · exact .inr (.inl z)
    · exact .inr (.inr z)
  · cases h
theorem Cn.isl (c : Cn ct C G n X W N sc) {x : Str} (h : isLoc sc x = true) : L2.Loc X.env.scope x ∧ (X.fn x = true ∨ X.env.scope.names.lookup x = some .local) := by
  unfold isLoc at h
  split at h
  · rename_i q; exact ⟨.inl (c.loc x q), .inr (c.loc x q)⟩
  · rename_i q; exact ⟨.inr (c.cel x q).1, .inl (c.cel x q).2⟩
  · cases h
theorem Cn.gl (c : Cn ct C G n X W N sc) {x : Str} (h : isGlb sc x = true) : Gl X x := by
  unfold isGlb at h
  split at h
  · rename_i q; exact c.glb x q
  · cases h
theorem Cn.var (c : Cn ct C G n X W N sc) {i : Nat} {x : Expr} (h : ckVar N sc i x = true) : PE X x (tVar i) ∧ ∃ nm p, x = .Name nm p := by
  unfold ckVar at h
  split at h
  · simp only [okName, Bool.and_eq_true, Bool.not_eq_true', decide_eq_true_eq] at h
    exact ⟨pe_var (by rw [c.eN]; exact h.1.2) (c.vis h.1.1) h.2.1 h.2.2, _, _, rfl⟩
  · cases h
mutual
theorem Cn.tg (c : Cn ct C G n X W N sc) : ∀ (t : T) (x : Expr), ckT N sc t x = true → PG X x (gT ct t)
  | .var i, x, h => by
    unfold ckT at h
    split at h
    · rw [Bool.and_eq_true, decide_eq_true_eq] at h
      obtain ⟨h1, h2⟩ := c.isl h.1
      exact tg_var (pg_name (by rw [c.eN]; exact c.nd) (by rw [c.eN]; exact h.2) h1 h2)
    · cases h
  | .tup ts, x, h => by
    unfold ckT at h
    split at h
    · obtain ⟨h1, h2, h3⟩ := Cn.tgs c ts _ h
      exact tg_tup c.hK c.calm h1 h2 h3
    · cases h
theorem Cn.tgs (c : Cn ct C G n X W N sc) : ∀ (ts : List T) (es : List Expr), ckTs N sc ts es = true → PGs X es (gTs ct ts) ∧ es.length = ts.length ∧ es.all noStar = true
  | [], x, h => by
    unfold ckTs at h
    split at h
    · exact ⟨tgs_nil, rfl, rfl⟩
    · cases h
  | t :: ts, x, h => by
    unfold ckTs at h
    split at h
    · rename_i e es
      rw [Bool.and_eq_true, Bool.and_eq_true] at h
      obtain ⟨a, b, d⟩ := Cn.tgs c ts es h.2
      exact ⟨tgs_cons (Cn.tg c t e h.1.1) a h.1.2, by rw [List.length_cons, List.length_cons, b], by rw [List.all_cons, h.1.2, d]; rfl⟩
    · cases h
end
theorem lookup_relS_free {sc : Scope} : ∀ {names : List (Str × NameKind)} {x : Str}, names.lookup x = some .free →
    (names.map fun (n, k) => if (k == NameKind.free && sc.kind == .function && sc.names.lookup n == some .cell) then (n, NameKind.cell) else (n, k)).lookup x = some .cell ∨
    (names.map fun (n, k) => if (k == NameKind.free && sc.kind == .function && sc.names.lookup n == some .cell) then (n, NameKind.cell) else (n, k)).lookup x = some .free
  | [], _, h => by simp at h
  | (n, k₀) :: r, x, h => by
    have ih := @lookup_relS_free sc r x
    show List.lookup x ((if (k₀ == NameKind.free && sc.kind == .function && sc.names.lookup n == some .cell) = true then (n, NameKind.cell) else (n, k₀)) :: (r.map _)) = some .cell ∨ List.lookup x ((if (k₀ == NameKind.free && sc.kind == .function && sc.names.lookup n == some .cell) = true then (n, NameKind.cell) else (n, k₀)) :: (r.map _)) = some .free
    cases hx : x == n with
    | true =>
      simp only [List.lookup_cons, hx] at h
      cases h
      by_cases hc : (NameKind.free == NameKind.free && sc.kind == .function && sc.names.lookup n == some .cell) = true
      · rw [if_pos hc]; left; simp only [List.lookup_cons, hx]
      · rw [if_neg hc]; right; simp only [List.lookup_cons, hx]
    | false =>
      simp only [List.lookup_cons, hx] at h
      by_cases hc : (k₀ == NameKind.free && sc.kind == .function && sc.names.lookup n == some .cell) = true
      · rw [if_pos hc]; simp only [List.lookup_cons, hx]; exact ih h
      · rw [if_neg hc]; simp only [List.lookup_cons, hx]; exact ih h
theorem Cn.blkOk (c : Cn ct C G n X W N sc) {scope : Scope} {own : List (Str × Nat)} (h : ckBlk N sc scope own = true) : BlkOk X.N X.env.scope scope own := by
  unfold ckBlk at h
  simp only [Bool.and_eq_true, List.all_eq_true, decide_eq_true_eq] at h
  obtain ⟨⟨⟨h1, h2⟩, h3⟩, h4⟩ := h
  rw [c.eN]
  refine ⟨?_, h2, h3, fun y hy e => ?_, fun y hy e => ?_⟩
  · split at h1
    · assumption
    · cases h1
  · have q := h4 y hy
    simp only [e] at q
    split at q
    · rename_i z; exact .inl (c.cel _ z).1
    · rename_i z; exact c.fre _ z
    · cases q
  · have q := h4 y hy
    rcases e with e | e <;> (simp only [e, Bool.or_eq_true, decide_eq_true_eq] at q; exact q)
theorem Cn.blk (c : Cn ct C G n X W N sc) {scope : Scope} {own : List (Str × Nat)} (h : ckBlk N sc scope own = true) (s : Shared) (H : Hp) (Cc : Addr) (cl : List (Str × Addr)) (fp : List Addr) :
    Cn ct C G n (X.blk s H scope (compEnvC scope cl Cc X.env) fp) W0 N scope.names where
  hK := c.hK
  calm := c.calm
  eN := c.eN
  nd := c.nd
  kind := by
    have := (c.blkOk h).kind
    exact this
  loc := fun x hx => lookup_relS_keep (by decide) hx
  cel := fun x hx => ⟨lookup_relS_keep (by decide) hx, by show (scope.names.lookup x == some .cell) = true; rw [hx]; rfl⟩
  fre := fun x hx => lookup_relS_free hx
  glb := fun x hx => lookup_relS_keep (by decide) hx
  tk := takes0
  room := c.room
  fns := fun f ar hf => by
    obtain ⟨a, fd, ps, k⟩ := c.fns f ar hf
    exact ⟨a, fd, ps, k.mg, k.kp, k.bn, k.ok, k.db⟩
  gls := c.gls
  bis := c.bis
  cas := fun c' f a h => c.cas c' f a h
  mks := fun c' h => ⟨⟨(c.mks c' h).1.mg, (c.mks c' h).1.db⟩, (c.mks c' h).2⟩
  ics := fun c' h => c.ics c' h
  mki := fun c' h => ⟨⟨(c.mki c' h).1.mg, (c.mki c' h).1.db⟩, (c.mki c' h).2⟩
theorem isTupE_of {t : Expr} (h : isTupE t = true) : ∃ elts kk tpos, t = .Tuple elts kk tpos := by
  cases t <;> first | exact ⟨_, _, _, rfl⟩ | cases h
theorem noSet_marks {op : CmpOp} {y : Expr} (h : notSet y = true) : behindInMarks op y = false := by
  cases y <;> first | rfl | cases h
theorem noSet_folded {y : Expr} {env : Env} (h : notSet y = true) : ∀ v, foldedSetIterable y env v = pure v := by
  intro v
  cases y <;> first | rfl | cases h
theorem plainIx_of {y : Expr} (h : notSlice y = true) : PlainIx y := by
  intro o i
  cases y <;> first | rfl | cases h

set_option maxHeartbeats 16000000 in
mutual
theorem ck_ok : ∀ (e : E) {X : Cx} {W : WX} {sc : Sc} (c : Cn ct C G n X W N sc) (x : Expr), ck C N sc e x = true → Snd ct X W x (den G e)
  | .var i, X, W, sc, c, x, h => by
    obtain ⟨a, nm, p, rfl⟩ := c.var h
    exact snd_var c.hK a fun _ => rfl
  | .glob g, X, W, sc, c, x, h => by
    unfold ck at h
    split at h
    · simp only [okName, Bool.and_eq_true, Bool.not_eq_true', decide_eq_true_eq] at h
      obtain ⟨⟨⟨rfl, h2⟩, h3⟩, h4⟩ := h
      obtain ⟨d, v, u, e1, e2, e3, e4⟩ := c.gls _ h3
      exact snd_glob c.hK (c.gl h2) e2 e3 h4.1 e1 e4
    · cases h
  | .cst d, X, W, sc, c, x, h => by
    unfold ck at h
    split at h
    · exact Snd.ofV c.hK (pe_cstV pe_non fun _ _ => .non) fun _ => rfl
    · cases beq_iff_eq.mp h
      exact Snd.ofV c.hK (pe_cstV pe_bl fun _ _ => .bl _) fun _ => rfl
    · cases beq_iff_eq.mp h
      exact Snd.ofV c.hK (pe_cstV pe_int fun _ _ => .int _) fun _ => rfl
    · cases of_decide_eq_true h
      exact Snd.ofV c.hK (pe_cstV pe_str fun _ _ => .str _) fun _ => rfl
    · cases h
  | .bin op a b, X, W, sc, c, x, h => by
    unfold ck at h
    split at h
    · simp only [Bool.and_eq_true, decide_eq_true_eq] at h
      obtain ⟨⟨rfl, h2⟩, h3⟩ := h
      exact snd_bin c.hK (ck_ok a c _ h2) (ck_ok b c _ h3)
    · cases h
  | .neg a, X, W, sc, c, x, h => by
    unfold ck at h
    split at h
    · exact snd_neg c.hK (ck_ok a c _ h)
    · cases h
  | .not a, X, W, sc, c, x, h => by
    unfold ck at h
    split at h
    · exact snd_not c.hK (ck_ok a c _ h)
    · cases h
  | .and a b, X, W, sc, c, x, h => by
    unfold ck at h
    split at h
    · rw [Bool.and_eq_true] at h
      exact (sndL_and (ck_ok a c _ h.1) (sndL_one (ck_ok b c _ h.2))).snd rfl
    · rw [Bool.and_eq_true] at h
      exact (sndL_and (ck_ok a c _ h.1) (ckL_ok .And b c _ _ h.2)).snd rfl
    · cases h
  | .or a b, X, W, sc, c, x, h => by
    unfold ck at h
    split at h
    · rw [Bool.and_eq_true] at h
      exact (sndL_or (ck_ok a c _ h.1) (sndL_one (ck_ok b c _ h.2))).snd rfl
    · rw [Bool.and_eq_true] at h
      exact (sndL_or (ck_ok a c _ h.1) (ckL_ok .Or b c _ _ h.2)).snd rfl
    · cases h
  | .cmp op a b, X, W, sc, c, x, h => by
    unfold ck at h
    split at h
    · simp only [Bool.and_eq_true, decide_eq_true_eq] at h
      obtain ⟨⟨⟨rfl, h2⟩, h3⟩, h4⟩ := h
      exact snd_cmp c.hK c.room.units (ck_ok a c _ h2) (ck_ok b c _ h3) (noSet_marks h4)
    · cases h
  | .chain op op' a b d, X, W, sc, c, x, h => by
    unfold ck at h
    split at h
    · simp only [Bool.and_eq_true, decide_eq_true_eq] at h
      obtain ⟨⟨⟨⟨⟨rfl, rfl⟩, h2⟩, h3⟩, h4⟩, h5⟩ := h
      exact snd_chain c.hK c.room.units (ck_ok a c _ h2) (ck_ok b c _ h3) (ck_ok d c _ h4) (noSet_marks h5)
    · cases h
  | .ite d a b, X, W, sc, c, x, h => by
    unfold ck at h
    split at h
    · simp only [Bool.and_eq_true] at h
      exact snd_ite (ck_ok d c _ h.1.1) (ck_ok a c _ h.1.2) (ck_ok b c _ h.2)
    · cases h
  | .tup es, X, W, sc, c, x, h => by
    unfold ck at h
    split at h
    · simp only [Bool.and_eq_true, decide_eq_true_eq] at h
      obtain ⟨a, _, l⟩ := cks_ok es c _ false h.1
      exact snd_tup c.hK a (by rw [l]; exact h.2)
    · cases h
  | .lst es, X, W, sc, c, x, h => by
    unfold ck at h
    split at h
    · simp only [Bool.and_eq_true, decide_eq_true_eq] at h
      obtain ⟨a, _, l⟩ := cks_ok es c _ false h.1
      exact snd_lst c.hK a (by rw [l]; exact h.2)
    · cases h
  | .dsp t fl es, X, W, sc, c, x, h => by
    unfold ck at h
    split at h
    · rw [Bool.and_eq_true] at h
      rw [h.1]
      exact snd_dspT c.hK (ckD_ok es c fl _ h.2)
    · rw [Bool.and_eq_true, Bool.not_eq_true'] at h
      rw [h.1]
      exact snd_dspL c.hK (ckD_ok es c fl _ h.2)
    · cases h
  | .call f es, X, W, sc, c, x, h => by
    unfold ck at h
    split at h
    · rename_i g p xs pos
      simp only [Bool.and_eq_true, decide_eq_true_eq] at h
      obtain ⟨⟨⟨rfl, h2⟩, h3⟩, h4⟩ := h
      obtain ⟨a, fd, ps, k⟩ := c.fns _ _ h3
      obtain ⟨pa, st, l⟩ := cks_ok es c _ false h4
      cases xs with
      | nil =>
        cases es with
        | nil => exact snd_call0 c.hK c.tk (c.room.mono (Nat.le_succ n)) k (c.gl h2)
        | cons e es => unfold cks at h4; cases h4
      | cons y ys => exact snd_call c.hK c.tk (c.room.mono (Nat.le_succ n)) k (c.gl h2) pa st l
    · cases h
  | .prim f es, X, W, sc, c, x, h => by
    unfold ck at h
    cases hf : f.two with
    | true =>
      rw [hf, cond_true] at h
      split at h
      · simp only [Bool.and_eq_true, decide_eq_true_eq] at h
        obtain ⟨⟨⟨⟨⟨⟨rfl, h2⟩, h3⟩, rfl⟩, h5⟩, h6⟩, h8⟩ := h
        obtain ⟨pa, st, l⟩ := cks_ok es c _ true h8
        exact snd_two hf c.hK c.calm (c.gl h2) (c.bis _ h3) (c.gl h5) (c.bis _ h6) pa st
      · cases h
    | false =>
      rw [hf, cond_false] at h
      split at h
      · simp only [Bool.and_eq_true, decide_eq_true_eq] at h
        obtain ⟨⟨⟨rfl, h2⟩, h3⟩, h4⟩ := h
        obtain ⟨pa, st, l⟩ := cks_ok es c _ true h4
        exact snd_prim hf c.hK c.calm c.room.units (c.gl h2) (c.bis _ h3) pa st
      · cases h
  | .isi a t, X, W, sc, c, x, h => by
    unfold ck at h
    split at h
    · simp only [Bool.and_eq_true, decide_eq_true_eq] at h
      obtain ⟨⟨⟨⟨⟨⟨⟨⟨rfl, h2⟩, h3⟩, rfl⟩, h5⟩, h6⟩, h7⟩, h8⟩, h9⟩ := h
      exact snd_isi c.hK h7 (c.gl h2) (c.bis _ h3) (c.gl h5) (c.bis _ h6) (ck_ok a c _ h8) h9
    · cases h
  | .app i e, X, W, sc, c, x, h => by
    unfold ck at h
    split at h
    · simp only [Bool.and_eq_true, decide_eq_true_eq] at h
      obtain ⟨⟨⟨⟨h1, rfl⟩, h3⟩, h4⟩, h5⟩ := h
      obtain ⟨a, nm, p, rfl⟩ := c.var h1
      exact snd_app c.hK a (ck_ok e c _ h3) h4 h5
    · cases h
  | .ext i e, X, W, sc, c, x, h => by
    unfold ck at h
    split at h
    · simp only [Bool.and_eq_true, decide_eq_true_eq] at h
      obtain ⟨⟨⟨⟨h1, rfl⟩, h3⟩, h4⟩, h5⟩ := h
      obtain ⟨a, nm, p, rfl⟩ := c.var h1
      exact snd_ext c.hK a (ck_ok e c _ h3) h4 h5
    · cases h
  | .pop i e, X, W, sc, c, x, h => by
    unfold ck at h
    split at h
    · simp only [Bool.and_eq_true, decide_eq_true_eq] at h
      obtain ⟨⟨⟨⟨h1, rfl⟩, h3⟩, h4⟩, h5⟩ := h
      obtain ⟨a, nm, p, rfl⟩ := c.var h1
      exact snd_pop c.hK a (ck_ok e c _ h3) h4 h5
    · cases h
  | .idx a i, X, W, sc, c, x, h => by
    unfold ck at h
    split at h
    · simp only [Bool.and_eq_true] at h
      exact snd_idx c.hK (ck_ok a c _ h.1.1) (ck_ok i c _ h.1.2) (plainIx_of h.2)
    · cases h
  | .slo a i, X, W, sc, c, x, h => by
    unfold ck at h
    split at h
    · simp only [Bool.and_eq_true] at h
      exact snd_slo c.hK (ck_ok a c _ h.1) (ck_ok i c _ h.2)
    · cases h
  | .shi a i, X, W, sc, c, x, h => by
    unfold ck at h
    split at h
    · simp only [Bool.and_eq_true] at h
      exact snd_shi c.hK (ck_ok a c _ h.1) (ck_ok i c _ h.2)
    · cases h
  | .sls a i k, X, W, sc, c, x, h => by
    unfold ck at h
    split at h
    · simp only [Bool.and_eq_true] at h
      exact snd_sls c.hK (ck_ok a c _ h.1.1) (ck_ok i c _ h.1.2) (ck_ok k c _ h.2)
    · cases h
  | .mnd mx a d, X, W, sc, c, x, h => by
    unfold ck at h
    split at h
    · simp only [Bool.and_eq_true, decide_eq_true_eq] at h
      obtain ⟨⟨⟨⟨⟨⟨rfl, h2⟩, h3⟩, h4⟩, h5⟩, h6⟩, h7⟩ := h
      exact snd_mnd c.hK c.calm c.room.units (c.gl h2) (c.bis _ h3) (ck_ok a c _ h5) (ck_ok d c _ h7) h6 h4
    · cases h
  | .sl2 a i j, X, W, sc, c, x, h => by
    unfold ck at h
    split at h
    · simp only [Bool.and_eq_true] at h
      exact snd_sl2 c.hK (ck_ok a c _ h.1.1) (ck_ok i c _ h.1.2) (ck_ok j c _ h.2)
    · cases h
  | .join sep a, X, W, sc, c, x, h => by
    unfold ck at h
    split at h
    · simp only [Bool.and_eq_true, decide_eq_true_eq] at h
      obtain ⟨⟨⟨⟨rfl, rfl⟩, h3⟩, h4⟩, h5⟩ := h
      exact snd_join c.hK (ck_ok a c _ h3) h4 h5
    · cases h
  | .attr a f, X, W, sc, c, x, h => by
    unfold ck at h
    split at h
    · simp only [Bool.and_eq_true, decide_eq_true_eq] at h
      obtain ⟨⟨rfl, h2⟩, h3⟩ := h
      exact snd_attr c.hK c.room (fun c' at_ q => c.cas c' _ at_ q) (ck_ok a c _ h2) h3
    · cases h
  | .mkR cc es, X, W, sc, c, x, h => by
    unfold ck at h
    split at h
    · simp only [Bool.and_eq_true, decide_eq_true_eq] at h
      obtain ⟨⟨⟨rfl, h2⟩, h3⟩, h4⟩ := h
      obtain ⟨pa, st, l⟩ := cks_ok es c _ false h4
      obtain ⟨m1, g, ar, m2⟩ := c.mks _ h3
      exact snd_mkR c.hK c.room m1 m2 (c.cas _ _ _ m2) (c.gl h2) pa st
    · cases h
  | .callT f es, X, W, sc, c, x, h => by
    unfold ck at h
    split at h
    · simp only [Bool.and_eq_true, decide_eq_true_eq] at h
      obtain ⟨⟨⟨rfl, h2⟩, h3⟩, h4⟩ := h
      obtain ⟨a, fd, ps, k⟩ := c.fns _ _ h3
      obtain ⟨pa, st, l⟩ := cks_ok es c _ false h4
      exact snd_callT c.hK c.tk (c.room.mono (Nat.le_succ n)) k (c.gl h2) pa st l
    · cases h
  | .isC a cc, X, W, sc, c, x, h => by
    unfold ck at h
    split at h
    · simp only [Bool.and_eq_true, decide_eq_true_eq] at h
      obtain ⟨⟨⟨⟨⟨⟨⟨rfl, h2⟩, h3⟩, rfl⟩, h5⟩, h6⟩, h8⟩, h9⟩ := h
      obtain ⟨i1, i2⟩ := c.ics _ h6
      exact snd_isC c.hK i1 (c.gl h2) (c.bis _ h3) (c.gl h5) i2 (ck_ok a c _ h8) h9
    · cases h
  | .eqR ne a b, X, W, sc, c, x, h => by
    unfold ck at h
    split at h
    · simp only [Bool.and_eq_true, decide_eq_true_eq] at h
      obtain ⟨⟨⟨rfl, h2⟩, h3⟩, h4⟩ := h
      exact snd_eqR c.hK c.room (fun c' f at_ q => c.cas c' f at_ q) (ck_ok a c _ h2) (ck_ok b c _ h3) (noSet_marks h4)
    · cases h
  | .mkI cc es, X, W, sc, c, x, h => by
    unfold ck at h
    split at h
    · simp only [Bool.and_eq_true, decide_eq_true_eq] at h
      obtain ⟨⟨⟨rfl, h2⟩, h3⟩, h4⟩ := h
      obtain ⟨pa, st, l⟩ := cks_ok es c _ false h4
      obtain ⟨m1, g, ar, m2⟩ := c.mki _ h3
      exact snd_mkI c.hK c.tk c.room m1 m2 (c.cas _ _ _ m2) (c.gl h2) pa st
    · cases h
  | .mcl a f es, X, W, sc, c, x, h => by
    unfold ck at h
    split at h
    · rename_i o m apos ys pos
      simp only [Bool.and_eq_true, decide_eq_true_eq] at h
      obtain ⟨⟨⟨⟨⟨rfl, h2⟩, h3⟩, h4⟩, h5⟩, h6⟩ := h
      obtain ⟨pa, st, l⟩ := cks_ok es c _ false h4
      refine snd_mcl c.hK c.tk (c.room.mono (Nat.le_succ n)) (fun c' at_ q => c.cas c' _ at_ q) (ck_ok a c _ h2) h3 pa st h5 h6 fun hz => ?_
      subst hz
      cases es with
      | nil => rfl
      | cons e es => unfold cks at h4; cases h4
    · cases h
  | .lenX a, X, W, sc, c, x, h => by
    unfold ck at h
    split at h
    · simp only [Bool.and_eq_true, decide_eq_true_eq] at h
      obtain ⟨⟨⟨⟨rfl, h2⟩, h3⟩, h4⟩, h5⟩ := h
      exact snd_lenX c.hK c.calm c.room.units c.room (fun c' at_ q => c.cas c' _ at_ q) (c.gl h2) (c.bis _ h3) (ck_ok a c _ h4) h5
    · cases h
  | .comp own elt tg k src ifs, X, W, sc, c, x, h => by
    unfold ck at h
    split at h
    · rename_i e g scope pos
      simp only [Bool.and_eq_true, decide_eq_true_eq, List.all_eq_true] at h
      obtain ⟨⟨⟨⟨⟨⟨⟨h1, h2⟩, h3⟩, h4⟩, h5⟩, h6⟩, h7⟩, h8⟩ := h
      obtain ⟨t0, it0, if0, as0⟩ := g
      have h1 : as0 = 0 := h1
      subst h1
      obtain ⟨hi, hs⟩ := ckI_ok k src c t0 _ h8
      refine snd_comp c.hK c.calm (by rw [c.eN]; exact c.nd) ⟨hi, c.blkOk h2, fun s H Cc cl fp => (c.blk h2 s H Cc cl fp).tg tg _ h4, fun s H Cc cl fp => ?_, fun s H Cc cl fp => (ck_ok elt (c.blk h2 s H Cc cl fp) _ h5).v, hs, h3⟩
      exact ckF_ok ifs (c.blk h2 s H Cc cl fp) _ h6 h7
    · cases h
  | .comp2 own own1 elt tg k src tg1 k1 src1 ifs, X, W, sc, c, x, h => by
    unfold ck at h
    split at h
    · rename_i e g g1 scope pos
      simp only [Bool.and_eq_true, decide_eq_true_eq, List.all_eq_true, List.isEmpty_iff] at h
      obtain ⟨⟨⟨⟨⟨⟨⟨⟨⟨⟨⟨⟨⟨⟨h1, h2⟩, h3⟩, h4⟩, h5⟩, h6⟩, h7⟩, h8⟩, h9⟩, h10⟩, h11⟩, h12⟩, h13⟩, h14⟩, h15⟩ := h
      obtain ⟨t0, it0, if0, as0⟩ := g
      obtain ⟨t1, it1, if1, as1⟩ := g1
      have h1 : as0 = 0 := h1
      have h2 : as1 = 0 := h2
      have h3 : if0 = [] := h3
      subst h1 h2 h3
      obtain ⟨hi, hs⟩ := ckI_ok k src c t0 _ h13
      refine snd_comp2 c.hK c.calm (by rw [c.eN]; exact c.nd) ⟨hi, c.blkOk h4, fun s H Cc cl fp => (c.blk h4 s H Cc cl fp).tg tg _ h8, fun s H Cc cl fp => (ckI_ok k1 src1 (c.blk h4 s H Cc cl fp) t1 _ h14).1, fun s H Cc cl fp => (c.blk h4 s H Cc cl fp).tg tg1 _ h9, fun s H Cc cl fp => ckF_ok ifs (c.blk h4 s H Cc cl fp) _ h11 h12,
        fun s H Cc cl fp => (ck_ok elt (c.blk h4 s H Cc cl fp) _ h10).v, hs, fun env => noSet_folded h15, h6, h7, fun j hj => ?_⟩
      obtain ⟨p, hp, rfl⟩ := List.mem_map.mp hj
      exact List.mem_map.mpr ⟨p, h5 p hp, rfl⟩
    · cases h
  | .cnt i e, X, W, sc, c, x, h => by
    unfold ck at h
    split at h
    · simp only [Bool.and_eq_true, decide_eq_true_eq] at h
      obtain ⟨⟨⟨⟨h1, rfl⟩, h3⟩, h4⟩, h5⟩ := h
      obtain ⟨a, nm, p, rfl⟩ := c.var h1
      exact snd_cnt c.hK a (ck_ok e c _ h3) h4 h5
    · cases h
theorem ckD_ok : ∀ (es : List E) {X : Cx} {W : WX} {sc : Sc} (c : Cn ct C G n X W N sc) (fl : List Bool) (xs : List Expr), ckD C N sc es fl xs = true → PA X xs (tSp ct W (spl fl (dens G es)))
  | [], X, W, sc, c, fl, xs, h => by
    unfold ckD at h
    split at h
    · exact pa_nilS
    · cases h
  | e :: es, X, W, sc, c, fl, xs, h => by
    unfold ckD at h
    split at h
    · rename_i b fl' y ys
      rw [Bool.and_eq_true] at h
      cases hu : unStar b y with
      | none => rw [hu] at h; cases h.1
      | some z =>
        rw [hu] at h
        exact pa_consS c.hK hu (ck_ok e c _ h.1) (ckD_ok es c _ _ h.2)
    · cases h
theorem cks_ok : ∀ (es : List E) {X : Cx} {W : WX} {sc : Sc} (c : Cn ct C G n X W N sc) (xs : List Expr) (b : Bool), cks C N sc es xs = true → PA X xs (tBsR ct W (Den.bs b (dens G es))) ∧ xs.all noStar = true ∧ (dens G es).length = es.length
  | [], X, W, sc, c, x, b, h => by
    unfold cks at h
    split at h
    · exact ⟨pa_nilB, rfl, rfl⟩
    · cases h
  | e :: es, X, W, sc, c, x, b, h => by
    unfold cks at h
    split at h
    · rename_i y ys
      rw [Bool.and_eq_true, Bool.and_eq_true] at h
      obtain ⟨a1, a2, a3⟩ := cks_ok es c ys b h.2
      exact ⟨pa_consB (ck_ok e c y h.1.1) a1 h.1.2, by rw [List.all_cons, h.1.2, a2]; rfl, by show (dens G es).length + 1 = es.length + 1; rw [a3]⟩
    · cases h
theorem ckL_ok (op : BoolOp) : ∀ (e : E) {X : Cx} {W : WX} {sc : Sc} (c : Cn ct C G n X W N sc) (xs : List Expr) (pos : Pos), ckL C N sc op e xs = true → SndL ct X W op xs pos (den G e)
  | .and a b, X, W, sc, c, x, pos, h => by
    unfold ckL at h
    split at h
    · simp only [Bool.and_eq_true, decide_eq_true_eq] at h
      obtain ⟨⟨rfl, h2⟩, h3⟩ := h
      exact sndL_and (ck_ok a c _ h2) (sndL_one (ck_ok b c _ h3))
    · simp only [Bool.and_eq_true, decide_eq_true_eq] at h
      obtain ⟨⟨rfl, h2⟩, h3⟩ := h
      exact sndL_and (ck_ok a c _ h2) (ckL_ok .And b c _ _ h3)
    · cases h
  | .or a b, X, W, sc, c, x, pos, h => by
    unfold ckL at h
    split at h
    · simp only [Bool.and_eq_true, decide_eq_true_eq] at h
      obtain ⟨⟨rfl, h2⟩, h3⟩ := h
      exact sndL_or (ck_ok a c _ h2) (sndL_one (ck_ok b c _ h3))
    · simp only [Bool.and_eq_true, decide_eq_true_eq] at h
      obtain ⟨⟨rfl, h2⟩, h3⟩ := h
      exact sndL_or (ck_ok a c _ h2) (ckL_ok .Or b c _ _ h3)
    · cases h
  | .var _, X, W, sc, c, x, pos, h => by unfold ckL at h; cases h
  | .glob _, X, W, sc, c, x, pos, h => by unfold ckL at h; cases h
  | .cst _, X, W, sc, c, x, pos, h => by unfold ckL at h; cases h
  | .bin _ _ _, X, W, sc, c, x, pos, h => by unfold ckL at h; cases h
  | .neg _, X, W, sc, c, x, pos, h => by unfold ckL at h; cases h
  | .not _, X, W, sc, c, x, pos, h => by unfold ckL at h; cases h
  | .cmp _ _ _, X, W, sc, c, x, pos, h => by unfold ckL at h; cases h
  | .chain _ _ _ _ _, X, W, sc, c, x, pos, h => by unfold ckL at h; cases h
  | .ite _ _ _, X, W, sc, c, x, pos, h => by unfold ckL at h; cases h
  | .tup _, X, W, sc, c, x, pos, h => by unfold ckL at h; cases h
  | .lst _, X, W, sc, c, x, pos, h => by unfold ckL at h; cases h
  | .dsp _ _ _, X, W, sc, c, x, pos, h => by unfold ckL at h; cases h
  | .call _ _, X, W, sc, c, x, pos, h => by unfold ckL at h; cases h
  | .prim _ _, X, W, sc, c, x, pos, h => by unfold ckL at h; cases h
  | .isi _ _, X, W, sc, c, x, pos, h => by unfold ckL at h; cases h
  | .app _ _, X, W, sc, c, x, pos, h => by unfold ckL at h; cases h
  | .ext _ _, X, W, sc, c, x, pos, h => by unfold ckL at h; cases h
  | .pop _ _, X, W, sc, c, x, pos, h => by unfold ckL at h; cases h
  | .idx _ _, X, W, sc, c, x, pos, h => by unfold ckL at h; cases h
  | .slo _ _, X, W, sc, c, x, pos, h => by unfold ckL at h; cases h
  | .shi _ _, X, W, sc, c, x, pos, h => by unfold ckL at h; cases h
  | .sl2 _ _ _, X, W, sc, c, x, pos, h => by unfold ckL at h; cases h
  | .sls _ _ _, X, W, sc, c, x, pos, h => by unfold ckL at h; cases h
  | .mnd _ _ _, X, W, sc, c, x, pos, h => by unfold ckL at h; cases h
  | .join _ _, X, W, sc, c, x, pos, h => by unfold ckL at h; cases h
  | .comp _ _ _ _ _ _, X, W, sc, c, x, pos, h => by unfold ckL at h; cases h
  | .comp2 _ _ _ _ _ _ _ _ _ _, X, W, sc, c, x, pos, h => by unfold ckL at h; cases h
  | .cnt _ _, X, W, sc, c, x, pos, h => by unfold ckL at h; cases h
  | .attr _ _, X, W, sc, c, x, pos, h => by unfold ckL at h; cases h
  | .mkR _ _, X, W, sc, c, x, pos, h => by unfold ckL at h; cases h
  | .lenX _, X, W, sc, c, x, pos, h => by unfold ckL at h; cases h
  | .mkI _ _, X, W, sc, c, x, pos, h => by unfold ckL at h; cases h
  | .callT _ _, X, W, sc, c, x, pos, h => by unfold ckL at h; cases h
  | .isC _ _, X, W, sc, c, x, pos, h => by unfold ckL at h; cases h
  | .eqR _ _ _, X, W, sc, c, x, pos, h => by unfold ckL at h; cases h
  | .mcl _ _ _, X, W, sc, c, x, pos, h => by unfold ckL at h; cases h
theorem ckF_ok : ∀ (ifs : List E) {X : Cx} {W : WX} {sc : Sc} (c : Cn ct C G n X W N sc) (xs : List Expr), cks C N sc ifs xs = true → ifs.length ≤ 1 → PTs X xs (tTs ct W (tstsR (dens G ifs)))
  | [], X, W, sc, c, xs, h, _ => by
    unfold cks at h
    split at h
    · exact pts_nilR
    · cases h
  | [e], X, W, sc, c, xs, h, _ => by
    unfold cks at h
    split at h
    · rename_i y ys
      rw [Bool.and_eq_true, Bool.and_eq_true] at h
      have h62 := h.2
      unfold cks at h62
      split at h62
      · exact pts_oneR (ck_ok e c _ h.1.1).t
      · cases h62
    · cases h
  | _ :: _ :: _, X, W, sc, c, xs, h, hl => by simp at hl
theorem ckI_ok : ∀ (k : IK) (src : List E) {X : Cx} {W : WX} {sc : Sc} (c : Cn ct C G n X W N sc) (tg x : Expr), ckI C N sc tg k src x = true → L2.PI X tg x (tIt ct W (itR k (dens G src))) ∧ ∀ v, foldedSetIterable x X.env v = pure v
  | .seq, [e], X, W, sc, c, tg, x, h => by
    have h : (ck C N sc e x && notSet x) = true := by unfold ckI at h; exact h
    rw [Bool.and_eq_true] at h
    exact ⟨it_seq c.hK (ck_ok e c _ h.1), noSet_folded h.2⟩
  | .rng, [a], X, W, sc, c, tg, x, h => by
    unfold ckI at h
    split at h <;> first | (cases h; done) | (rename_i q _; cases q; done) | (rename_i q1 q2; cases q2; done) | skip
    · rename_i e g p y pos q1 q2
      cases q2
      simp only [Bool.and_eq_true, decide_eq_true_eq] at h
      obtain ⟨⟨⟨⟨rfl, h2⟩, h3⟩, h4⟩, h5⟩ := h
      exact ⟨it_rng1 (c.gl h2) (c.bis _ h3) (ck_ok a c _ h4) h5, fun _ => rfl⟩
  | .rng, [a, b], X, W, sc, c, tg, x, h => by
    unfold ckI at h
    split at h <;> first | (cases h; done) | (rename_i q _; cases q; done) | (rename_i q1 q2; cases q2; done) | skip
    · rename_i e e2 g p y z pos q1 q2
      cases q2
      simp only [Bool.and_eq_true, decide_eq_true_eq] at h
      obtain ⟨⟨⟨⟨⟨⟨rfl, h2⟩, h3⟩, h4⟩, h5⟩, h6⟩, h7⟩ := h
      exact ⟨it_rng2 (c.gl h2) (c.bis _ h3) (ck_ok a c _ h4) (ck_ok b c _ h6) h5 h7, fun _ => rfl⟩
  | .rng, [a, b, d], X, W, sc, c, tg, x, h => by
    unfold ckI at h
    split at h <;> first | (cases h; done) | (rename_i q _; cases q; done) | (rename_i q1 q2; cases q2; done) | skip
    · rename_i e e2 e4 g p y z u pos q1 q2
      cases q2
      simp only [Bool.and_eq_true, decide_eq_true_eq] at h
      obtain ⟨⟨⟨⟨⟨⟨⟨⟨rfl, h2⟩, h3⟩, h4⟩, h5⟩, h6⟩, h7⟩, h8⟩, h9⟩ := h
      exact ⟨it_rng3 (c.gl h2) (c.bis _ h3) (ck_ok a c _ h4) (ck_ok b c _ h6) (ck_ok d c _ h8) h5 h7 h9, fun _ => rfl⟩
  | .enm, [a], X, W, sc, c, tg, x, h => by
    unfold ckI at h
    split at h <;> first | (cases h; done) | (rename_i q _; cases q; done) | (rename_i q1 q2; cases q2; done) | skip
    · rename_i e g p y pos q1 q2
      cases q2
      simp only [Bool.and_eq_true, decide_eq_true_eq] at h
      obtain ⟨⟨⟨⟨⟨h1, rfl⟩, h2⟩, h3⟩, h4⟩, h5⟩ := h
      obtain ⟨elts, kk, tpos, rfl⟩ := isTupE_of h1
      exact ⟨it_enm c.hK (c.gl h2) (c.bis _ h3) (ck_ok a c _ h4) h5, fun _ => rfl⟩
  | .zp, [a, b], X, W, sc, c, tg, x, h => by
    unfold ckI at h
    split at h <;> first | (cases h; done) | (rename_i q _; cases q; done) | (rename_i q1 q2; cases q2; done) | skip
    · rename_i e e2 g p y z pos q1 q2
      cases q2
      simp only [Bool.and_eq_true, decide_eq_true_eq] at h
      obtain ⟨⟨⟨⟨⟨⟨⟨h1, rfl⟩, h2⟩, h3⟩, h4⟩, h5⟩, h6⟩, h7⟩ := h
      obtain ⟨elts, kk, tpos, rfl⟩ := isTupE_of h1
      exact ⟨it_zip c.hK (c.gl h2) (c.bis _ h3) (ck_ok a c _ h4) (ck_ok b c _ h6) h5 h7, fun _ => rfl⟩
  | .enm, [], X, W, sc, c, tg, x, h => by unfold ckI at h; cases h
  | .enm, _ :: _ :: _, X, W, sc, c, tg, x, h => by unfold ckI at h; cases h
  | .zp, [], X, W, sc, c, tg, x, h => by unfold ckI at h; cases h
  | .zp, [_], X, W, sc, c, tg, x, h => by unfold ckI at h; cases h
  | .zp, _ :: _ :: _ :: _, X, W, sc, c, tg, x, h => by unfold ckI at h; cases h
  | .seq, [], X, W, sc, c, tg, x, h => by unfold ckI at h; cases h
  | .seq, _ :: _ :: _, X, W, sc, c, tg, x, h => by unfold ckI at h; cases h
  | .rng, [], X, W, sc, c, tg, x, h => by unfold ckI at h; cases h
  | .rng, _ :: _ :: _ :: _ :: _, X, W, sc, c, tg, x, h => by unfold ckI at h; cases h
end
end
end PI

set_option Elab.async false
set_option linter.all false
set_option autoImplicit false
set_option maxRecDepth 100000
set_option maxHeartbeats 4000000
namespace PI
open PySem L2
def notComp : Expr → Bool
  | .ListComp .. => false
  | .SetComp .. => false
  | .DictComp .. => false
  | _ => true
def notTuple : Expr → Bool
  | .Tuple .. => false
  | _ => true
def isCall : Expr → Bool
  | .Call .. => true
  | _ => false
def swapB (sc : Sc) (y : Str) (py : Pos) (scope : Scope) (pos : Pos) : Bool :=
  (match sc.lookup y with | some .local => true | _ => false) && py.line == pos.line && !(scope.names.any fun (n, k) => n == y && (k == .local || k == .cell))
def isComp : Expr → Option Scope
  | .ListComp _ _ s _ => some s
  | _ => none
def asgOk : Expr → Bool
  | .ListComp .. => true
  | v => notComp v
/-- four names or more at once -/
def manyT : Expr → Bool
  | .Tuple ts _ _ => decide (4 ≤ ts.length)
  | _ => false
mutual
def ckS (C : Ck) (N : List Str) (sc : Sc) : S → Stmt → Bool
  | .expr e, x => match x with
    | .Expr v _ => ck C N sc e v && isCall v
    | _ => false
  | .asg t e, x => match x with
    | .Assign [y] v _ => ck C N sc e v && ckT N sc t y && (match t with
      | .var _ => asgOk v
      | .tup _ => notComp v && (notTuple v || manyT y))
    | _ => false
  | .newRow i es, x => match x with
    | .Assign [y] v _ => (match v with
      | .List xs _ => cks C N sc es xs && decide (es.length ≤ lim) && ckT N sc (.var i) y
      | _ => false)
    | _ => false
  | .par i j a b, x => match x with
    | .Assign [.Tuple [.Name x px, .Name y py] kt pt] (.Tuple [va, vb] k2 pt2) _ =>
      decide (N[i]? = some x) && decide (N[j]? = some y) && decide (i ≠ j) && decide (x ≠ y) && ck C N sc a va && noStar va && ck C N sc b vb && noStar vb &&
        ((decide (sc.lookup x = some .local) && decide (sc.lookup y = some .local) && px.line == py.line && !(foldedForSure 8 va && foldedForSure 8 vb) && !(constantsAlone 8 va && constantsAlone 8 vb)) || (isLoc sc x && isLoc sc y && (decide (sc.lookup x = some .cell) || decide (sc.lookup y = some .cell) || (foldedForSure 8 va && foldedForSure 8 vb))))
    | _ => false
  | .par3 i j l a b c, x => match x with
    | .Assign [.Tuple [.Name x px, .Name y py, .Name z pz] kt pt] (.Tuple [va, vb, vc] k2 pt2) _ =>
      decide (N[i]? = some x) && decide (N[j]? = some y) && decide (N[l]? = some z)
        && decide (i ≠ j) && decide (i ≠ l) && decide (j ≠ l) && decide (([x, y, z] : List Str).Nodup) && ck C N sc a va && noStar va && ck C N sc b vb && noStar vb && ck C N sc c vc && noStar vc
        && ((decide (sc.lookup x = some .local) && decide (sc.lookup y = some .local) && decide (sc.lookup z = some .local) && px.line == py.line && px.line == pz.line && !(foldedForSure 8 va && foldedForSure 8 vb && foldedForSure 8 vc) && !(constantsAlone 8 va && constantsAlone 8 vb && constantsAlone 8 vc))
          || (isLoc sc x && isLoc sc y && isLoc sc z && (decide (sc.lookup x = some .cell) || (decide (sc.lookup y = some .cell) || decide (sc.lookup z = some .cell)))))
    | _ => false
  | .setIdx i k e, x => match x with
    | .Assign [.Subscript o kx _] v _ => ckVar N sc i o && ck C N sc k kx && ck C N sc e v && notSlice kx && notComp v && notTuple v
    | _ => false
  | .setAttr i f e, x => match x with
    | .Assign [.Attribute o g _] v _ => ckVar N sc i o && decide (g = f) && ck C N sc e v && notComp v
    | _ => false
  | .augAttr i f op e, x => match x with
    | .AugAssign (.Attribute o g _) op' v _ => ckVar N sc i o && decide (g = f) && decide (op' = op) && (decide (op = .Add) || decide (op = .Sub)) && ck C N sc e v
    | _ => false
  | .aug i op e, x => match x with
    | .AugAssign (.Name y _) o v _ => decide (o = op) && isLoc sc y && decide (N[i]? = some y) && ck C N sc e v
    | _ => false
  | .if_ c a b, x => match x with
    | .If t l r _ => ck C N sc c t && ckSs C N sc a l && ckSs C N sc b r
    | _ => false
  | .while_ n c body, x => match x with
    | .While y b [] _ => ck C N sc c y && ckSs C N sc body b
    | _ => false
  | .for_ t k src body, x => match x with
    | .For y it b [] _ => ckT N sc t y && ckI C N sc y k src it && ckSs C N sc body b
    | _ => false
  | .ret e, x => match x with
    | .Return (some v) _ => ck C N sc e v
    | _ => false
  | .never, _ => true
  | .pass, x => match x with
    | .Pass _ => true
    | _ => false
def ckSs (C : Ck) (N : List Str) (sc : Sc) : List S → List Stmt → Bool
  | [], x => match x with
    | [] => true
    | _ => false
  | s :: ss, x => match x with
    | y :: ys => ckS C N sc s y && ckSs C N sc ss ys
    | [] => false
end
section
variable {ct : Ct} {C : Ck} {G : En} {n : Nat} {X : Cx} {W : WX} {N : List Str} {sc : Sc}
theorem noComp_sw {v : Expr} {t : Option Expr} {l : Nat} {env : Env} (h : notComp v = true) : swapsWith v t l env = pure false := by
  cases v <;> first | rfl | cases h
theorem noComp_sole {v t : Expr} {l : Nat} {env : Env} (h : notComp v = true) : swapsWithSole [t] v l env = pure false := noComp_sw h
theorem asgOk_or {v : Expr} (h : asgOk v = true) : notComp v = true ∨ ∃ elt gs scope pos, v = .ListComp elt gs scope pos := by
  cases v with
  | ListComp elt gs scope pos => exact .inr ⟨_, _, _, _, rfl⟩
  | _ => exact .inl h
theorem call_sw {v : Expr} {l : Nat} {env : Env} (h : isCall v = true) : swapsWith v none l env = pure false := by
  cases v <;> first | rfl | cases h
theorem noTuple_st {t v : Expr} {env : Env} (h : notTuple v = true) : swappedStores [t] v env = pure none := by
  cases v <;> first | (cases h; done) | (unfold swappedStores; cases t <;> rfl)
theorem many_st {t v : Expr} {env : Env} (h : manyT t = true) : swappedStores [t] v env = pure none := by
  cases t with
  | Tuple ts k p =>
    have h : 4 ≤ ts.length := of_decide_eq_true h
    by_cases hv : notTuple v = true
    · exact noTuple_st hv
    cases v with
    | Tuple vs k2 p2 =>
      have h2 : (!(ts.length == 2 || ts.length == 3) || vs.length != ts.length || env.blockKind != .function) = true := by
        have e2 : (ts.length == 2) = false := by
          rw [beq_eq_false_iff_ne]
          omega
        have e3 : (ts.length == 3) = false := by
          rw [beq_eq_false_iff_ne]
          omega
        rw [e2, e3]
        rfl
      unfold swappedStores
      simp only []
      rw [if_pos h2]
    | _ => exact absurd rfl hv
  | _ => cases h
theorem Cn.kindB (c : Cn ct C G n X W N sc) : X.env.blockKind = .function := by
  unfold Env.blockKind; rw [c.kind]; rfl
theorem Cn.sw (c : Cn ct C G n X W N sc) {elt : Expr} {gs : List Comprehension} {scope : Scope} {pos py : Pos} {y : Str} {l : Nat} (hy : isLoc sc y = true) : swapsWith (.ListComp elt gs scope pos) (some (.Name y py)) l X.env = pure (swapB sc y py scope pos) := by
  unfold swapsWith swapB
  unfold isLoc at hy
  split at hy
  · rename_i q
    have k : X.env.kindOf y = some .local := c.loc y q
    simp only [c.kindB, k, q, Expr.pos]
    rfl
  · rename_i q
    have k : X.env.kindOf y = some .cell := (c.cel y q).1
    simp only [c.kindB, k, q, Expr.pos]
    rfl
  · cases hy
theorem subs_assign {o i : Expr} {pos : Pos} {env : Env} (h : notSlice i = true) : ∀ v, assign (.Subscript o i pos) env v = (do
      let ov ← holding [v] (eval o env)
      let iv ← holding [v, ov] (eval i env)
      standAt pos
      holding [v, ov, iv] (setItem ov iv v)
      release [v, ov, iv] []) := by
  intro v
  cases i <;> first | rfl | cases h
theorem Cn.swst (c : Cn ct C G n X W N sc) {x y : Str} {px py pt pt2 : Pos} {kt k2 : Nat} {va vb : Expr} (h1 : sc.lookup x = some .local) (h2 : sc.lookup y = some .local) (hxy : x ≠ y) (hl : (px.line == py.line) = true) (s1 : noStar va = true) (s2 : noStar vb = true)
    (f : (foldedForSure 8 va && foldedForSure 8 vb) = false) (g : (constantsAlone 8 va && constantsAlone 8 vb) = false) : swappedStores [.Tuple [.Name x px, .Name y py] kt pt] (.Tuple [va, vb] k2 pt2) X.env = pure (some [x, y]) := by
  have k1 : X.env.kindOf x = some .local := c.loc x h1
  have k2 : X.env.kindOf y = some .local := c.loc y h2
  have hl' : py.line = px.line := (beq_iff_eq.mp hl).symm
  have ne : (x == y) = false := beq_eq_false_iff_ne.mpr hxy
  have ne' : (y == x) = false := beq_eq_false_iff_ne.mpr fun z => hxy z.symm
  have nm : List.filterMap (fun
    | Expr.Name id pos => if X.env.kindOf id == some .local && pos.line == px.line then some id else none
    | _ => none) [Expr.Name x px, Expr.Name y py] = [x, y] := by
    simp [List.filterMap, k1, k2, hl']
  have an : (([va, vb] : List Expr).any fun | .Starred .. => true | _ => false) = false := by
    clear f g nm ne ne' hl hl'
    cases va <;> first | (cases s1; done) | (cases vb <;> first | (cases s2; done) | rfl)
  have f' : ([va, vb] : List Expr).all (foldedForSure 8) = false := by simpa [List.all_cons] using f
  have g' : ([va, vb] : List Expr).all (constantsAlone 8) = false := by simpa [List.all_cons] using g
  have ed : ([x, y] : List Str).eraseDups.length = 2 := by
    simp [List.eraseDups_cons, ne, ne', hxy, fun z : y = x => hxy z.symm]
  show (do
    if !(([Expr.Name x px, Expr.Name y py] : List Expr).length == 2 || ([Expr.Name x px, Expr.Name y py] : List Expr).length == 3) || ([va, vb] : List Expr).length != ([Expr.Name x px, Expr.Name y py] : List Expr).length || X.env.blockKind != .function then return none
    if ([va, vb] : List Expr).any fun | .Starred .. => true | _ => false then return none
    let names := ([Expr.Name x px, Expr.Name y py] : List Expr).filterMap fun
      | .Name id pos => if X.env.kindOf id == some .local && pos.line == px.line then some id else none
      | _ => none
    if names.length != ([Expr.Name x px, Expr.Name y py] : List Expr).length || names.eraseDups.length != names.length then return none
    if ([va, vb] : List Expr).all (foldedForSure 8) then return none
    if ([va, vb] : List Expr).all (constantsAlone 8) then unsupported "assign.tuple-of-constant-expressions:order-of-the-stores"
    return some names : Sem (Option (List Str))) = pure (some [x, y])
  rw [nm, an, f', g', c.kindB]
  simp only [ed]
  rfl
/-- two constants: the pair is made -/
theorem fold_st {x y : Str} {px py pt pt2 : Pos} {kt k2 : Nat} {va vb : Expr} {env : Env} (h1 : foldedForSure 8 va = true) (h2 : foldedForSure 8 vb = true) : swappedStores [.Tuple [.Name x px, .Name y py] kt pt] (.Tuple [va, vb] k2 pt2) env = pure none := by
  have hf : ([va, vb] : List Expr).all (foldedForSure 8) = true := by simp [h1, h2]
  unfold swappedStores
  simp only [hf, if_true]
  repeat' split
  all_goals rfl
theorem Cn.swno (c : Cn ct C G n X W N sc) {x y : Str} {px py pt pt2 : Pos} {kt k2 : Nat} {va vb : Expr} (h : sc.lookup x = some .cell ∨ sc.lookup y = some .cell) (s1 : noStar va = true) (s2 : noStar vb = true) :
    swappedStores [.Tuple [.Name x px, .Name y py] kt pt] (.Tuple [va, vb] k2 pt2) X.env = pure none := by
  have an : (([va, vb] : List Expr).any fun | .Starred .. => true | _ => false) = false := by
    cases va <;> first | (cases s1; done) | (cases vb <;> first | (cases s2; done) | rfl)
  have nm : ((List.filterMap (fun
    | Expr.Name id pos => if X.env.kindOf id == some .local && pos.line == px.line then some id else none
    | _ => none) [Expr.Name x px, Expr.Name y py]).length != 2) = true := by
    rcases h with h | h
    · have k1 : X.env.kindOf x = some .cell := (c.cel x h).1
      by_cases hq : (X.env.kindOf y == some .local && py.line == px.line) = true
      · simp [List.filterMap, k1, hq]
      · simp [List.filterMap, k1, hq]
    · have k1 : X.env.kindOf y = some .cell := (c.cel y h).1
      by_cases hq : X.env.kindOf x = some .local
      · simp [List.filterMap, k1, hq]
      · simp [List.filterMap, k1, hq]
  show (do
    if !(([Expr.Name x px, Expr.Name y py] : List Expr).length == 2 || ([Expr.Name x px, Expr.Name y py] : List Expr).length == 3) || ([va, vb] : List Expr).length != ([Expr.Name x px, Expr.Name y py] : List Expr).length || X.env.blockKind != .function then return none
    if ([va, vb] : List Expr).any fun | .Starred .. => true | _ => false then return none
    let names := ([Expr.Name x px, Expr.Name y py] : List Expr).filterMap fun
      | .Name id pos => if X.env.kindOf id == some .local && pos.line == px.line then some id else none
      | _ => none
    if names.length != ([Expr.Name x px, Expr.Name y py] : List Expr).length || names.eraseDups.length != names.length then return none
    if ([va, vb] : List Expr).all (foldedForSure 8) then return none
    if ([va, vb] : List Expr).all (constantsAlone 8) then unsupported "assign.tuple-of-constant-expressions:order-of-the-stores"
    return some names : Sem (Option (List Str))) = pure none
  rw [an, c.kindB]
  simp only [List.length_cons, List.length_nil]
  rw [nm]
  rfl
theorem Cn.swst3 (c : Cn ct C G n X W N sc) {x y z : Str} {px py pz pt pt2 : Pos} {kt k2 : Nat} {va vb vc : Expr} (h1 : sc.lookup x = some .local) (h2 : sc.lookup y = some .local) (h3 : sc.lookup z = some .local) (hnd : ([x, y, z] : List Str).Nodup) (hl : (px.line == py.line) = true) (hl2 : (px.line == pz.line) = true)
    (s1 : noStar va = true) (s2 : noStar vb = true) (s3 : noStar vc = true) (f : (foldedForSure 8 va && foldedForSure 8 vb && foldedForSure 8 vc) = false) (g : (constantsAlone 8 va && constantsAlone 8 vb && constantsAlone 8 vc) = false) :
    swappedStores [.Tuple [.Name x px, .Name y py, .Name z pz] kt pt] (.Tuple [va, vb, vc] k2 pt2) X.env = pure (some [x, y, z]) := by
  have k1 : X.env.kindOf x = some .local := c.loc x h1
  have k2 : X.env.kindOf y = some .local := c.loc y h2
  have k3 : X.env.kindOf z = some .local := c.loc z h3
  have hl' : py.line = px.line := (beq_iff_eq.mp hl).symm
  have hl2' : pz.line = px.line := (beq_iff_eq.mp hl2).symm
  have hxy : x ≠ y := fun e => by simp [e] at hnd
  have hxz : x ≠ z := fun e => by simp [e] at hnd
  have hyz : y ≠ z := fun e => by simp [e] at hnd
  have nm : List.filterMap (fun
    | Expr.Name id pos => if X.env.kindOf id == some .local && pos.line == px.line then some id else none
    | _ => none) [Expr.Name x px, Expr.Name y py, Expr.Name z pz] = [x, y, z] := by
    simp [List.filterMap, k1, k2, k3, hl', hl2']
  have an : (([va, vb, vc] : List Expr).any fun | .Starred .. => true | _ => false) = false := by
    clear f g nm hl hl'
    have one : ∀ v : Expr, noStar v = true → (match v with | .Starred .. => true | _ => false) = false := fun v h => by cases v <;> first | rfl | cases h
    simp [List.any_cons, one va s1, one vb s2, one vc s3]
  have f' : ([va, vb, vc] : List Expr).all (foldedForSure 8) = false := by simpa [List.all_cons, Bool.and_assoc] using f
  have g' : ([va, vb, vc] : List Expr).all (constantsAlone 8) = false := by simpa [List.all_cons, Bool.and_assoc] using g
  have ed : ([x, y, z] : List Str).eraseDups.length = 3 := by
    simp [List.eraseDups_cons, hxy, hxz, hyz, hxy.symm, hxz.symm, hyz.symm]
  show (do
    if !(([Expr.Name x px, Expr.Name y py, Expr.Name z pz] : List Expr).length == 2 || ([Expr.Name x px, Expr.Name y py, Expr.Name z pz] : List Expr).length == 3) || ([va, vb, vc] : List Expr).length != ([Expr.Name x px, Expr.Name y py, Expr.Name z pz] : List Expr).length || X.env.blockKind != .function then return none
    if ([va, vb, vc] : List Expr).any fun | .Starred .. => true | _ => false then return none
    let names := ([Expr.Name x px, Expr.Name y py, Expr.Name z pz] : List Expr).filterMap fun
      | .Name id pos => if X.env.kindOf id == some .local && pos.line == px.line then some id else none
      | _ => none
    if names.length != ([Expr.Name x px, Expr.Name y py, Expr.Name z pz] : List Expr).length || names.eraseDups.length != names.length then return none
    if ([va, vb, vc] : List Expr).all (foldedForSure 8) then return none
    if ([va, vb, vc] : List Expr).all (constantsAlone 8) then unsupported "assign.tuple-of-constant-expressions:order-of-the-stores"
    return some names : Sem (Option (List Str))) = pure (some [x, y, z])
  rw [nm, an, f', g', c.kindB]
  simp only [ed]
  rfl
theorem Cn.swno3 (c : Cn ct C G n X W N sc) {x y z : Str} {px py pz pt pt2 : Pos} {kt k2 : Nat} {va vb vc : Expr} (h : sc.lookup x = some .cell ∨ sc.lookup y = some .cell ∨ sc.lookup z = some .cell) (s1 : noStar va = true) (s2 : noStar vb = true) (s3 : noStar vc = true) :
    swappedStores [.Tuple [.Name x px, .Name y py, .Name z pz] kt pt] (.Tuple [va, vb, vc] k2 pt2) X.env = pure none := by
  have an : (([va, vb, vc] : List Expr).any fun | .Starred .. => true | _ => false) = false := by
    have one : ∀ v : Expr, noStar v = true → (match v with | .Starred .. => true | _ => false) = false := fun v h => by cases v <;> first | rfl | cases h
    simp [List.any_cons, one va s1, one vb s2, one vc s3]
  have nm : ((List.filterMap (fun
    | Expr.Name id pos => if X.env.kindOf id == some .local && pos.line == px.line then some id else none
    | _ => none) [Expr.Name x px, Expr.Name y py, Expr.Name z pz]).length != 3) = true := by
    rcases h with h | h | h
    · have k1 : X.env.kindOf x = some .cell := (c.cel x h).1
      by_cases hq : (X.env.kindOf y == some .local && py.line == px.line) = true <;> by_cases hr : (X.env.kindOf z == some .local && pz.line == px.line) = true <;> simp [List.filterMap, k1, hq, hr]
    · have k1 : X.env.kindOf y = some .cell := (c.cel y h).1
      by_cases hq : X.env.kindOf x = some .local <;> by_cases hr : (X.env.kindOf z == some .local && pz.line == px.line) = true <;> simp [List.filterMap, k1, hq, hr]
    · have k1 : X.env.kindOf z = some .cell := (c.cel z h).1
      by_cases hq : X.env.kindOf x = some .local <;> by_cases hr : (X.env.kindOf y == some .local && py.line == px.line) = true <;> simp [List.filterMap, k1, hq, hr]
  show (do
    if !(([Expr.Name x px, Expr.Name y py, Expr.Name z pz] : List Expr).length == 2 || ([Expr.Name x px, Expr.Name y py, Expr.Name z pz] : List Expr).length == 3) || ([va, vb, vc] : List Expr).length != ([Expr.Name x px, Expr.Name y py, Expr.Name z pz] : List Expr).length || X.env.blockKind != .function then return none
    if ([va, vb, vc] : List Expr).any fun | .Starred .. => true | _ => false then return none
    let names := ([Expr.Name x px, Expr.Name y py, Expr.Name z pz] : List Expr).filterMap fun
      | .Name id pos => if X.env.kindOf id == some .local && pos.line == px.line then some id else none
      | _ => none
    if names.length != ([Expr.Name x px, Expr.Name y py, Expr.Name z pz] : List Expr).length || names.eraseDups.length != names.length then return none
    if ([va, vb, vc] : List Expr).all (foldedForSure 8) then return none
    if ([va, vb, vc] : List Expr).all (constantsAlone 8) then unsupported "assign.tuple-of-constant-expressions:order-of-the-stores"
    return some names : Sem (Option (List Str))) = pure none
  rw [an, c.kindB]
  simp only [List.length_cons, List.length_nil]
  rw [nm]
  rfl
end
end PI

set_option Elab.async false
set_option linter.all false
set_option autoImplicit false
set_option maxRecDepth 100000
set_option maxHeartbeats 4000000
namespace PI
open PySem L2
section
variable {ct : Ct} {C : Ck} {G : En} {n : Nat} {X : Cx} {W : WX} {N : List Str} {sc : Sc}
theorem Cn.asgT (c : Cn ct C G n X W N sc) {i : Nat} {y : Expr} (h : ckT N sc (.var i) y = true) : ∃ nm p, y = .Name nm p ∧ isLoc sc nm = true ∧ N[i]? = some nm := by
  unfold ckT at h
  split at h
  · rw [Bool.and_eq_true, decide_eq_true_eq] at h
    exact ⟨_, _, rfl, h.1, h.2⟩
  · cases h
theorem comp_parts (c : Cn ct C G n X W N sc) {own : List (Str × Nat)} {elt : E} {tg : T} {k : IK} {src ifs : List E} {e : Expr} {g : Comprehension} {scope : Scope} {pos : Pos} (h : ck C N sc (.comp own elt tg k src ifs) (.ListComp e [g] scope pos) = true) :
    g.is_async = 0 ∧ CompP ct X W e g.target g.iter g.ifs scope own (den G elt) tg k (dens G src) (dens G ifs) := by
  unfold ck at h
  simp only [Bool.and_eq_true, decide_eq_true_eq, List.all_eq_true] at h
  obtain ⟨⟨⟨⟨⟨⟨⟨h1, h2⟩, h3⟩, h4⟩, h5⟩, h6⟩, h7⟩, h8⟩ := h
  obtain ⟨hi, hs⟩ := ckI_ok k src c g.target _ h8
  exact ⟨h1, hi, c.blkOk h2, fun s H Cc cl fp => (c.blk h2 s H Cc cl fp).tg tg _ h4, fun s H Cc cl fp => ckF_ok ifs (c.blk h2 s H Cc cl fp) _ h6 h7, fun s H Cc cl fp => (ck_ok elt (c.blk h2 s H Cc cl fp) _ h5).v, hs, h3⟩
theorem comp2_parts (c : Cn ct C G n X W N sc) {own own1 : List (Str × Nat)} {elt : E} {tg tg1 : T} {k k1 : IK} {src src1 ifs : List E} {e : Expr} {g g1 : Comprehension} {scope : Scope} {pos : Pos} (h : ck C N sc (.comp2 own own1 elt tg k src tg1 k1 src1 ifs) (.ListComp e [g, g1] scope pos) = true) :
    g.is_async = 0 ∧ g1.is_async = 0 ∧ g.ifs = [] ∧ Comp2P ct X W e g.target g.iter g1.target g1.iter g1.ifs scope own own1 (den G elt) tg k (dens G src) tg1 k1 (dens G src1) (dens G ifs) := by
  unfold ck at h
  simp only [Bool.and_eq_true, decide_eq_true_eq, List.all_eq_true, List.isEmpty_iff] at h
  obtain ⟨⟨⟨⟨⟨⟨⟨⟨⟨⟨⟨⟨⟨⟨h1, h2⟩, h3⟩, h4⟩, h5⟩, h6⟩, h7⟩, h8⟩, h9⟩, h10⟩, h11⟩, h12⟩, h13⟩, h14⟩, h15⟩ := h
  obtain ⟨hi, hs⟩ := ckI_ok k src c g.target _ h13
  refine ⟨h1, h2, h3, hi, c.blkOk h4, fun s H Cc cl fp => (c.blk h4 s H Cc cl fp).tg tg _ h8, fun s H Cc cl fp => (ckI_ok k1 src1 (c.blk h4 s H Cc cl fp) g1.target _ h14).1, fun s H Cc cl fp => (c.blk h4 s H Cc cl fp).tg tg1 _ h9, fun s H Cc cl fp => ckF_ok ifs (c.blk h4 s H Cc cl fp) _ h11 h12,
        fun s H Cc cl fp => (ck_ok elt (c.blk h4 s H Cc cl fp) _ h10).v, hs, fun env => noSet_folded h15, h6, h7, fun j hj => ?_⟩
  obtain ⟨p, hp, rfl⟩ := List.mem_map.mp hj
  exact List.mem_map.mpr ⟨p, h5 p hp, rfl⟩
theorem ck_comp {e : E} {elt : Expr} {gs : List Comprehension} {scope : Scope} {pos : Pos} (h : ck C N sc e (.ListComp elt gs scope pos) = true) : (∃ own e' tg k src ifs g, e = .comp own e' tg k src ifs ∧ gs = [g]) ∨ ∃ own own1 e' tg k src tg1 k1 src1 ifs g g1, e = .comp2 own own1 e' tg k src tg1 k1 src1 ifs ∧ gs = [g, g1] := by
  cases e with
  | comp own elt tg k src ifs =>
    unfold ck at h
    split at h
    · rename_i q
      cases q
      exact .inl ⟨_, _, _, _, _, _, _, rfl, rfl⟩
    · cases h
  | comp2 own own1 elt tg k src tg1 k1 src1 ifs =>
    unfold ck at h
    split at h
    · rename_i q
      cases q
      exact .inr ⟨_, _, _, _, _, _, _, _, _, _, _, _, rfl, rfl⟩
    · cases h
  | and a b => unfold ck at h; cases h
  | or a b => unfold ck at h; cases h
  | cst d => unfold ck at h; cases d <;> cases h
  | prim f es =>
    unfold ck at h
    cases hf : f.two <;> rw [hf] at h <;> cases h
  | _ => unfold ck at h; cases h
theorem vr_none {e : E} {i : Nat} (h : (den G e).vr = some i) : e = .var i := by
  cases e with
  | var j =>
    have : some j = some i := h
    cases this; rfl
  | _ => exact absurd h (by intro z; cases z)
set_option maxHeartbeats 16000000 in
mutual
theorem ckS_ok (c : Cn ct C G n X W N sc) (po : PassesOwn (model X.prog X.w) X.A X.env X.xe) : ∀ (s : S) (x : Stmt), ckS C N sc s x = true → PS X x (tEx ct W (dst G s))
  | .expr e, x, h => by
    unfold ckS at h
    split at h
    · rw [Bool.and_eq_true] at h
      exact st_expr (ck_ok e c _ h.1) (call_sw h.2)
    · cases h
  | .asg t e, x, h => by
    unfold ckS at h
    split at h
    · rename_i y v pos
      rw [Bool.and_eq_true, Bool.and_eq_true] at h
      obtain ⟨⟨h1, h2⟩, h3⟩ := h
      cases t with
      | var i =>
        obtain ⟨nm, p, rfl, hl, hn⟩ := c.asgT h2
        obtain ⟨l1, l2⟩ := c.isl hl
        have hN : X.N.Nodup := by rw [c.eN]; exact c.nd
        have hi : X.N[i]? = some nm := by rw [c.eN]; exact hn
        have h3 : asgOk v = true := h3
        rcases asgOk_or h3 with hv | ⟨elt, gs, scope, cpos, rfl⟩
        · exact st_asgV (ps_set hN hi l1 (ck_ok e c _ h1).v (noComp_sw hv) l2) fun _ _ _ q => q
        · rcases ck_comp h1 with ⟨own, e', tg, k, src, ifs, g, rfl, rfl⟩ | ⟨own, own1, e', tg, k, src, tg1, k1, src1, ifs, g, g1, rfl, rfl⟩
          · obtain ⟨h0, cp⟩ := comp_parts c h1
            have sw := c.sw (elt := elt) (gs := [g]) (scope := scope) (pos := cpos) (py := p) (y := nm) (l := pos.line) hl
            obtain ⟨t0, it0, if0, as0⟩ := g
            have h0 : as0 = 0 := h0
            subst h0
            by_cases sb : swapB sc nm p scope cpos = true
            · have hloc : X.env.scope.names.lookup nm = some .local := by
                unfold swapB at sb
                rw [Bool.and_eq_true, Bool.and_eq_true] at sb
                have := sb.1.1
                split at this
                · rename_i q; exact c.loc nm q
                · cases this
              rw [sb] at sw
              exact st_asgV (ps_setLc c.calm hN hi hloc sw cp.hi cp.ok cp.hg cp.ht cp.he cp.hs) fun σ H Q q => comp_rd cp.ts (by
                obtain ⟨F, M, s, rl, p⟩ := q
                refine ⟨F, M, s, rl, ?_⟩
                show Pst ct W (DrV ct.K) σ F H M s Q ((itR k (dens G src) s).bind fun its s1 => compR (own.map (·.2)) (den G e') tg (dens G ifs) its s1)
                rw [← dComp_eq]
                exact p)
            · have sb : swapB sc nm p scope cpos = false := by simpa using sb
              rw [sb] at sw
              exact st_asgV (ps_set hN hi l1 (ck_ok _ c _ h1).v sw l2) fun _ _ _ q => q
          · obtain ⟨h0, h01, h02, cp⟩ := comp2_parts c h1
            have sw := c.sw (elt := elt) (gs := [g, g1]) (scope := scope) (pos := cpos) (py := p) (y := nm) (l := pos.line) hl
            obtain ⟨t0, it0, if0, as0⟩ := g
            obtain ⟨t1, it1, if1, as1⟩ := g1
            have h0 : as0 = 0 := h0
            have h01 : as1 = 0 := h01
            have h02 : if0 = [] := h02
            subst h0 h01 h02
            by_cases sb : swapB sc nm p scope cpos = true
            · have hloc : X.env.scope.names.lookup nm = some .local := by
                unfold swapB at sb
                rw [Bool.and_eq_true, Bool.and_eq_true] at sb
                have := sb.1.1
                split at this
                · rename_i q; exact c.loc nm q
                · cases this
              rw [sb] at sw
              exact st_asgV (ps_setLc2 c.calm hN hi hloc sw cp.hi cp.ok cp.sub cp.hg (fun _ _ _ _ _ => pts_nil) cp.hi1 cp.hg1 cp.ht1 cp.he cp.hs cp.hs1) fun σ H Q q => comp2_rd cp.ts cp.ts1 cp.sub (by
                obtain ⟨F, M, s, rl, p⟩ := q
                refine ⟨F, M, s, rl, ?_⟩
                show Pst ct W (DrV ct.K) σ F H M s Q ((itR k (dens G src) s).bind fun its s1 => comp2R (own.map (·.2)) (own1.map (·.2)) (den G e') tg (itR k1 (dens G src1)) tg1 (dens G ifs) its s1)
                rw [← dComp2_eq]
                exact p)
            · have sb : swapB sc nm p scope cpos = false := by simpa using sb
              rw [sb] at sw
              exact st_asgV (ps_set hN hi l1 (ck_ok _ c _ h1).v sw l2) fun _ _ _ q => q
      | tup ts =>
        rw [Bool.and_eq_true] at h3
        have hy : noStar y = true := by
          unfold ckT at h2
          split at h2
          · rfl
          · cases h2
        exact st_asgT (ck_ok e c _ h1) (c.tg (.tup ts) y h2) (noComp_sole h3.1) (by
          rcases Bool.or_eq_true _ _ ▸ h3.2 with q | q
          · exact noTuple_st q
          · exact many_st q) (by rw [assignEach_cons [] X.env hy]; rfl)
    · cases h
  | .newRow i es, x, h => by
    unfold ckS at h
    split at h
    · split at h
      · simp only [Bool.and_eq_true, decide_eq_true_eq] at h
        obtain ⟨⟨h1, h2⟩, h3⟩ := h
        obtain ⟨nm, p, rfl, hl, hn⟩ := c.asgT h3
        obtain ⟨l1, l2⟩ := c.isl hl
        obtain ⟨pa, st, le⟩ := cks_ok es c _ false h1
        exact st_row (ps_set (by rw [c.eN]; exact c.nd) (by rw [c.eN]; exact hn) l1 (pe_lst pa) rfl l2) (by rw [le]; exact h2)
      · cases h
    · cases h
  | .par i j a b, x, h => by
    unfold ckS at h
    split at h
    · rename_i x px y py kt pt va vb k2 pt2 pos
      simp only [Bool.and_eq_true, Bool.or_eq_true, decide_eq_true_eq, Bool.not_eq_true'] at h
      obtain ⟨⟨⟨⟨⟨⟨⟨⟨h3, h4⟩, h5⟩, h6⟩, h8⟩, h9⟩, h10⟩, h11⟩, hh⟩ := h
      have hN : X.N.Nodup := by rw [c.eN]; exact c.nd
      have hi : X.N[i]? = some x := by rw [c.eN]; exact h3
      have hj : X.N[j]? = some y := by rw [c.eN]; exact h4
      have pa := pa_cons (ck_ok a c _ h8).v (pa_cons (ck_ok b c _ h10).v pa_nil (starEach_cons _ X.env h11)) (starEach_cons _ X.env h9)
      rcases hh with ⟨⟨⟨⟨e1, e2⟩, h7⟩, h12⟩, h13⟩ | ⟨⟨e1, e2⟩, e3⟩
      · exact st_par (ps_par c.calm hN hi hj h5 (c.loc _ e1) (c.loc _ e2) pa (c.swst e1 e2 h6 h7 h9 h11 h12 h13) rfl)
      · obtain ⟨l1, l2⟩ := c.isl e1
        obtain ⟨m1, m2⟩ := c.isl e2
        rcases e3 with e3 | e3
        · exact st_par (ps_parC c.calm hN hi hj l1 l2 m1 m2 pa (c.swno e3 h9 h11) rfl)
        · exact st_par (ps_parC c.calm hN hi hj l1 l2 m1 m2 pa (fold_st e3.1 e3.2) rfl)
    · cases h
  | .par3 i j l a b d, x, h => by
    unfold ckS at h
    split at h
    · rename_i x px y py z pz kt pt va vb vc k2 pt2 pos
      simp only [Bool.and_eq_true, Bool.or_eq_true, decide_eq_true_eq, Bool.not_eq_true'] at h
      obtain ⟨⟨⟨⟨⟨⟨⟨⟨⟨⟨⟨⟨⟨h4, h5⟩, h6⟩, h7⟩, h8⟩, h9⟩, h10⟩, h13⟩, h14⟩, h15⟩, h16⟩, h17⟩, h18⟩, hh⟩ := h
      have hN : X.N.Nodup := by rw [c.eN]; exact c.nd
      have hi : X.N[i]? = some x := by rw [c.eN]; exact h4
      have hj : X.N[j]? = some y := by rw [c.eN]; exact h5
      have hl : X.N[l]? = some z := by rw [c.eN]; exact h6
      have pa := pa_consV (ck_ok a c _ h13) (pa_consV (ck_ok b c _ h15) (pa_consV (ck_ok d c _ h17) pa_nilV h18) h16) h14
      rcases hh with ⟨⟨⟨⟨⟨⟨e1, e2⟩, e3⟩, h11⟩, h12⟩, h19⟩, h20⟩ | ⟨⟨⟨e1, e2⟩, e3⟩, e4⟩
      · exact st_par3 (ps_par3 c.calm hN hi hj hl h7 h8 h9 (c.loc _ e1) (c.loc _ e2) (c.loc _ e3) pa (c.swst3 e1 e2 e3 h10 h11 h12 h14 h16 h18 h19 h20) rfl)
      · obtain ⟨l1, l2⟩ := c.isl e1
        obtain ⟨m1, m2⟩ := c.isl e2
        obtain ⟨n1, n2⟩ := c.isl e3
        exact st_par3 (ps_par3C c.calm hN hi hj hl l1 l2 m1 m2 n1 n2 pa (c.swno3 e4 h14 h16 h18) rfl)
    · cases h
  | .setIdx i k e, x, h => by
    unfold ckS at h
    split at h
    · simp only [Bool.and_eq_true] at h
      obtain ⟨⟨⟨⟨⟨h1, h2⟩, h3⟩, h4⟩, h5⟩, h6⟩ := h
      obtain ⟨a, nm, p, rfl⟩ := c.var h1
      exact st_set a (ck_ok k c _ h2) (ck_ok e c _ h3) (noComp_sole h5) (noTuple_st h6) (subs_assign h4)
    · cases h
  | .setAttr i f e, x, h => by
    unfold ckS at h
    split at h
    · simp only [Bool.and_eq_true, decide_eq_true_eq] at h
      obtain ⟨⟨⟨h1, rfl⟩, h3⟩, h4⟩ := h
      obtain ⟨a, nm, p, rfl⟩ := c.var h1
      exact st_setAt c.hK (fun c' at_ q => c.cas c' _ at_ q) a (ck_ok e c _ h3) (noComp_sw h4)
    · cases h
  | .augAttr i f op e, x, h => by
    unfold ckS at h
    split at h
    · simp only [Bool.and_eq_true, Bool.or_eq_true, decide_eq_true_eq] at h
      obtain ⟨⟨⟨⟨h1, rfl⟩, rfl⟩, h3⟩, h4⟩ := h
      obtain ⟨a, nm, p, rfl⟩ := c.var h1
      exact st_augAt c.hK (fun c' at_ q => c.cas c' _ at_ q) a (ck_ok e c _ h4) h3
    · cases h
  | .aug i op e, x, h => by
    unfold ckS at h
    split at h
    · simp only [Bool.and_eq_true, decide_eq_true_eq] at h
      obtain ⟨⟨⟨rfl, h2⟩, h3⟩, h4⟩ := h
      obtain ⟨l1, l2⟩ := c.isl h2
      exact st_aug (by rw [c.eN]; exact c.nd) (by rw [c.eN]; exact h3) l1 (ck_ok e c _ h4) l2
    · cases h
  | .if_ d a b, x, h => by
    unfold ckS at h
    split at h
    · simp only [Bool.and_eq_true] at h
      exact st_if (ck_ok d c _ h.1.1) (ckSs_ok c po a _ h.1.2) (ckSs_ok c po b _ h.2)
    · cases h
  | .while_ n0 d body, x, h => by
    unfold ckS at h
    split at h
    · simp only [Bool.and_eq_true] at h
      exact st_while po (ck_ok d c _ h.1) (ckSs_ok c po body _ h.2)
    · cases h
  | .for_ t k src body, x, h => by
    unfold ckS at h
    split at h
    · simp only [Bool.and_eq_true] at h
      obtain ⟨hi, hs⟩ := ckI_ok k src c _ _ h.1.2
      exact st_for po c.calm hi (c.tg t _ h.1.1) (ckSs_ok c po body _ h.2) hs
    · cases h
  | .ret e, x, h => by
    unfold ckS at h
    split at h
    · refine st_ret (ck_ok e c _ h) fun i hi => ?_
      cases vr_none hi
      exact (c.var (by unfold ck at h; exact h)).1
    · cases h
  | .never, x, h => st_never
  | .pass, x, h => by
    unfold ckS at h
    split at h
    · exact st_pass
    · cases h
theorem ckSs_ok (c : Cn ct C G n X W N sc) (po : PassesOwn (model X.prog X.w) X.A X.env X.xe) : ∀ (ss : List S) (xs : List Stmt), ckSs C N sc ss xs = true → PSs X xs (tEx ct W (dsts G ss))
  | [], x, h => by
    unfold ckSs at h
    split at h
    · exact sts_nil
    · cases h
  | s :: ss, x, h => by
    unfold ckSs at h
    split at h
    · rw [Bool.and_eq_true] at h
      exact sts_cons (ckS_ok c po s _ h.1) (ckSs_ok c po ss _ h.2)
    · cases h
end

/-! ### defs -/
/-- a def of the text, checked: the name in the module, its qualified name, its statement; its names by slot; its pure form -/
structure DefC where
  nm : Str
  gl : Bool
  nam : Str
  qual : Str
  st : Stmt
  N : List Str
  ps : List Str
  fn : Fn
def noDup : List Str → Bool
  | [] => true
  | x :: xs => !xs.contains x && noDup xs
theorem noDup_ok : ∀ {l : List Str}, noDup l = true → l.Nodup
  | [], _ => List.nodup_nil
  | x :: xs, h => by
    unfold noDup at h
    rw [Bool.and_eq_true, Bool.not_eq_true'] at h
    exact List.nodup_cons.mpr ⟨fun z => by rw [List.contains_iff_mem.mpr z] at h; exact absurd h.1 (by decide), noDup_ok h.2⟩
def ckScope (N ps : List Str) (sc : Scope) : Bool :=
  (match sc.kind with | .function => true | _ => false) && !sc.isCoroutine && !sc.isGenerator && noDup N && decide (N.take ps.length = ps) && (ps.all fun x => isLoc sc.names x) && (sc.names.all fun y => match y.2 with | .free => false | _ => true) && (sc.names.all fun y => decide (sc.names.lookup y.1 = some y.2))
theorem ckScope_ok {N ps : List Str} {sc : Scope} (h : ckScope N ps sc = true) : FnScope N ps sc := by
  unfold ckScope at h
  simp only [Bool.and_eq_true, decide_eq_true_eq, Bool.not_eq_true', List.all_eq_true] at h
  obtain ⟨⟨⟨⟨⟨⟨⟨h1, h2⟩, h3⟩, h4⟩, h5⟩, h6⟩, h7⟩, h8⟩ := h
  refine ⟨?_, h2, h3, noDup_ok h4, h5, fun x hx => ?_, fun y hy z => ?_⟩
  · split at h1
    · assumption
    · cases h1
  · have q := h6 x hx
    unfold isLoc at q
    split at q
    · exact .inl (by assumption)
    · exact .inr (by assumption)
    · cases q
  · have q := h7 y hy
    rw [z] at q
    cases q
def plainArgs (a : Arguments) (ps : List Str) : Bool := a.posonlyargs.isEmpty && decide (a.args.map (·.arg) = ps) && a.vararg.isNone && a.kwonlyargs.isEmpty && a.kw_defaults.isEmpty && a.kwarg.isNone && a.defaults.isEmpty
def ckDef (C : Ck) (d : DefC) : Bool := ckScope d.N d.ps (defScope d.st) && ckSs C d.N (defScope d.st).names d.fn.body (defBody d.st) && decide (d.fn.ps = d.ps.length) && decide (d.fn.n = d.N.length) && decide (d.ps.length ≤ d.N.length)
end
end PI

set_option Elab.async false
set_option linter.all false
set_option autoImplicit false
set_option maxRecDepth 100000
set_option maxHeartbeats 4000000
namespace PI
open PySem L2
structure ClsC where
  nm : Str
  cm : Bool
  ats : List (Str × At)
  dk : Bool := false
def At.isI : At → Bool
  | .fld => true
  | .propI _ => true
  | .methI _ _ => true
  | _ => false
/-- a text: its defs, its constants, the names that are the built-ins', its classes -/
structure Tx where
  defs : List DefC
  gs : List (Str × PV)
  bi : List Str
  cls : List ClsC
def fsOf (defs : List DefC) (f : Str) : Option Fn := (defs.find? fun d => decide (d.nm = f)).map (·.fn)
def glOf (gs : List (Str × PV)) (x : Str) : Option PV := gs.lookup x
def kindA (d : ClsC) (a : At) : Option At := if a.isI = d.dk then some a else none
def caOf (cls : List ClsC) (c f : Str) : Option At := (cls.find? fun d => decide (d.nm = c)).bind fun d => (d.ats.lookup f).bind (kindA d)
def isMeth : Option At → Bool
  | some (.meth _ _) => true
  | _ => false
def isMethI : Option At → Bool
  | some (.methI _ _) => true
  | _ => false
def isIsi : Option At → Bool
  | some .isi => true
  | _ => false
abbrev Tx.pg (T : Tx) : Pg := ⟨fsOf T.defs, glOf T.gs, caOf T.cls⟩
def ckOf (T : Tx) : Ck where
  ft := fun f => if f == ("__debug__" : Str) then none else (T.defs.find? fun d => decide (d.nm = f)).bind fun d => if d.gl then some d.fn.ps else none
  gl := fun x => (glOf T.gs x).isSome
  bi := fun x => T.bi.contains x
  cm := fun c => !(c == ("__debug__" : Str)) && ((T.cls.find? fun d => decide (d.nm = c)).any (·.cm)) && isMeth (caOf T.cls c "__init__")
  ic := fun c => !(c == ("__debug__" : Str)) && isIsi (caOf T.cls c "__class__")
  ci := fun c => !(c == ("__debug__" : Str)) && ((T.cls.find? fun d => decide (d.nm = c)).any (·.cm)) && isMethI (caOf T.cls c "__init__")
/-- where a def stands -/
def HeadF (K : PySem.W.Frag) (mg : Str → Option Value) (d : DefC) : Prop := d.gl = true → ∃ f fd, Fun K d.nam d.qual d.st f fd ∧ mg d.nm = some (.ref f) ∧ Binds K fd d.ps []
def HeadG (K : PySem.W.Frag) (mg : Str → Option Value) (x : Str) (d : PV) : Prop := ∃ v u, mg x = some u ∧ RelV v u ∧ ∀ F M, Dn K F M v d
/-- what a class has as f -/
def HeadA (K : PySem.W.Frag) (defs : List DefC) (C : Addr) (f : Str) (a : At) : Prop := match a with
  | .slot i => ∃ p, SlX.Slot1 K C f p i
  | .prop g => ∃ (p gf : Addr) (fd : FuncData) (d : DefC), PySem.W.findIn K (.ref C) f = some (some (.ref p)) ∧ PySem.W.specialIn K (.ref p) "__get__" = some (some (.builtin "property.__get__")) ∧
      PySem.W.takesIn K (.ref p) = some true ∧ (∃ rest, PySem.W.recIn K p "property" = some (.ref gf :: rest)) ∧ defs.find? (fun d => decide (d.nm = g)) = some d ∧ Fun K d.nam d.qual d.st gf fd ∧ Binds K fd d.ps [] ∧ d.ps.length = 1
  | .meth g ar => ∃ (gf : Addr) (fd : FuncData) (d : DefC), Meth K C f gf ∧ defs.find? (fun d => decide (d.nm = g)) = some d ∧ Fun K d.nam d.qual d.st gf fd ∧ Binds K fd d.ps [] ∧ d.ps.length = ar
  | .fld => NoAttr K C f
  | .isi => SlX.SIsi K C
  | .neO => PySem.W.findIn K (.ref C) f = some (some (.builtin "object.__ne__")) ∧ PySem.W.mroIn K C (.type "object") = some true
  | .propI g => ∃ (p gf : Addr) (fd : FuncData) (d : DefC), PropOf K C f p gf ∧ defs.find? (fun d => decide (d.nm = g)) = some d ∧ Fun K d.nam d.qual d.st gf fd ∧ Binds K fd d.ps [] ∧ d.ps.length = 1
  | .methI g ar => ∃ (gf : Addr) (fd : FuncData) (d : DefC), Meth K C f gf ∧ defs.find? (fun d => decide (d.nm = g)) = some d ∧ Fun K d.nam d.qual d.st gf fd ∧ Binds K fd d.ps [] ∧ d.ps.length = ar
def HeadC (K : PySem.W.Frag) (mg : Str → Option Value) (defs : List DefC) (c : ClsC) : Prop := ∃ C, PySem.W.nsIn K mainGlobals c.nm = some (some (.ref C)) ∧ mg c.nm = some (.ref C) ∧ (match c.dk with | true => Cls K C | false => SlX.SCls K C) ∧ (c.cm = true → ∃ f, Mk K C f) ∧ ∀ p ∈ c.ats, HeadA K defs C p.1 p.2
structure HeadT (K : PySem.W.Frag) (mg : Str → Option Value) (T : Tx) : Prop where
  fn : ∀ e ∈ T.defs, HeadF K mg e
  gl : ∀ p ∈ T.gs, HeadG K mg p.1 p.2
  bi : ∀ x ∈ T.bi, mg x = none
  cl : ∀ c ∈ T.cls, HeadC K mg T.defs c
section
variable {ct : Ct} {P : Program} {w : World} {mg : Str → Option Value} {base : Heap}
theorem rl_start {F H : Hp} {M : List Addr} {st : Sto} {vs : List V} {ds : List PV} {N : List Str} {m : Nat} (sm : Same F H) (so : Stos ct.K F H M st) (d : Dns ct.K F M vs ds) (hm : m = N.length - vs.length) :
    Rl ct.K F H M (L2.start N vs) ⟨ds.map (fun d => some (.val d)) ++ List.replicate m none, st⟩ := by
  have hl := d.length
  have key : ∀ (i : Nat) (o : Option SV), (ds.map (fun d => some (SV.val d)) ++ List.replicate m none)[i]? = some o → o = none ∨ ∃ dd, o = some (.val dd) ∧ ds[i]? = some dd := fun i o e => by
    by_cases hi : i < ds.length
    · rw [List.getElem?_append_left (by simpa using hi), List.getElem?_map] at e
      have : ds[i]? = some ds[i] := by simp [hi]
      rw [this] at e
      cases e
      exact .inr ⟨_, rfl, by simp [hi]⟩
    · rw [List.getElem?_append_right (by simpa using hi), List.getElem?_replicate] at e
      split at e
      · cases e; exact .inl rfl
      · cases e
  refine ⟨sm, ?_, fun i o e => ?_, fun i j xs ys p a1 _ _ _ => ?_, so⟩
  · unfold L2.start
    simp only [List.length_append, List.length_map, List.length_replicate]
    omega
  · rcases key i o e with rfl | ⟨dd, rfl, h⟩
    · trivial
    · obtain ⟨v, h1, h2⟩ := d.get h
      refine ⟨v, ?_, h2⟩
      have hi : i < vs.length := (List.getElem?_eq_some_iff.mp h1).1
      unfold L2.start
      rw [List.getElem?_append_left (by simpa using hi), List.getElem?_map, h1]
      rfl
  · rcases key i _ a1 with h | ⟨dd, h, _⟩
    · cases h
    · cases h
theorem own_start {ds : List PV} {σ : L2.St} {m : Nat} (p : Addr) : ¬ Own σ (ds.map (fun d => some (SV.val d)) ++ List.replicate m none) p := fun ⟨i, xs, h1, _⟩ => by
  by_cases hi : i < ds.length
  · rw [List.getElem?_append_left (by simpa using hi), List.getElem?_map] at h1
    have : ds[i]? = some ds[i] := by simp [hi]
    rw [this] at h1
    cases h1
  · rw [List.getElem?_append_right (by simpa using hi), List.getElem?_replicate] at h1
    split at h1 <;> cases h1
theorem Ext.o0 {O O' : Addr → Prop} {F H F' H' : Hp} {M M' : List Addr} (e : Ext O F H M F' H' M' O') (h : ∀ p, ¬ O p) : Ext O0 F H M F' H' M' O0 :=
  ⟨e.fs, fun p o h1 h2 _ => e.keep p o h1 h2 (h p), e.dom, fun p o q => (e.newF p o q).imp_right fun z => z.imp_right fun z => h p z, e.pre, e.newM, fun _ z => z.elim⟩
theorem find_mem {defs : List DefC} {f : Str} {d : DefC} (h : defs.find? (fun d => decide (d.nm = f)) = some d) : d ∈ defs ∧ d.nm = f := ⟨List.mem_of_find?_eq_some h, of_decide_eq_true (List.find?_some (p := fun d : DefC => decide (d.nm = f)) h)⟩
abbrev FnsAt (ct : Ct) (P : Program) (w : World) (mg : Str → Option Value) (base : Heap) (T : Tx) (n : Nat) : Prop :=
  (∀ (f : Str) (ar : Nat), (ckOf T).ft f = some ar → ∃ a fd ps, mg f = some (.ref a) ∧ PySem.W.keepIn ct.K (.ref a) = true ∧ Binds ct.K fd ps [] ∧ FnOk P w ct.K mg base (L2.CX P w) (2 * n) a fd ps (spF ct (callP T.pg n) f ar) ∧ (f == ("__debug__" : Str)) = false) ∧
  ∀ (g : Str) (d : DefC) (a : Addr) (fd : FuncData), T.defs.find? (fun d => decide (d.nm = g)) = some d → Fun ct.K d.nam d.qual d.st a fd → FnOk P w ct.K mg base (L2.CX P w) (2 * n) a fd d.ps (spF ct (callP T.pg n) g d.ps.length)
theorem ats_of {T : Tx} {n : Nat} (hT : HeadT ct.K mg T) (X : Cx) (hP : X.prog = P) (hw : X.w = w) (hK : X.K = ct.K) (hm : X.mg = mg) (hb : X.base = base)
    (ih : ∀ (g : Str) (d : DefC) (a : Addr) (fd : FuncData), T.defs.find? (fun d => decide (d.nm = g)) = some d → Fun ct.K d.nam d.qual d.st a fd → FnOk P w ct.K mg base (L2.CX P w) (2 * n) a fd d.ps (spF ct (callP T.pg n) g d.ps.length)) :
    ∀ c f a, caOf T.cls c f = some a → AtOk ct X (2 * n) (callP T.pg n) c f a := by
  subst hP hw hm hb
  intro c f a h
  unfold caOf at h
  obtain ⟨k, h1, h2⟩ := Option.bind_eq_some_iff.mp h
  have hmem := List.mem_of_find?_eq_some h1
  have hnm : k.nm = c := of_decide_eq_true (List.find?_some (p := fun d : ClsC => decide (d.nm = c)) h1)
  obtain ⟨C, g1, g2, g3, g4, g5⟩ := hT.cl k hmem
  rw [hnm] at g1
  obtain ⟨a', h2, h3⟩ := Option.bind_eq_some_iff.mp h2
  unfold kindA at h3
  by_cases hd : a'.isI = k.dk
  · rw [if_pos hd] at h3
    cases h3
    have q := g5 (f, a) (PySem.mem_of_lookup h2)
    refine ⟨C, g1, ?_⟩
    rw [hK]
    rw [← hd] at g3
    cases a with
    | slot i => exact ⟨g3, q⟩
    | prop g =>
      obtain ⟨p, gf, fd, d, q1, q2, q3, q4, q5, q6, q7, q8⟩ := q
      have z := ih g d gf fd q5 q6
      rw [q8] at z
      exact ⟨g3, p, gf, fd, d.ps, q1, q2, q3, q4, q7, z⟩
    | meth g ar =>
      obtain ⟨gf, fd, d, q1, q2, q3, q4, q5⟩ := q
      have z := ih g d gf fd q2 q3
      rw [q5] at z
      exact ⟨g3, gf, fd, d.ps, q1, q4, z⟩
    | fld => exact ⟨g3, q⟩
    | neO => exact ⟨g3, q⟩
    | isi => exact ⟨g3, by rw [← hnm]; exact g2, q⟩
    | propI g =>
      obtain ⟨p, gf, fd, d, q1, q5, q6, q7, q8⟩ := q
      have z := ih g d gf fd q5 q6
      rw [q8] at z
      exact ⟨g3, p, gf, fd, d.ps, q1, q7, z⟩
    | methI g ar =>
      obtain ⟨gf, fd, d, q1, q2, q3, q4, q5⟩ := q
      have z := ih g d gf fd q2 q3
      rw [q5] at z
      exact ⟨g3, gf, fd, d.ps, q1, q4, z⟩
  · rw [if_neg hd] at h3; cases h3
theorem mks_of {T : Tx} (hT : HeadT ct.K mg T) (X : Cx) (hm : X.mg = mg) : ∀ c, (ckOf T).cm c = true → MkOk ct X c ∧ ∃ g ar, caOf T.cls c "__init__" = some (.meth g ar) := by
  subst hm
  intro c h
  have h : (!(c == ("__debug__" : Str)) && ((T.cls.find? fun d => decide (d.nm = c)).any (·.cm)) && isMeth (caOf T.cls c "__init__")) = true := h
  simp only [Bool.and_eq_true, Bool.not_eq_true'] at h
  obtain ⟨⟨h1, h2⟩, h3⟩ := h
  obtain ⟨k, e1, e2⟩ : ∃ k, T.cls.find? (fun d => decide (d.nm = c)) = some k ∧ k.cm = true := by
    cases z : T.cls.find? (fun d => decide (d.nm = c)) with
    | none => rw [z] at h2; cases h2
    | some k => rw [z] at h2; exact ⟨k, rfl, h2⟩
  have hmem := List.mem_of_find?_eq_some e1
  have hnm : k.nm = c := of_decide_eq_true (List.find?_some (p := fun d : ClsC => decide (d.nm = c)) e1)
  obtain ⟨C, g1, g2, g3, g4, g5⟩ := hT.cl k hmem
  rw [hnm] at g1 g2
  obtain ⟨f, hf⟩ := g4 e2
  refine ⟨⟨⟨C, f, g1, g2, hf⟩, h1⟩, ?_⟩
  unfold isMeth at h3
  split at h3
  · exact ⟨_, _, by assumption⟩
  · cases h3
theorem mki_of {T : Tx} (hT : HeadT ct.K mg T) (X : Cx) (hm : X.mg = mg) : ∀ c, (ckOf T).ci c = true → MkOkI ct X c ∧ ∃ g ar, caOf T.cls c "__init__" = some (.methI g ar) := by
  subst hm
  intro c h
  have h : (!(c == ("__debug__" : Str)) && ((T.cls.find? fun d => decide (d.nm = c)).any (·.cm)) && isMethI (caOf T.cls c "__init__")) = true := h
  simp only [Bool.and_eq_true, Bool.not_eq_true'] at h
  obtain ⟨⟨h1, h2⟩, h3⟩ := h
  obtain ⟨k, e1, e2⟩ : ∃ k, T.cls.find? (fun d => decide (d.nm = c)) = some k ∧ k.cm = true := by
    cases z : T.cls.find? (fun d => decide (d.nm = c)) with
    | none => rw [z] at h2; cases h2
    | some k => rw [z] at h2; exact ⟨k, rfl, h2⟩
  have hmem := List.mem_of_find?_eq_some e1
  have hnm : k.nm = c := of_decide_eq_true (List.find?_some (p := fun d : ClsC => decide (d.nm = c)) e1)
  obtain ⟨C, g1, g2, g3, g4, g5⟩ := hT.cl k hmem
  rw [hnm] at g1 g2
  obtain ⟨f, hf⟩ := g4 e2
  refine ⟨⟨⟨C, f, g1, g2, hf⟩, h1⟩, ?_⟩
  unfold isMethI at h3
  split at h3
  · exact ⟨_, _, by assumption⟩
  · cases h3
theorem ics_of {T : Tx} {n : Nat} {cl : Str → List PV → Sto → C} (X : Cx) (hA : ∀ c f a, caOf T.cls c f = some a → AtOk ct X n cl c f a) : ∀ c, (ckOf T).ic c = true → IscOk ct X c ∧ (c == ("__debug__" : Str)) = false := by
  intro c h
  have h : (!(c == ("__debug__" : Str)) && isIsi (caOf T.cls c "__class__")) = true := h
  simp only [Bool.and_eq_true, Bool.not_eq_true'] at h
  obtain ⟨h1, h2⟩ := h
  unfold isIsi at h2
  split at h2
  · rename_i e
    obtain ⟨C, z1, z2, z3, z4⟩ := hA c _ _ e
    exact ⟨⟨C, z1, z3, z2, z4⟩, h1⟩
  · cases h2
theorem fn_step {T : Tx} (hck : T.defs.all (ckDef (ckOf T)) = true) (hT : HeadT ct.K mg T) {n : Nat} (ih : FnsAt ct P w mg base T n)
    {f : Str} {d : DefC} {a : Addr} {fd : FuncData} (h3 : T.defs.find? (fun d => decide (d.nm = f)) = some d) (F : Fun ct.K d.nam d.qual d.st a fd) : FnOk P w ct.K mg base (L2.CX P w) (2 * (n + 1)) a fd d.ps (spF ct (callP T.pg (n + 1)) f d.ps.length) := by
  obtain ⟨hm, rfl⟩ := find_mem h3
  have h1 : fsOf T.defs d.nm = some d.fn := by unfold fsOf; rw [h3]; rfl
  have hcd := List.all_eq_true.mp hck d hm
  unfold ckDef at hcd
  simp only [Bool.and_eq_true, decide_eq_true_eq] at hcd
  obtain ⟨⟨⟨⟨c1, c2⟩, c3⟩, c4⟩, c5⟩ := hcd
  have S := ckScope_ok c1
  refine F.okX (k := 2 * n + 1) S (fun vs H Q E ⟨_, _, _, ds, _, _, dn, hl, _⟩ => by rw [dn.length, hl]) fun cdv A outer s H vs Q E hr ⟨F0, M0, st, ds, sm, so, dn, hl, k⟩ => ?_
  have cn : Cn ct (ckOf T) ⟨callP T.pg n, glOf T.gs, caOf T.cls⟩ (2 * n) (cxOf (L2.CX P w) P w ct.K mg base d.N d.qual (defScope d.st) a cdv A outer s H E) (fun cls dd _ H => E cls dd H) d.N (defScope d.st).names := by
    refine ⟨rfl, rfl, rfl, S.nd, S.kind, fun _ h => h, fun _ h => ⟨h, rfl⟩, fun x h => (S.nofree _ (PySem.mem_of_lookup h) rfl).elim, fun _ h => h, takes_of rfl rfl rfl rfl, hr, fun g ar' hg' => ?_, fun x hx => ?_, fun x hx => hT.bi x (List.contains_iff_mem.mp hx), ats_of hT _ rfl rfl rfl rfl rfl ih.2, mks_of hT _ rfl, ics_of _ (ats_of hT _ rfl rfl rfl rfl rfl ih.2), mki_of hT _ rfl⟩
    · obtain ⟨a', fd', ps', z1, z2, z3, z4, z5⟩ := ih.1 g ar' hg'
      exact ⟨a', fd', ps', z1, z2, z3, z4, z5⟩
    · have hx : (glOf T.gs x).isSome = true := hx
      obtain ⟨dd, hdd⟩ := Option.isSome_iff_exists.mp hx
      obtain ⟨v, u, z1, z2, z3⟩ := hT.gl (x, dd) (PySem.mem_of_lookup hdd)
      exact ⟨dd, v, u, hdd, z1, z2, z3⟩
  refine ⟨_, ckSs_ok cn (passes_of rfl) d.fn.body _ c2, ?_⟩
  have hvl : vs.length = d.ps.length := by rw [dn.length, hl]
  have rl := rl_start (N := d.N) (m := d.fn.n - d.fn.ps) sm so dn (by rw [c3, c4, hvl])
  refine ⟨F0, M0, _, rl, ?_⟩
  have e : callP T.pg (n + 1) d.nm ds st = runFn ⟨callP T.pg n, glOf T.gs, caOf T.cls⟩ d.fn ds st := by
    show (match fsOf T.defs d.nm with
      | some fn => runFn ⟨callP T.pg n, glOf T.gs, caOf T.cls⟩ fn ds st
      | none => .stuck) = _
    rw [h1]
  rw [e] at k
  unfold runFn at k
  rw [if_pos (by rw [hl, c3])] at k
  generalize hS : (⟨ds.map (fun d => some (SV.val d)) ++ List.replicate (d.fn.n - d.fn.ps) none, st⟩ : Ps) = S0 at *
  have hO : ∀ p, ¬ Own (L2.start d.N vs) S0.loc p := fun p => by rw [← hS]; exact own_start p
  cases er : dsts ⟨callP T.pg n, glOf T.gs, caOf T.cls⟩ d.fn.body S0 with
  | stuck => rw [er] at k; exact k
  | exc c fs s' =>
    rw [er] at k
    exact fun cls dd σ' F' H' M' x rl' q => k cls dd F' H' M' (x.o0 hO) rl'.same rl'.sto q
  | ok fl s' =>
    cases fl with
    | next =>
      rw [er] at k
      exact fun σ' F' H' M' x rl' => k .non F' H' M' (x.o0 hO) rl'.same rl'.sto .non
    | brk => rw [er] at k; exact k.elim
    | cont => rw [er] at k; exact k.elim
    | ret r =>
      rw [er] at k
      refine fun v F' H' M' x sm' so' dt => k v F' H' M' (x.o0 hO) sm' so' ?_
      cases r with
      | val d' => exact dt
      | own xs =>
        obtain ⟨q, us, a1, a2, a3, a4, a5, a6⟩ := dt
        exact ⟨q, us, a1, a2, a3, a4, a5, a6.resolve_right (hO q)⟩
theorem ft_of {T : Tx} {f : Str} {ar : Nat} (h : (ckOf T).ft f = some ar) : (f == ("__debug__" : Str)) = false ∧ ∃ d, T.defs.find? (fun d => decide (d.nm = f)) = some d ∧ d.gl = true ∧ d.fn.ps = ar := by
  have h : (if f == ("__debug__" : Str) then none else (T.defs.find? fun d => decide (d.nm = f)).bind fun d => if d.gl then some d.fn.ps else none) = some ar := h
  by_cases hdb : (f == ("__debug__" : Str)) = true
  · rw [if_pos hdb] at h; cases h
  · rw [if_neg hdb] at h
    obtain ⟨d, h1, h2⟩ := Option.bind_eq_some_iff.mp h
    refine ⟨by simpa using hdb, d, h1, ?_⟩
    by_cases hg : d.gl = true
    · rw [if_pos hg] at h2; exact ⟨hg, Option.some.inj h2⟩
    · rw [if_neg hg] at h2; cases h2
theorem all_fns {T : Tx} (hck : T.defs.all (ckDef (ckOf T)) = true) (hT : HeadT ct.K mg T) : ∀ n : Nat, FnsAt ct P w mg base T n := by
  intro n
  induction n with
  | zero =>
    refine ⟨fun f ar hf => ?_, fun g d a fd _ _ => ⟨fun vs H Q E ⟨_, _, _, _, _, _, _, _, z⟩ => z.elim, fun _ _ _ _ _ _ _ _ _ _ _ _ _ ⟨_, _, _, _, _, _, _, _, z⟩ => z.elim⟩⟩
    obtain ⟨hdb, d, h3, hgl, _⟩ := ft_of hf
    obtain ⟨hm, rfl⟩ := find_mem h3
    obtain ⟨a, fd, F, e1, e2⟩ := hT.fn d hm hgl
    exact ⟨a, fd, d.ps, e1, F.kp, e2, ⟨fun vs H Q E ⟨_, _, _, _, _, _, _, _, z⟩ => z.elim, fun _ _ _ _ _ _ _ _ _ _ _ _ _ ⟨_, _, _, _, _, _, _, _, z⟩ => z.elim⟩, hdb⟩
  | succ n ih =>
    refine ⟨fun f ar hf => ?_, fun g d a fd h3 F => fn_step hck hT ih h3 F⟩
    obtain ⟨hdb, d, h3, hgl, hps⟩ := ft_of hf
    obtain ⟨hm, hnm⟩ := find_mem h3
    obtain ⟨a, fd, F, e1, e2⟩ := hT.fn d hm hgl
    have hcd := List.all_eq_true.mp hck d hm
    unfold ckDef at hcd
    simp only [Bool.and_eq_true, decide_eq_true_eq] at hcd
    have har : ar = d.ps.length := by rw [← hps]; exact hcd.1.1.2
    rw [har]
    exact ⟨a, fd, d.ps, by rw [← hnm]; exact e1, F.kp, e2, fn_step hck hT ih h3 F, hdb⟩
/-- the law: what the pure form computes of every script -/
theorem walk_law {l : PySem.W.OpenLaw} {q : Program} {loose : List Str} {XP : (Str → Option Value) → Heap → Prop} {YP : World → Heap → Prop} {d : DefRec} {K : Params → PySem.W.Frag} {k : Nat} {x : Str} {T : Tx} {dl : DefC}
    (hn : l.most = some 63) (hdf : d.params.defaults = []) (hr : Room (2 * (k + 1)) callerA) (hY : ∀ (w : World) (h : Heap), YP w h → (K w.params).In h)
    (hck : T.defs.all (ckDef (ckOf T)) = true) (hfind : T.defs.find? (fun e => decide (e.nm = d.name)) = some dl) (hgl : dl.gl = true) (hps : dl.ps = [x])
    (hbl : ∀ (kV doc pm : Value) (an : Option Addr) (cdv ct u : Value), bindArgs (PySem.W.fnOf dl.nam dl.qual (defArgs dl.st) (defBody dl.st) (defScope dl.st) .none kV doc pm an cdv ct) ⟨[u], []⟩ = Pure.pure [(x, u)])
    (HF : ∀ (w : World) (mg : Str → Option Value) (h : Heap), (K w.params).In h → h.Ns mainGlobals mg → HeadT (K w.params) mg T)
    (pure : ∀ ns : List Int, ns.length ≤ 63 → (∀ z ∈ ns, Builtin.Int.intBits z ≤ 1048576) → ∃ st, callP T.pg (k + 1) d.name [.scr ns] [] = .ok (.val (.bl true)) st) :
    PySem.W.WalkO q loose XP YP l.row.toRowW d [] (fun f vs => PySem.call f vs) := by
  refine L2.walk_ofB (n := 63) (k := 2 * (k + 1)) (x := x) (CX := fun w => L2.CX l.prog w) (sp := fun w => spF ⟨K w.params, fun _ _ _ _ _ _ _ => False⟩ (callP T.pg (k + 1)) d.name dl.ps.length) hn (by rw [sizeLine_eq]; decide) hdf hr hY (fun w mg fa h KX G hmg => ?_) (fun w H a ns hl hz _ hS => ?_) fun w H s e s' z => ?_
  · have hT := HF w mg h KX G
    obtain ⟨hm, hnm⟩ := find_mem hfind
    obtain ⟨a, fd, F, e1, e2⟩ := hT.fn dl hm hgl
    rw [hnm, hmg] at e1
    have e1 : fa = a := by
      have := Option.some.inj e1
      injection this
    subst e1
    refine ⟨fd, fun s u => ?_, fun base _ _ => ?_⟩
    · obtain ⟨oc, od, kV, doc, pm, an, cdv, ct, osl, rfl, _⟩ := F.ex
      exact .of_eq (hbl kV doc pm an cdv ct u)
    · rw [← hps]
      exact fn_step (ct := ⟨K w.params, fun _ _ _ _ _ _ _ => False⟩) hck hT (all_fns hck hT k) hfind F
  · obtain ⟨st, e⟩ := pure ns hl hz
    refine ⟨H, [], [], [.scr ns], Same.refl _, ⟨rfl, List.nodup_nil, fun k so a e => by simp at e⟩, .cons (.scr hS) .nil, by rw [hps]; rfl, ?_⟩
    rw [e]
    intro v F' H' M' _ _ _ dr
    cases dr
    rfl
  · obtain ⟨_, _, _, _, _, _, _, _, _, _, _, _, z⟩ := z
    exact z
end
end PI

set_option Elab.async false
set_option linter.all false
set_option autoImplicit false
set_option maxRecDepth 100000
namespace PI
open PySem L2
/-- a constant of the module, as the written part has it -/
inductive DnK (K : PySem.W.Frag) : Value → PV → Prop
  | non : DnK K .none .non
  | bl (b : Bool) : DnK K (.bool b) (.bl b)
  | int (i : Int) (t : Tok) : DnK K (.int i t) (.int i)
  | str (x : Str) (t : Tok) : DnK K (.str x t) (.str x)
def HeadGK (K : PySem.W.Frag) (x : Str) (d : PV) : Prop := ∃ u, PySem.W.nsIn K mainGlobals x = some (some u) ∧ ∃ v, RelV v u ∧ ∀ F M, Dn K F M v d
theorem HeadGK.to {K : PySem.W.Frag} {x : Str} {d : PV} {h : Heap} {mg : Str → Option Value} (g : HeadGK K x d) (X : K.In h) (G : h.Ns mainGlobals mg) : HeadG K mg x d := by
  obtain ⟨u, e, v, r, k⟩ := g
  exact ⟨v, u, PySem.W.mg_of X G e, r, k⟩
theorem hg_int {K : PySem.W.Frag} {x : Str} {i : Int} {t : Tok} (h : PySem.W.nsIn K mainGlobals x = some (some (.int i t))) : HeadGK K x (.int i) := ⟨_, h, .int i, ⟨t, rfl⟩, fun _ _ => .int i⟩
theorem hg_str {K : PySem.W.Frag} {x s : Str} {t : Tok} (h : PySem.W.nsIn K mainGlobals x = some (some (.str s t))) : HeadGK K x (.str s) := ⟨_, h, .str s, ⟨t, rfl⟩, fun _ _ => .str s⟩
/-- a written tuple of ints and texts -/
def flatP : List Value → Option (List PV)
  | [] => some []
  | .int i _ :: r => (flatP r).map (.int i :: ·)
  | .str x _ :: r => (flatP r).map (.str x :: ·)
  | _ => none
theorem flatP_ok {K : PySem.W.Frag} {F : Hp} {M : List Addr} : ∀ {us : List Value} {ds : List PV}, flatP us = some ds → ∃ vs, Vals vs us ∧ Dns K F M vs ds
  | [], ds, h => by cases h; exact ⟨[], .nil, .nil⟩
  | .int i t :: r, ds, h => by
    have h : (flatP r).map (.int i :: ·) = some ds := h
    obtain ⟨ds', h1, rfl⟩ := Option.map_eq_some_iff.mp h
    obtain ⟨vs, a, b⟩ := flatP_ok (K := K) (F := F) (M := M) h1
    exact ⟨.int i :: vs, .cons ⟨t, rfl⟩ a, .cons (.int i) b⟩
  | .str i t :: r, ds, h => by
    have h : (flatP r).map (.str i :: ·) = some ds := h
    obtain ⟨ds', h1, rfl⟩ := Option.map_eq_some_iff.mp h
    obtain ⟨vs, a, b⟩ := flatP_ok (K := K) (F := F) (M := M) h1
    exact ⟨.str i :: vs, .cons ⟨t, rfl⟩ a, .cons (.str i) b⟩
theorem hg_tup {K : PySem.W.Frag} {x : Str} {a : Addr} {dd : Option Addr} {us : List Value} {n : Nat} {sl : Array (Option Value)} {ds : List PV} (h : PySem.W.nsIn K mainGlobals x = some (some (.ref a))) (h1 : K.lookup a = some ⟨.type "tuple", dd, .seq us.toArray n, sl⟩) (h2 : flatP us = some ds) (h3 : us.length ≤ sizeLine) : HeadGK K x (.tup ds) := by
  refine ⟨_, h, .ref a, rfl, fun F M => ?_⟩
  obtain ⟨vs, b1, b2⟩ := flatP_ok (K := K) (F := F) (M := M) h2
  exact .tup (.inr ⟨_, us.toArray, n, h1, rfl, rfl, by simpa using h3, by simpa using b1⟩) b2
end PI

set_option linter.all false
set_option autoImplicit false
set_option maxRecDepth 100000
set_option maxHeartbeats 4000000
/-! The pure side: rules to run a def. What follows stands in an instance's place, so that simp does not look into it. -/
namespace PI
open PySem
class Kn (α : Type) where
  run : α → Ps → Prop
  exc : Str → List PV → Ps → Prop
inductive Wp {α : Type} (r : R α) [q : Kn α] : Prop
  | ok (a : α) (s : Ps) (e : r = .ok a s) (h : q.run a s)
  | exc (c : Str) (fs : List PV) (s : Ps) (e : r = .exc c fs s) (h : q.exc c fs s)
class Kc where
  run : SV → Sto → Prop
  exc : Str → List PV → Sto → Prop
inductive WpC (r : C) [q : Kc] : Prop
  | ok (a : SV) (s : Sto) (e : r = .ok a s) (h : q.run a s)
  | exc (c : Str) (fs : List PV) (s : Sto) (e : r = .exc c fs s) (h : q.exc c fs s)
abbrev noX {β : Type} : Str → List PV → β → Prop := fun _ _ _ => False
theorem run_mk {α : Type} (F : α → Ps → Prop) (X : Str → List PV → Ps → Prop) (a : α) (s : Ps) : @Kn.run α ⟨F, X⟩ a s = F a s := (rfl)
theorem exc_mk {α : Type} (F : α → Ps → Prop) (X : Str → List PV → Ps → Prop) (c : Str) (fs : List PV) (s : Ps) : @Kn.exc α ⟨F, X⟩ c fs s = X c fs s := (rfl)
theorem runC_mk (F : SV → Sto → Prop) (X : Str → List PV → Sto → Prop) (a : SV) (s : Sto) : @Kc.run ⟨F, X⟩ a s = F a s := (rfl)
theorem excC_mk (F : SV → Sto → Prop) (X : Str → List PV → Sto → Prop) (c : Str) (fs : List PV) (s : Sto) : @Kc.exc ⟨F, X⟩ c fs s = X c fs s := (rfl)
section
variable {α β : Type}
theorem w_ok (a : α) (s : Ps) (q : Kn α) : @Wp α (.ok a s) q = q.run a s := propext ⟨fun h => (by
  cases h with
  | ok a s e h => cases e; exact h
  | exc c fs s e h => cases e), fun h => .ok a s rfl h⟩
theorem w_exc (c : Str) (fs : List PV) (s : Ps) (q : Kn α) : @Wp α (.exc c fs s) q = q.exc c fs s := propext ⟨fun h => (by
  cases h with
  | ok a s e h => cases e
  | exc c fs s e h => cases e; exact h), fun h => .exc c fs s rfl h⟩
theorem w_stuck (q : Kn α) : @Wp α .stuck q = False := propext ⟨fun h => (by
  cases h with
  | ok a s e h => cases e
  | exc c fs s e h => cases e), fun h => h.elim⟩
theorem stuck2 (q : Kn α) (q' : Kn β) : @Wp α .stuck q = @Wp β .stuck q' := (w_stuck q).trans (w_stuck q').symm
theorem wC_ok (a : SV) (s : Sto) (q : Kc) : @WpC (.ok a s) q = q.run a s := propext ⟨fun h => (by
  cases h with
  | ok a s e h => cases e; exact h
  | exc c fs s e h => cases e), fun h => .ok a s rfl h⟩
theorem wC_exc (c : Str) (fs : List PV) (s : Sto) (q : Kc) : @WpC (.exc c fs s) q = q.exc c fs s := propext ⟨fun h => (by
  cases h with
  | ok a s e h => cases e
  | exc c fs s e h => cases e; exact h), fun h => .exc c fs s rfl h⟩
theorem wC_stuck (q : Kc) : @WpC .stuck q = False := propext ⟨fun h => (by
  cases h with
  | ok a s e h => cases e
  | exc c fs s e h => cases e), fun h => h.elim⟩
theorem w_bind (r : R α) (f : α → Ps → R β) (q : Kn β) : @Wp β (r.bind f) q = @Wp α r ⟨fun a s => @Wp β (f a s) q, q.exc⟩ := by
  cases r with
  | ok a s => rw [w_ok]; rfl
  | exc c fs s => rw [w_exc]; exact w_exc c fs s q
  | stuck => rw [w_stuck]; exact w_stuck q
theorem kn_congr {r : R α} {F F' : α → Ps → Prop} {X : Str → List PV → Ps → Prop} (h : ∀ a s, F a s = F' a s) : @Wp α r ⟨F, X⟩ = @Wp α r ⟨F', X⟩ := by
  have : F = F' := by funext a s; exact h a s
  rw [this]
theorem Wp.imp {r : R α} {q q' : Kn α} (h : @Wp α r q) (k : ∀ a s, q.run a s → q'.run a s) (x : ∀ c fs s, q.exc c fs s → q'.exc c fs s) : @Wp α r q' := by
  cases h with
  | ok a s e h => exact .ok a s e (k a s h)
  | exc c fs s e h => exact .exc c fs s e (x c fs s h)
theorem WpC.imp {r : C} {q q' : Kc} (h : @WpC r q) (k : ∀ a s, q.run a s → q'.run a s) (x : ∀ c fs s, q.exc c fs s → q'.exc c fs s) : @WpC r q' := by
  cases h with
  | ok a s e h => exact .ok a s e (k a s h)
  | exc c fs s e h => exact .exc c fs s e (x c fs s h)
theorem w_lift (a : α) (s : Ps) (q : Kn α) : @Wp α (liftO (some a) s) q = q.run a s := w_ok a s q
theorem w_condT (a b : R α) (q : Kn α) : @Wp α (bif true then a else b) q = @Wp α a q := (rfl)
theorem w_condF (a b : R α) (q : Kn α) : @Wp α (bif false then a else b) q = @Wp α b q := (rfl)
theorem w_iteT (p : Prop) [Decidable p] (h : p) (a b : R α) (q : Kn α) : @Wp α (if p then a else b) q = @Wp α a q := by rw [if_pos h]
/-- a test whose outcome is open -/
theorem w_split {b : Bool} {r r' : R α} {q : Kn α} (h1 : b = true → @Wp α r q) (h2 : b = false → @Wp α r' q) : @Wp α (bif b then r else r') q := by
  cases b with
  | true => exact h1 rfl
  | false => exact h2 rfl
end
def ev (G : En) (e : E) (s : Ps) : R SV := (den G e).v s
def et (G : En) (e : E) (s : Ps) : R Bool := (den G e).t s
def eb (G : En) (e : E) (s : Ps) : R BV := (den G e).b true s
def ebs (G : En) (b : Bool) (es : List E) (s : Ps) : R (List BV) := Den.bs b (dens G es) s
def der1 {α : Type} (s : Ps) (x : BV) (f : PV → R α) : R α := match deref s x with
  | some dx => f dx
  | none => .stuck
def der2 {α : Type} (s : Ps) (x y : BV) (f : PV → PV → R α) : R α := match deref s x, deref s y with
  | some dx, some dy => f dx dy
  | _, _ => .stuck
def ders {α : Type} (s : Ps) (xs : List BV) (f : List PV → R α) : R α := match derefs s xs with
  | some ds => f ds
  | none => .stuck
/-- what a slot holds, as an operand -/
def slP {α : Type} (o : Option (Option SV)) (f : PV → R α) : R α := match o with
  | some (some (.own xs)) => f (.lst xs)
  | some (some (.val d)) => f d
  | _ => .stuck
section
variable {α : Type}
theorem w_slo (xs : List PV) (f : PV → R α) (q : Kn α) : @Wp α (slP (some (some (.own xs))) f) q = @Wp α (f (.lst xs)) q := (rfl)
theorem w_slv (d : PV) (f : PV → R α) (q : Kn α) : @Wp α (slP (some (some (.val d))) f) q = @Wp α (f d) q := (rfl)
theorem w_der1v (s : Ps) (d : PV) (f : PV → R α) (q : Kn α) : @Wp α (der1 s (.v d) f) q = @Wp α (f d) q := (rfl)
theorem der1_s (s : Ps) (i : Nat) (f : PV → R α) : der1 s (.s i) f = slP s.loc[i]? f := by
  unfold der1 slP
  show (match (match s.loc[i]? with
    | some (some (.own xs)) => some (PV.lst xs)
    | some (some (.val d)) => some d
    | _ => none) with
    | some dx => f dx
    | none => .stuck) = _
  cases s.loc[i]? with
  | none => rfl
  | some o => cases o with
    | none => rfl
    | some x => cases x <;> rfl
theorem w_der1s (s : Ps) (i : Nat) (f : PV → R α) (q : Kn α) : @Wp α (der1 s (.s i) f) q = @Wp α (slP s.loc[i]? f) q := by rw [der1_s]
theorem w_der2vv (s : Ps) (d d' : PV) (f : PV → PV → R α) (q : Kn α) : @Wp α (der2 s (.v d) (.v d') f) q = @Wp α (f d d') q := (rfl)
theorem der2_vs (s : Ps) (d : PV) (i : Nat) (f : PV → PV → R α) : der2 s (.v d) (.s i) f = slP s.loc[i]? (f d) := by
  rw [← der1_s]
  unfold der2 der1
  show (match some d, deref s (.s i) with
    | some dx, some dy => f dx dy
    | _, _ => .stuck) = _
  cases deref s (.s i) <;> rfl
theorem der2_sv (s : Ps) (d : PV) (i : Nat) (f : PV → PV → R α) : der2 s (.s i) (.v d) f = slP s.loc[i]? fun x => f x d := by
  rw [← der1_s]
  unfold der2 der1
  show (match deref s (.s i), some d with
    | some dx, some dy => f dx dy
    | _, _ => .stuck) = _
  cases deref s (.s i) <;> rfl
theorem der2_ss (s : Ps) (j : Nat) (i : Nat) (f : PV → PV → R α) : der2 s (.s i) (.s j) f = slP s.loc[i]? fun x => slP s.loc[j]? fun y => f x y := by
  rw [← der1_s]
  have : (fun x => slP s.loc[j]? fun y => f x y) = fun x => der1 s (.s j) fun y => f x y := by funext x; rw [der1_s]
  rw [this]
  unfold der2 der1
  cases deref s (.s i) <;> cases deref s (.s j) <;> rfl
theorem w_der2vs (s : Ps) (d : PV) (i : Nat) (f : PV → PV → R α) (q : Kn α) : @Wp α (der2 s (.v d) (.s i) f) q = @Wp α (slP s.loc[i]? (f d)) q := by rw [der2_vs]
theorem w_der2sv (s : Ps) (d : PV) (i : Nat) (f : PV → PV → R α) (q : Kn α) : @Wp α (der2 s (.s i) (.v d) f) q = @Wp α (slP s.loc[i]? fun x => f x d) q := by rw [der2_sv]
theorem w_der2ss (s : Ps) (j : Nat) (i : Nat) (f : PV → PV → R α) (q : Kn α) : @Wp α (der2 s (.s i) (.s j) f) q = @Wp α (slP s.loc[i]? fun x => slP s.loc[j]? fun y => f x y) q := by rw [der2_ss]
theorem w_dersn (s : Ps) (f : List PV → R α) (q : Kn α) : @Wp α (ders s [] f) q = @Wp α (f []) q := (rfl)
theorem ders_v (s : Ps) (d : PV) (xs : List BV) (f : List PV → R α) : ders s (.v d :: xs) f = ders s xs fun ds => f (d :: ds) := by
  unfold ders
  show (match (match some d, derefs s xs with
    | some d, some ds => some (d :: ds)
    | _, _ => none) with
    | some ds => f ds
    | none => .stuck) = _
  cases derefs s xs <;> rfl
theorem ders_s (s : Ps) (i : Nat) (xs : List BV) (f : List PV → R α) : ders s (.s i :: xs) f = slP s.loc[i]? fun d => ders s xs fun ds => f (d :: ds) := by
  rw [← der1_s]
  unfold ders der1
  show (match (match deref s (.s i), derefs s xs with
    | some d, some ds => some (d :: ds)
    | _, _ => none) with
    | some ds => f ds
    | none => .stuck) = _
  cases deref s (.s i) <;> cases derefs s xs <;> rfl
theorem w_dersv (s : Ps) (d : PV) (xs : List BV) (f : List PV → R α) (q : Kn α) : @Wp α (ders s (.v d :: xs) f) q = @Wp α (ders s xs fun ds => f (d :: ds)) q := by rw [ders_v]
theorem w_derss (s : Ps) (i : Nat) (xs : List BV) (f : List PV → R α) (q : Kn α) : @Wp α (ders s (.s i :: xs) f) q = @Wp α (slP s.loc[i]? fun d => ders s xs fun ds => f (d :: ds)) q := by rw [ders_s]
end
variable (G : En) (s : Ps)
theorem w_ebsn (b : Bool) (q : Kn (List BV)) : @Wp _ (ebs G b [] s) q = q.run [] s := w_ok _ _ q
theorem w_ebst (e : E) (es : List E) (q : Kn (List BV)) : @Wp _ (ebs G true (e :: es) s) q = @Wp _ (eb G e s) ⟨fun x s1 => @Wp _ (ebs G true es s1) ⟨fun xs s2 => q.run (x :: xs) s2, q.exc⟩, q.exc⟩ := by
  show @Wp _ ((eb G e s).bind fun x s1 => (ebs G true es s1).bind fun xs s2 => .ok (x :: xs) s2) q = _
  rw [w_bind]
  refine kn_congr fun x s1 => ?_
  rw [w_bind]
  exact kn_congr fun xs s2 => w_ok _ _ q
theorem w_ebsf (e : E) (es : List E) (q : Kn (List BV)) : @Wp _ (ebs G false (e :: es) s) q = @Wp _ (ev G e s) ⟨fun x s1 => @Wp _ (ebs G false es s1) ⟨fun xs s2 => q.run (.v x.pv :: xs) s2, q.exc⟩, q.exc⟩ := by
  have e0 : (den G e).b false s = ((den G e).v s).bind fun x s1 => .ok (.v x.pv) s1 := (rfl)
  show @Wp _ (((den G e).b false s).bind fun x s1 => (ebs G false es s1).bind fun xs s2 => .ok (x :: xs) s2) q = _
  rw [e0, w_bind, w_bind]
  refine kn_congr fun x s1 => ?_
  rw [w_ok, run_mk, w_bind]
  exact kn_congr fun xs s2 => w_ok _ _ q

theorem w_eb_glob (x : Str) (q : Kn BV) : @Wp _ (eb G (.glob x) s) q = @Wp _ (ev G (.glob x) s) ⟨fun x s1 => q.run (.v x.pv) s1, q.exc⟩ := by
  show @Wp _ ((ev G (.glob x) s).bind fun x s1 => .ok (.v x.pv) s1) q = _
  rw [w_bind]
  exact kn_congr fun x s1 => w_ok _ _ q
theorem w_et_glob (x : Str) (q : Kn Bool) : @Wp _ (et G (.glob x) s) q = @Wp _ (ev G (.glob x) s) ⟨fun x s1 => @Wp _ (liftO (truP x.pv) s1) q, q.exc⟩ := by
  show @Wp _ ((ev G (.glob x) s).bind fun x s1 => liftO (truP x.pv) s1) q = _
  rw [w_bind]
theorem w_ret_glob (x : Str) (q : Kn Fl) : @Wp _ (dst G (.ret (.glob x)) s) q = @Wp _ (ev G (.glob x) s) ⟨fun x s1 => q.run (.ret x) s1, q.exc⟩ := by
  show @Wp _ ((ev G (.glob x) s).bind fun x s1 => .ok (.ret x) s1) q = _
  rw [w_bind]
  exact kn_congr fun x s1 => w_ok _ _ q
theorem w_eb_cst (d : PV) (q : Kn BV) : @Wp _ (eb G (.cst d) s) q = @Wp _ (ev G (.cst d) s) ⟨fun x s1 => q.run (.v x.pv) s1, q.exc⟩ := by
  show @Wp _ ((ev G (.cst d) s).bind fun x s1 => .ok (.v x.pv) s1) q = _
  rw [w_bind]
  exact kn_congr fun x s1 => w_ok _ _ q
theorem w_et_cst (d : PV) (q : Kn Bool) : @Wp _ (et G (.cst d) s) q = @Wp _ (ev G (.cst d) s) ⟨fun x s1 => @Wp _ (liftO (truP x.pv) s1) q, q.exc⟩ := by
  show @Wp _ ((ev G (.cst d) s).bind fun x s1 => liftO (truP x.pv) s1) q = _
  rw [w_bind]
theorem w_ret_cst (d : PV) (q : Kn Fl) : @Wp _ (dst G (.ret (.cst d)) s) q = @Wp _ (ev G (.cst d) s) ⟨fun x s1 => q.run (.ret x) s1, q.exc⟩ := by
  show @Wp _ ((ev G (.cst d) s).bind fun x s1 => .ok (.ret x) s1) q = _
  rw [w_bind]
  exact kn_congr fun x s1 => w_ok _ _ q
theorem w_eb_bin (op : Operator) (a b : E) (q : Kn BV) : @Wp _ (eb G (.bin op a b) s) q = @Wp _ (ev G (.bin op a b) s) ⟨fun x s1 => q.run (.v x.pv) s1, q.exc⟩ := by
  show @Wp _ ((ev G (.bin op a b) s).bind fun x s1 => .ok (.v x.pv) s1) q = _
  rw [w_bind]
  exact kn_congr fun x s1 => w_ok _ _ q
theorem w_et_bin (op : Operator) (a b : E) (q : Kn Bool) : @Wp _ (et G (.bin op a b) s) q = @Wp _ (ev G (.bin op a b) s) ⟨fun x s1 => @Wp _ (liftO (truP x.pv) s1) q, q.exc⟩ := by
  show @Wp _ ((ev G (.bin op a b) s).bind fun x s1 => liftO (truP x.pv) s1) q = _
  rw [w_bind]
theorem w_ret_bin (op : Operator) (a b : E) (q : Kn Fl) : @Wp _ (dst G (.ret (.bin op a b)) s) q = @Wp _ (ev G (.bin op a b) s) ⟨fun x s1 => q.run (.ret x) s1, q.exc⟩ := by
  show @Wp _ ((ev G (.bin op a b) s).bind fun x s1 => .ok (.ret x) s1) q = _
  rw [w_bind]
  exact kn_congr fun x s1 => w_ok _ _ q
theorem w_eb_neg (a : E) (q : Kn BV) : @Wp _ (eb G (.neg a) s) q = @Wp _ (ev G (.neg a) s) ⟨fun x s1 => q.run (.v x.pv) s1, q.exc⟩ := by
  show @Wp _ ((ev G (.neg a) s).bind fun x s1 => .ok (.v x.pv) s1) q = _
  rw [w_bind]
  exact kn_congr fun x s1 => w_ok _ _ q
theorem w_et_neg (a : E) (q : Kn Bool) : @Wp _ (et G (.neg a) s) q = @Wp _ (ev G (.neg a) s) ⟨fun x s1 => @Wp _ (liftO (truP x.pv) s1) q, q.exc⟩ := by
  show @Wp _ ((ev G (.neg a) s).bind fun x s1 => liftO (truP x.pv) s1) q = _
  rw [w_bind]
theorem w_ret_neg (a : E) (q : Kn Fl) : @Wp _ (dst G (.ret (.neg a)) s) q = @Wp _ (ev G (.neg a) s) ⟨fun x s1 => q.run (.ret x) s1, q.exc⟩ := by
  show @Wp _ ((ev G (.neg a) s).bind fun x s1 => .ok (.ret x) s1) q = _
  rw [w_bind]
  exact kn_congr fun x s1 => w_ok _ _ q
theorem w_eb_not (a : E) (q : Kn BV) : @Wp _ (eb G (.not a) s) q = @Wp _ (ev G (.not a) s) ⟨fun x s1 => q.run (.v x.pv) s1, q.exc⟩ := by
  show @Wp _ ((ev G (.not a) s).bind fun x s1 => .ok (.v x.pv) s1) q = _
  rw [w_bind]
  exact kn_congr fun x s1 => w_ok _ _ q
theorem w_ret_not (a : E) (q : Kn Fl) : @Wp _ (dst G (.ret (.not a)) s) q = @Wp _ (ev G (.not a) s) ⟨fun x s1 => q.run (.ret x) s1, q.exc⟩ := by
  show @Wp _ ((ev G (.not a) s).bind fun x s1 => .ok (.ret x) s1) q = _
  rw [w_bind]
  exact kn_congr fun x s1 => w_ok _ _ q
theorem w_eb_and (a b : E) (q : Kn BV) : @Wp _ (eb G (.and a b) s) q = @Wp _ (ev G (.and a b) s) ⟨fun x s1 => q.run (.v x.pv) s1, q.exc⟩ := by
  show @Wp _ ((ev G (.and a b) s).bind fun x s1 => .ok (.v x.pv) s1) q = _
  rw [w_bind]
  exact kn_congr fun x s1 => w_ok _ _ q
theorem w_ret_and (a b : E) (q : Kn Fl) : @Wp _ (dst G (.ret (.and a b)) s) q = @Wp _ (ev G (.and a b) s) ⟨fun x s1 => q.run (.ret x) s1, q.exc⟩ := by
  show @Wp _ ((ev G (.and a b) s).bind fun x s1 => .ok (.ret x) s1) q = _
  rw [w_bind]
  exact kn_congr fun x s1 => w_ok _ _ q
theorem w_eb_or (a b : E) (q : Kn BV) : @Wp _ (eb G (.or a b) s) q = @Wp _ (ev G (.or a b) s) ⟨fun x s1 => q.run (.v x.pv) s1, q.exc⟩ := by
  show @Wp _ ((ev G (.or a b) s).bind fun x s1 => .ok (.v x.pv) s1) q = _
  rw [w_bind]
  exact kn_congr fun x s1 => w_ok _ _ q
theorem w_ret_or (a b : E) (q : Kn Fl) : @Wp _ (dst G (.ret (.or a b)) s) q = @Wp _ (ev G (.or a b) s) ⟨fun x s1 => q.run (.ret x) s1, q.exc⟩ := by
  show @Wp _ ((ev G (.or a b) s).bind fun x s1 => .ok (.ret x) s1) q = _
  rw [w_bind]
  exact kn_congr fun x s1 => w_ok _ _ q
theorem w_eb_cmp (op : CmpOp) (a b : E) (q : Kn BV) : @Wp _ (eb G (.cmp op a b) s) q = @Wp _ (ev G (.cmp op a b) s) ⟨fun x s1 => q.run (.v x.pv) s1, q.exc⟩ := by
  show @Wp _ ((ev G (.cmp op a b) s).bind fun x s1 => .ok (.v x.pv) s1) q = _
  rw [w_bind]
  exact kn_congr fun x s1 => w_ok _ _ q
theorem w_ret_cmp (op : CmpOp) (a b : E) (q : Kn Fl) : @Wp _ (dst G (.ret (.cmp op a b)) s) q = @Wp _ (ev G (.cmp op a b) s) ⟨fun x s1 => q.run (.ret x) s1, q.exc⟩ := by
  show @Wp _ ((ev G (.cmp op a b) s).bind fun x s1 => .ok (.ret x) s1) q = _
  rw [w_bind]
  exact kn_congr fun x s1 => w_ok _ _ q
theorem w_eb_chain (op op' : CmpOp) (a b c : E) (q : Kn BV) : @Wp _ (eb G (.chain op op' a b c) s) q = @Wp _ (ev G (.chain op op' a b c) s) ⟨fun x s1 => q.run (.v x.pv) s1, q.exc⟩ := by
  show @Wp _ ((ev G (.chain op op' a b c) s).bind fun x s1 => .ok (.v x.pv) s1) q = _
  rw [w_bind]
  exact kn_congr fun x s1 => w_ok _ _ q
theorem w_ret_chain (op op' : CmpOp) (a b c : E) (q : Kn Fl) : @Wp _ (dst G (.ret (.chain op op' a b c)) s) q = @Wp _ (ev G (.chain op op' a b c) s) ⟨fun x s1 => q.run (.ret x) s1, q.exc⟩ := by
  show @Wp _ ((ev G (.chain op op' a b c) s).bind fun x s1 => .ok (.ret x) s1) q = _
  rw [w_bind]
  exact kn_congr fun x s1 => w_ok _ _ q
theorem w_eb_ite (c a b : E) (q : Kn BV) : @Wp _ (eb G (.ite c a b) s) q = @Wp _ (ev G (.ite c a b) s) ⟨fun x s1 => q.run (.v x.pv) s1, q.exc⟩ := by
  show @Wp _ ((ev G (.ite c a b) s).bind fun x s1 => .ok (.v x.pv) s1) q = _
  rw [w_bind]
  exact kn_congr fun x s1 => w_ok _ _ q
theorem w_ret_ite (c a b : E) (q : Kn Fl) : @Wp _ (dst G (.ret (.ite c a b)) s) q = @Wp _ (ev G (.ite c a b) s) ⟨fun x s1 => q.run (.ret x) s1, q.exc⟩ := by
  show @Wp _ ((ev G (.ite c a b) s).bind fun x s1 => .ok (.ret x) s1) q = _
  rw [w_bind]
  exact kn_congr fun x s1 => w_ok _ _ q
theorem w_eb_tup (es : List E) (q : Kn BV) : @Wp _ (eb G (.tup es) s) q = @Wp _ (ev G (.tup es) s) ⟨fun x s1 => q.run (.v x.pv) s1, q.exc⟩ := by
  show @Wp _ ((ev G (.tup es) s).bind fun x s1 => .ok (.v x.pv) s1) q = _
  rw [w_bind]
  exact kn_congr fun x s1 => w_ok _ _ q
theorem w_et_tup (es : List E) (q : Kn Bool) : @Wp _ (et G (.tup es) s) q = @Wp _ (ev G (.tup es) s) ⟨fun x s1 => @Wp _ (liftO (truP x.pv) s1) q, q.exc⟩ := by
  show @Wp _ ((ev G (.tup es) s).bind fun x s1 => liftO (truP x.pv) s1) q = _
  rw [w_bind]
theorem w_ret_tup (es : List E) (q : Kn Fl) : @Wp _ (dst G (.ret (.tup es)) s) q = @Wp _ (ev G (.tup es) s) ⟨fun x s1 => q.run (.ret x) s1, q.exc⟩ := by
  show @Wp _ ((ev G (.tup es) s).bind fun x s1 => .ok (.ret x) s1) q = _
  rw [w_bind]
  exact kn_congr fun x s1 => w_ok _ _ q
theorem w_eb_lst (es : List E) (q : Kn BV) : @Wp _ (eb G (.lst es) s) q = @Wp _ (ev G (.lst es) s) ⟨fun x s1 => q.run (.v x.pv) s1, q.exc⟩ := by
  show @Wp _ ((ev G (.lst es) s).bind fun x s1 => .ok (.v x.pv) s1) q = _
  rw [w_bind]
  exact kn_congr fun x s1 => w_ok _ _ q
theorem w_et_lst (es : List E) (q : Kn Bool) : @Wp _ (et G (.lst es) s) q = @Wp _ (ev G (.lst es) s) ⟨fun x s1 => @Wp _ (liftO (truP x.pv) s1) q, q.exc⟩ := by
  show @Wp _ ((ev G (.lst es) s).bind fun x s1 => liftO (truP x.pv) s1) q = _
  rw [w_bind]
theorem w_ret_lst (es : List E) (q : Kn Fl) : @Wp _ (dst G (.ret (.lst es)) s) q = @Wp _ (ev G (.lst es) s) ⟨fun x s1 => q.run (.ret x) s1, q.exc⟩ := by
  show @Wp _ ((ev G (.lst es) s).bind fun x s1 => .ok (.ret x) s1) q = _
  rw [w_bind]
  exact kn_congr fun x s1 => w_ok _ _ q
theorem w_eb_dsp (t : Bool) (fl : List Bool) (es : List E) (q : Kn BV) : @Wp _ (eb G (.dsp t fl es) s) q = @Wp _ (ev G (.dsp t fl es) s) ⟨fun x s1 => q.run (.v x.pv) s1, q.exc⟩ := by
  show @Wp _ ((ev G (.dsp t fl es) s).bind fun x s1 => .ok (.v x.pv) s1) q = _
  rw [w_bind]
  exact kn_congr fun x s1 => w_ok _ _ q
theorem w_et_dsp (t : Bool) (fl : List Bool) (es : List E) (q : Kn Bool) : @Wp _ (et G (.dsp t fl es) s) q = @Wp _ (ev G (.dsp t fl es) s) ⟨fun x s1 => @Wp _ (liftO (truP x.pv) s1) q, q.exc⟩ := by
  show @Wp _ ((ev G (.dsp t fl es) s).bind fun x s1 => liftO (truP x.pv) s1) q = _
  rw [w_bind]
theorem w_ret_dsp (t : Bool) (fl : List Bool) (es : List E) (q : Kn Fl) : @Wp _ (dst G (.ret (.dsp t fl es)) s) q = @Wp _ (ev G (.dsp t fl es) s) ⟨fun x s1 => q.run (.ret x) s1, q.exc⟩ := by
  show @Wp _ ((ev G (.dsp t fl es) s).bind fun x s1 => .ok (.ret x) s1) q = _
  rw [w_bind]
  exact kn_congr fun x s1 => w_ok _ _ q
theorem w_eb_call (f : Str) (es : List E) (q : Kn BV) : @Wp _ (eb G (.call f es) s) q = @Wp _ (ev G (.call f es) s) ⟨fun x s1 => q.run (.v x.pv) s1, q.exc⟩ := by
  show @Wp _ ((ev G (.call f es) s).bind fun x s1 => .ok (.v x.pv) s1) q = _
  rw [w_bind]
  exact kn_congr fun x s1 => w_ok _ _ q
theorem w_et_call (f : Str) (es : List E) (q : Kn Bool) : @Wp _ (et G (.call f es) s) q = @Wp _ (ev G (.call f es) s) ⟨fun x s1 => @Wp _ (liftO (truP x.pv) s1) q, q.exc⟩ := by
  show @Wp _ ((ev G (.call f es) s).bind fun x s1 => liftO (truP x.pv) s1) q = _
  rw [w_bind]
theorem w_ret_call (f : Str) (es : List E) (q : Kn Fl) : @Wp _ (dst G (.ret (.call f es)) s) q = @Wp _ (ev G (.call f es) s) ⟨fun x s1 => q.run (.ret x) s1, q.exc⟩ := by
  show @Wp _ ((ev G (.call f es) s).bind fun x s1 => .ok (.ret x) s1) q = _
  rw [w_bind]
  exact kn_congr fun x s1 => w_ok _ _ q
theorem w_eb_prim (f : Pm) (es : List E) (q : Kn BV) : @Wp _ (eb G (.prim f es) s) q = @Wp _ (ev G (.prim f es) s) ⟨fun x s1 => q.run (.v x.pv) s1, q.exc⟩ := by
  show @Wp _ ((ev G (.prim f es) s).bind fun x s1 => .ok (.v x.pv) s1) q = _
  rw [w_bind]
  exact kn_congr fun x s1 => w_ok _ _ q
theorem w_et_prim (f : Pm) (es : List E) (q : Kn Bool) : @Wp _ (et G (.prim f es) s) q = @Wp _ (ev G (.prim f es) s) ⟨fun x s1 => @Wp _ (liftO (truP x.pv) s1) q, q.exc⟩ := by
  show @Wp _ ((ev G (.prim f es) s).bind fun x s1 => liftO (truP x.pv) s1) q = _
  rw [w_bind]
theorem w_ret_prim (f : Pm) (es : List E) (q : Kn Fl) : @Wp _ (dst G (.ret (.prim f es)) s) q = @Wp _ (ev G (.prim f es) s) ⟨fun x s1 => q.run (.ret x) s1, q.exc⟩ := by
  show @Wp _ ((ev G (.prim f es) s).bind fun x s1 => .ok (.ret x) s1) q = _
  rw [w_bind]
  exact kn_congr fun x s1 => w_ok _ _ q
theorem w_eb_isi (a : E) (t : String) (q : Kn BV) : @Wp _ (eb G (.isi a t) s) q = @Wp _ (ev G (.isi a t) s) ⟨fun x s1 => q.run (.v x.pv) s1, q.exc⟩ := by
  show @Wp _ ((ev G (.isi a t) s).bind fun x s1 => .ok (.v x.pv) s1) q = _
  rw [w_bind]
  exact kn_congr fun x s1 => w_ok _ _ q
theorem w_et_isi (a : E) (t : String) (q : Kn Bool) : @Wp _ (et G (.isi a t) s) q = @Wp _ (ev G (.isi a t) s) ⟨fun x s1 => @Wp _ (liftO (truP x.pv) s1) q, q.exc⟩ := by
  show @Wp _ ((ev G (.isi a t) s).bind fun x s1 => liftO (truP x.pv) s1) q = _
  rw [w_bind]
theorem w_ret_isi (a : E) (t : String) (q : Kn Fl) : @Wp _ (dst G (.ret (.isi a t)) s) q = @Wp _ (ev G (.isi a t) s) ⟨fun x s1 => q.run (.ret x) s1, q.exc⟩ := by
  show @Wp _ ((ev G (.isi a t) s).bind fun x s1 => .ok (.ret x) s1) q = _
  rw [w_bind]
  exact kn_congr fun x s1 => w_ok _ _ q
theorem w_eb_app (i : Nat) (e : E) (q : Kn BV) : @Wp _ (eb G (.app i e) s) q = @Wp _ (ev G (.app i e) s) ⟨fun x s1 => q.run (.v x.pv) s1, q.exc⟩ := by
  show @Wp _ ((ev G (.app i e) s).bind fun x s1 => .ok (.v x.pv) s1) q = _
  rw [w_bind]
  exact kn_congr fun x s1 => w_ok _ _ q
theorem w_et_app (i : Nat) (e : E) (q : Kn Bool) : @Wp _ (et G (.app i e) s) q = @Wp _ (ev G (.app i e) s) ⟨fun x s1 => @Wp _ (liftO (truP x.pv) s1) q, q.exc⟩ := by
  show @Wp _ ((ev G (.app i e) s).bind fun x s1 => liftO (truP x.pv) s1) q = _
  rw [w_bind]
theorem w_ret_app (i : Nat) (e : E) (q : Kn Fl) : @Wp _ (dst G (.ret (.app i e)) s) q = @Wp _ (ev G (.app i e) s) ⟨fun x s1 => q.run (.ret x) s1, q.exc⟩ := by
  show @Wp _ ((ev G (.app i e) s).bind fun x s1 => .ok (.ret x) s1) q = _
  rw [w_bind]
  exact kn_congr fun x s1 => w_ok _ _ q
theorem w_eb_ext (i : Nat) (e : E) (q : Kn BV) : @Wp _ (eb G (.ext i e) s) q = @Wp _ (ev G (.ext i e) s) ⟨fun x s1 => q.run (.v x.pv) s1, q.exc⟩ := by
  show @Wp _ ((ev G (.ext i e) s).bind fun x s1 => .ok (.v x.pv) s1) q = _
  rw [w_bind]
  exact kn_congr fun x s1 => w_ok _ _ q
theorem w_et_ext (i : Nat) (e : E) (q : Kn Bool) : @Wp _ (et G (.ext i e) s) q = @Wp _ (ev G (.ext i e) s) ⟨fun x s1 => @Wp _ (liftO (truP x.pv) s1) q, q.exc⟩ := by
  show @Wp _ ((ev G (.ext i e) s).bind fun x s1 => liftO (truP x.pv) s1) q = _
  rw [w_bind]
theorem w_ret_ext (i : Nat) (e : E) (q : Kn Fl) : @Wp _ (dst G (.ret (.ext i e)) s) q = @Wp _ (ev G (.ext i e) s) ⟨fun x s1 => q.run (.ret x) s1, q.exc⟩ := by
  show @Wp _ ((ev G (.ext i e) s).bind fun x s1 => .ok (.ret x) s1) q = _
  rw [w_bind]
  exact kn_congr fun x s1 => w_ok _ _ q
theorem w_eb_pop (i : Nat) (e : E) (q : Kn BV) : @Wp _ (eb G (.pop i e) s) q = @Wp _ (ev G (.pop i e) s) ⟨fun x s1 => q.run (.v x.pv) s1, q.exc⟩ := by
  show @Wp _ ((ev G (.pop i e) s).bind fun x s1 => .ok (.v x.pv) s1) q = _
  rw [w_bind]
  exact kn_congr fun x s1 => w_ok _ _ q
theorem w_et_pop (i : Nat) (e : E) (q : Kn Bool) : @Wp _ (et G (.pop i e) s) q = @Wp _ (ev G (.pop i e) s) ⟨fun x s1 => @Wp _ (liftO (truP x.pv) s1) q, q.exc⟩ := by
  show @Wp _ ((ev G (.pop i e) s).bind fun x s1 => liftO (truP x.pv) s1) q = _
  rw [w_bind]
theorem w_ret_pop (i : Nat) (e : E) (q : Kn Fl) : @Wp _ (dst G (.ret (.pop i e)) s) q = @Wp _ (ev G (.pop i e) s) ⟨fun x s1 => q.run (.ret x) s1, q.exc⟩ := by
  show @Wp _ ((ev G (.pop i e) s).bind fun x s1 => .ok (.ret x) s1) q = _
  rw [w_bind]
  exact kn_congr fun x s1 => w_ok _ _ q
theorem w_eb_idx (a i : E) (q : Kn BV) : @Wp _ (eb G (.idx a i) s) q = @Wp _ (ev G (.idx a i) s) ⟨fun x s1 => q.run (.v x.pv) s1, q.exc⟩ := by
  show @Wp _ ((ev G (.idx a i) s).bind fun x s1 => .ok (.v x.pv) s1) q = _
  rw [w_bind]
  exact kn_congr fun x s1 => w_ok _ _ q
theorem w_et_idx (a i : E) (q : Kn Bool) : @Wp _ (et G (.idx a i) s) q = @Wp _ (ev G (.idx a i) s) ⟨fun x s1 => @Wp _ (liftO (truP x.pv) s1) q, q.exc⟩ := by
  show @Wp _ ((ev G (.idx a i) s).bind fun x s1 => liftO (truP x.pv) s1) q = _
  rw [w_bind]
theorem w_ret_idx (a i : E) (q : Kn Fl) : @Wp _ (dst G (.ret (.idx a i)) s) q = @Wp _ (ev G (.idx a i) s) ⟨fun x s1 => q.run (.ret x) s1, q.exc⟩ := by
  show @Wp _ ((ev G (.idx a i) s).bind fun x s1 => .ok (.ret x) s1) q = _
  rw [w_bind]
  exact kn_congr fun x s1 => w_ok _ _ q
theorem w_eb_slo (a i : E) (q : Kn BV) : @Wp _ (eb G (.slo a i) s) q = @Wp _ (ev G (.slo a i) s) ⟨fun x s1 => q.run (.v x.pv) s1, q.exc⟩ := by
  show @Wp _ ((ev G (.slo a i) s).bind fun x s1 => .ok (.v x.pv) s1) q = _
  rw [w_bind]
  exact kn_congr fun x s1 => w_ok _ _ q
theorem w_et_slo (a i : E) (q : Kn Bool) : @Wp _ (et G (.slo a i) s) q = @Wp _ (ev G (.slo a i) s) ⟨fun x s1 => @Wp _ (liftO (truP x.pv) s1) q, q.exc⟩ := by
  show @Wp _ ((ev G (.slo a i) s).bind fun x s1 => liftO (truP x.pv) s1) q = _
  rw [w_bind]
theorem w_ret_slo (a i : E) (q : Kn Fl) : @Wp _ (dst G (.ret (.slo a i)) s) q = @Wp _ (ev G (.slo a i) s) ⟨fun x s1 => q.run (.ret x) s1, q.exc⟩ := by
  show @Wp _ ((ev G (.slo a i) s).bind fun x s1 => .ok (.ret x) s1) q = _
  rw [w_bind]
  exact kn_congr fun x s1 => w_ok _ _ q
theorem w_eb_shi (a j : E) (q : Kn BV) : @Wp _ (eb G (.shi a j) s) q = @Wp _ (ev G (.shi a j) s) ⟨fun x s1 => q.run (.v x.pv) s1, q.exc⟩ := by
  show @Wp _ ((ev G (.shi a j) s).bind fun x s1 => .ok (.v x.pv) s1) q = _
  rw [w_bind]
  exact kn_congr fun x s1 => w_ok _ _ q
theorem w_et_shi (a j : E) (q : Kn Bool) : @Wp _ (et G (.shi a j) s) q = @Wp _ (ev G (.shi a j) s) ⟨fun x s1 => @Wp _ (liftO (truP x.pv) s1) q, q.exc⟩ := by
  show @Wp _ ((ev G (.shi a j) s).bind fun x s1 => liftO (truP x.pv) s1) q = _
  rw [w_bind]
theorem w_ret_shi (a j : E) (q : Kn Fl) : @Wp _ (dst G (.ret (.shi a j)) s) q = @Wp _ (ev G (.shi a j) s) ⟨fun x s1 => q.run (.ret x) s1, q.exc⟩ := by
  show @Wp _ ((ev G (.shi a j) s).bind fun x s1 => .ok (.ret x) s1) q = _
  rw [w_bind]
  exact kn_congr fun x s1 => w_ok _ _ q
theorem w_eb_sl2 (a i j : E) (q : Kn BV) : @Wp _ (eb G (.sl2 a i j) s) q = @Wp _ (ev G (.sl2 a i j) s) ⟨fun x s1 => q.run (.v x.pv) s1, q.exc⟩ := by
  show @Wp _ ((ev G (.sl2 a i j) s).bind fun x s1 => .ok (.v x.pv) s1) q = _
  rw [w_bind]
  exact kn_congr fun x s1 => w_ok _ _ q
theorem w_et_sl2 (a i j : E) (q : Kn Bool) : @Wp _ (et G (.sl2 a i j) s) q = @Wp _ (ev G (.sl2 a i j) s) ⟨fun x s1 => @Wp _ (liftO (truP x.pv) s1) q, q.exc⟩ := by
  show @Wp _ ((ev G (.sl2 a i j) s).bind fun x s1 => liftO (truP x.pv) s1) q = _
  rw [w_bind]
theorem w_ret_sl2 (a i j : E) (q : Kn Fl) : @Wp _ (dst G (.ret (.sl2 a i j)) s) q = @Wp _ (ev G (.sl2 a i j) s) ⟨fun x s1 => q.run (.ret x) s1, q.exc⟩ := by
  show @Wp _ ((ev G (.sl2 a i j) s).bind fun x s1 => .ok (.ret x) s1) q = _
  rw [w_bind]
  exact kn_congr fun x s1 => w_ok _ _ q
theorem w_eb_sls (a i k : E) (q : Kn BV) : @Wp _ (eb G (.sls a i k) s) q = @Wp _ (ev G (.sls a i k) s) ⟨fun x s1 => q.run (.v x.pv) s1, q.exc⟩ := by
  show @Wp _ ((ev G (.sls a i k) s).bind fun x s1 => .ok (.v x.pv) s1) q = _
  rw [w_bind]
  exact kn_congr fun x s1 => w_ok _ _ q
theorem w_et_sls (a i k : E) (q : Kn Bool) : @Wp _ (et G (.sls a i k) s) q = @Wp _ (ev G (.sls a i k) s) ⟨fun x s1 => @Wp _ (liftO (truP x.pv) s1) q, q.exc⟩ := by
  show @Wp _ ((ev G (.sls a i k) s).bind fun x s1 => liftO (truP x.pv) s1) q = _
  rw [w_bind]
theorem w_ret_sls (a i k : E) (q : Kn Fl) : @Wp _ (dst G (.ret (.sls a i k)) s) q = @Wp _ (ev G (.sls a i k) s) ⟨fun x s1 => q.run (.ret x) s1, q.exc⟩ := by
  show @Wp _ ((ev G (.sls a i k) s).bind fun x s1 => .ok (.ret x) s1) q = _
  rw [w_bind]
  exact kn_congr fun x s1 => w_ok _ _ q
theorem w_eb_mnd (mx : Bool) (a d : E) (q : Kn BV) : @Wp _ (eb G (.mnd mx a d) s) q = @Wp _ (ev G (.mnd mx a d) s) ⟨fun x s1 => q.run (.v x.pv) s1, q.exc⟩ := by
  show @Wp _ ((ev G (.mnd mx a d) s).bind fun x s1 => .ok (.v x.pv) s1) q = _
  rw [w_bind]
  exact kn_congr fun x s1 => w_ok _ _ q
theorem w_et_mnd (mx : Bool) (a d : E) (q : Kn Bool) : @Wp _ (et G (.mnd mx a d) s) q = @Wp _ (ev G (.mnd mx a d) s) ⟨fun x s1 => @Wp _ (liftO (truP x.pv) s1) q, q.exc⟩ := by
  show @Wp _ ((ev G (.mnd mx a d) s).bind fun x s1 => liftO (truP x.pv) s1) q = _
  rw [w_bind]
theorem w_ret_mnd (mx : Bool) (a d : E) (q : Kn Fl) : @Wp _ (dst G (.ret (.mnd mx a d)) s) q = @Wp _ (ev G (.mnd mx a d) s) ⟨fun x s1 => q.run (.ret x) s1, q.exc⟩ := by
  show @Wp _ ((ev G (.mnd mx a d) s).bind fun x s1 => .ok (.ret x) s1) q = _
  rw [w_bind]
  exact kn_congr fun x s1 => w_ok _ _ q
theorem w_eb_join (sep : Str) (a : E) (q : Kn BV) : @Wp _ (eb G (.join sep a) s) q = @Wp _ (ev G (.join sep a) s) ⟨fun x s1 => q.run (.v x.pv) s1, q.exc⟩ := by
  show @Wp _ ((ev G (.join sep a) s).bind fun x s1 => .ok (.v x.pv) s1) q = _
  rw [w_bind]
  exact kn_congr fun x s1 => w_ok _ _ q
theorem w_et_join (sep : Str) (a : E) (q : Kn Bool) : @Wp _ (et G (.join sep a) s) q = @Wp _ (ev G (.join sep a) s) ⟨fun x s1 => @Wp _ (liftO (truP x.pv) s1) q, q.exc⟩ := by
  show @Wp _ ((ev G (.join sep a) s).bind fun x s1 => liftO (truP x.pv) s1) q = _
  rw [w_bind]
theorem w_ret_join (sep : Str) (a : E) (q : Kn Fl) : @Wp _ (dst G (.ret (.join sep a)) s) q = @Wp _ (ev G (.join sep a) s) ⟨fun x s1 => q.run (.ret x) s1, q.exc⟩ := by
  show @Wp _ ((ev G (.join sep a) s).bind fun x s1 => .ok (.ret x) s1) q = _
  rw [w_bind]
  exact kn_congr fun x s1 => w_ok _ _ q
theorem w_eb_attr (a : E) (f : Str) (q : Kn BV) : @Wp _ (eb G (.attr a f) s) q = @Wp _ (ev G (.attr a f) s) ⟨fun x s1 => q.run (.v x.pv) s1, q.exc⟩ := by
  show @Wp _ ((ev G (.attr a f) s).bind fun x s1 => .ok (.v x.pv) s1) q = _
  rw [w_bind]
  exact kn_congr fun x s1 => w_ok _ _ q
theorem w_et_attr (a : E) (f : Str) (q : Kn Bool) : @Wp _ (et G (.attr a f) s) q = @Wp _ (ev G (.attr a f) s) ⟨fun x s1 => @Wp _ (liftO (truP x.pv) s1) q, q.exc⟩ := by
  show @Wp _ ((ev G (.attr a f) s).bind fun x s1 => liftO (truP x.pv) s1) q = _
  rw [w_bind]
theorem w_ret_attr (a : E) (f : Str) (q : Kn Fl) : @Wp _ (dst G (.ret (.attr a f)) s) q = @Wp _ (ev G (.attr a f) s) ⟨fun x s1 => q.run (.ret x) s1, q.exc⟩ := by
  show @Wp _ ((ev G (.attr a f) s).bind fun x s1 => .ok (.ret x) s1) q = _
  rw [w_bind]
  exact kn_congr fun x s1 => w_ok _ _ q
theorem w_eb_mkR (c : Str) (es : List E) (q : Kn BV) : @Wp _ (eb G (.mkR c es) s) q = @Wp _ (ev G (.mkR c es) s) ⟨fun x s1 => q.run (.v x.pv) s1, q.exc⟩ := by
  show @Wp _ ((ev G (.mkR c es) s).bind fun x s1 => .ok (.v x.pv) s1) q = _
  rw [w_bind]
  exact kn_congr fun x s1 => w_ok _ _ q
theorem w_et_mkR (c : Str) (es : List E) (q : Kn Bool) : @Wp _ (et G (.mkR c es) s) q = @Wp _ (ev G (.mkR c es) s) ⟨fun x s1 => @Wp _ (liftO (truP x.pv) s1) q, q.exc⟩ := by
  show @Wp _ ((ev G (.mkR c es) s).bind fun x s1 => liftO (truP x.pv) s1) q = _
  rw [w_bind]
theorem w_ret_mkR (c : Str) (es : List E) (q : Kn Fl) : @Wp _ (dst G (.ret (.mkR c es)) s) q = @Wp _ (ev G (.mkR c es) s) ⟨fun x s1 => q.run (.ret x) s1, q.exc⟩ := by
  show @Wp _ ((ev G (.mkR c es) s).bind fun x s1 => .ok (.ret x) s1) q = _
  rw [w_bind]
  exact kn_congr fun x s1 => w_ok _ _ q
theorem w_eb_lenX (a : E) (q : Kn BV) : @Wp _ (eb G (.lenX a) s) q = @Wp _ (ev G (.lenX a) s) ⟨fun x s1 => q.run (.v x.pv) s1, q.exc⟩ := by
  show @Wp _ ((ev G (.lenX a) s).bind fun x s1 => .ok (.v x.pv) s1) q = _
  rw [w_bind]
  exact kn_congr fun x s1 => w_ok _ _ q
theorem w_et_lenX (a : E) (q : Kn Bool) : @Wp _ (et G (.lenX a) s) q = @Wp _ (ev G (.lenX a) s) ⟨fun x s1 => @Wp _ (liftO (truP x.pv) s1) q, q.exc⟩ := by
  show @Wp _ ((ev G (.lenX a) s).bind fun x s1 => liftO (truP x.pv) s1) q = _
  rw [w_bind]
theorem w_ret_lenX (a : E) (q : Kn Fl) : @Wp _ (dst G (.ret (.lenX a)) s) q = @Wp _ (ev G (.lenX a) s) ⟨fun x s1 => q.run (.ret x) s1, q.exc⟩ := by
  show @Wp _ ((ev G (.lenX a) s).bind fun x s1 => .ok (.ret x) s1) q = _
  rw [w_bind]
  exact kn_congr fun x s1 => w_ok _ _ q
theorem w_eb_mkI (c : Str) (es : List E) (q : Kn BV) : @Wp _ (eb G (.mkI c es) s) q = @Wp _ (ev G (.mkI c es) s) ⟨fun x s1 => q.run (.v x.pv) s1, q.exc⟩ := by
  show @Wp _ ((ev G (.mkI c es) s).bind fun x s1 => .ok (.v x.pv) s1) q = _
  rw [w_bind]
  exact kn_congr fun x s1 => w_ok _ _ q
theorem w_et_mkI (c : Str) (es : List E) (q : Kn Bool) : @Wp _ (et G (.mkI c es) s) q = @Wp _ (ev G (.mkI c es) s) ⟨fun x s1 => @Wp _ (liftO (truP x.pv) s1) q, q.exc⟩ := by
  show @Wp _ ((ev G (.mkI c es) s).bind fun x s1 => liftO (truP x.pv) s1) q = _
  rw [w_bind]
theorem w_ret_mkI (c : Str) (es : List E) (q : Kn Fl) : @Wp _ (dst G (.ret (.mkI c es)) s) q = @Wp _ (ev G (.mkI c es) s) ⟨fun x s1 => q.run (.ret x) s1, q.exc⟩ := by
  show @Wp _ ((ev G (.mkI c es) s).bind fun x s1 => .ok (.ret x) s1) q = _
  rw [w_bind]
  exact kn_congr fun x s1 => w_ok _ _ q
theorem w_eb_mcl (a : E) (f : Str) (es : List E) (q : Kn BV) : @Wp _ (eb G (.mcl a f es) s) q = @Wp _ (ev G (.mcl a f es) s) ⟨fun x s1 => q.run (.v x.pv) s1, q.exc⟩ := by
  show @Wp _ ((ev G (.mcl a f es) s).bind fun x s1 => .ok (.v x.pv) s1) q = _
  rw [w_bind]
  exact kn_congr fun x s1 => w_ok _ _ q
theorem w_et_mcl (a : E) (f : Str) (es : List E) (q : Kn Bool) : @Wp _ (et G (.mcl a f es) s) q = @Wp _ (ev G (.mcl a f es) s) ⟨fun x s1 => @Wp _ (liftO (truP x.pv) s1) q, q.exc⟩ := by
  show @Wp _ ((ev G (.mcl a f es) s).bind fun x s1 => liftO (truP x.pv) s1) q = _
  rw [w_bind]
theorem w_ret_mcl (a : E) (f : Str) (es : List E) (q : Kn Fl) : @Wp _ (dst G (.ret (.mcl a f es)) s) q = @Wp _ (ev G (.mcl a f es) s) ⟨fun x s1 => q.run (.ret x) s1, q.exc⟩ := by
  show @Wp _ ((ev G (.mcl a f es) s).bind fun x s1 => .ok (.ret x) s1) q = _
  rw [w_bind]
  exact kn_congr fun x s1 => w_ok _ _ q
theorem w_eb_eqR (ne : Bool) (a b : E) (q : Kn BV) : @Wp _ (eb G (.eqR ne a b) s) q = @Wp _ (ev G (.eqR ne a b) s) ⟨fun x s1 => q.run (.v x.pv) s1, q.exc⟩ := by
  show @Wp _ ((ev G (.eqR ne a b) s).bind fun x s1 => .ok (.v x.pv) s1) q = _
  rw [w_bind]
  exact kn_congr fun x s1 => w_ok _ _ q
theorem w_ret_eqR (ne : Bool) (a b : E) (q : Kn Fl) : @Wp _ (dst G (.ret (.eqR ne a b)) s) q = @Wp _ (ev G (.eqR ne a b) s) ⟨fun x s1 => q.run (.ret x) s1, q.exc⟩ := by
  show @Wp _ ((ev G (.eqR ne a b) s).bind fun x s1 => .ok (.ret x) s1) q = _
  rw [w_bind]
  exact kn_congr fun x s1 => w_ok _ _ q
theorem w_eb_isC (a : E) (c : Str) (q : Kn BV) : @Wp _ (eb G (.isC a c) s) q = @Wp _ (ev G (.isC a c) s) ⟨fun x s1 => q.run (.v x.pv) s1, q.exc⟩ := by
  show @Wp _ ((ev G (.isC a c) s).bind fun x s1 => .ok (.v x.pv) s1) q = _
  rw [w_bind]
  exact kn_congr fun x s1 => w_ok _ _ q
theorem w_et_isC (a : E) (c : Str) (q : Kn Bool) : @Wp _ (et G (.isC a c) s) q = @Wp _ (ev G (.isC a c) s) ⟨fun x s1 => @Wp _ (liftO (truP x.pv) s1) q, q.exc⟩ := by
  show @Wp _ ((ev G (.isC a c) s).bind fun x s1 => liftO (truP x.pv) s1) q = _
  rw [w_bind]
theorem w_ret_isC (a : E) (c : Str) (q : Kn Fl) : @Wp _ (dst G (.ret (.isC a c)) s) q = @Wp _ (ev G (.isC a c) s) ⟨fun x s1 => q.run (.ret x) s1, q.exc⟩ := by
  show @Wp _ ((ev G (.isC a c) s).bind fun x s1 => .ok (.ret x) s1) q = _
  rw [w_bind]
  exact kn_congr fun x s1 => w_ok _ _ q
theorem w_eb_callT (f : Str) (es : List E) (q : Kn BV) : @Wp _ (eb G (.callT f es) s) q = @Wp _ (ev G (.callT f es) s) ⟨fun x s1 => q.run (.v x.pv) s1, q.exc⟩ := by
  show @Wp _ ((ev G (.callT f es) s).bind fun x s1 => .ok (.v x.pv) s1) q = _
  rw [w_bind]
  exact kn_congr fun x s1 => w_ok _ _ q
theorem w_et_callT (f : Str) (es : List E) (q : Kn Bool) : @Wp _ (et G (.callT f es) s) q = @Wp _ (ev G (.callT f es) s) ⟨fun x s1 => @Wp _ (liftO (truP x.pv) s1) q, q.exc⟩ := by
  show @Wp _ ((ev G (.callT f es) s).bind fun x s1 => liftO (truP x.pv) s1) q = _
  rw [w_bind]
theorem w_ret_callT (f : Str) (es : List E) (q : Kn Fl) : @Wp _ (dst G (.ret (.callT f es)) s) q = @Wp _ (ev G (.callT f es) s) ⟨fun x s1 => q.run (.ret x) s1, q.exc⟩ := by
  show @Wp _ ((ev G (.callT f es) s).bind fun x s1 => .ok (.ret x) s1) q = _
  rw [w_bind]
  exact kn_congr fun x s1 => w_ok _ _ q
theorem w_eb_comp (own : List (Str × Nat)) (elt : E) (tg : T) (k : IK) (src ifs : List E) (q : Kn BV) : @Wp _ (eb G (.comp own elt tg k src ifs) s) q = @Wp _ (ev G (.comp own elt tg k src ifs) s) ⟨fun x s1 => q.run (.v x.pv) s1, q.exc⟩ := by
  show @Wp _ ((ev G (.comp own elt tg k src ifs) s).bind fun x s1 => .ok (.v x.pv) s1) q = _
  rw [w_bind]
  exact kn_congr fun x s1 => w_ok _ _ q
theorem w_et_comp (own : List (Str × Nat)) (elt : E) (tg : T) (k : IK) (src ifs : List E) (q : Kn Bool) : @Wp _ (et G (.comp own elt tg k src ifs) s) q = @Wp _ (ev G (.comp own elt tg k src ifs) s) ⟨fun x s1 => @Wp _ (liftO (truP x.pv) s1) q, q.exc⟩ := by
  show @Wp _ ((ev G (.comp own elt tg k src ifs) s).bind fun x s1 => liftO (truP x.pv) s1) q = _
  rw [w_bind]
theorem w_ret_comp (own : List (Str × Nat)) (elt : E) (tg : T) (k : IK) (src ifs : List E) (q : Kn Fl) : @Wp _ (dst G (.ret (.comp own elt tg k src ifs)) s) q = @Wp _ (ev G (.comp own elt tg k src ifs) s) ⟨fun x s1 => q.run (.ret x) s1, q.exc⟩ := by
  show @Wp _ ((ev G (.comp own elt tg k src ifs) s).bind fun x s1 => .ok (.ret x) s1) q = _
  rw [w_bind]
  exact kn_congr fun x s1 => w_ok _ _ q
theorem w_eb_comp2 (own own1 : List (Str × Nat)) (elt : E) (tg : T) (k : IK) (src : List E) (tg1 : T) (k1 : IK) (src1 ifs : List E) (q : Kn BV) : @Wp _ (eb G (.comp2 own own1 elt tg k src tg1 k1 src1 ifs) s) q = @Wp _ (ev G (.comp2 own own1 elt tg k src tg1 k1 src1 ifs) s) ⟨fun x s1 => q.run (.v x.pv) s1, q.exc⟩ := by
  show @Wp _ ((ev G (.comp2 own own1 elt tg k src tg1 k1 src1 ifs) s).bind fun x s1 => .ok (.v x.pv) s1) q = _
  rw [w_bind]
  exact kn_congr fun x s1 => w_ok _ _ q
theorem w_et_comp2 (own own1 : List (Str × Nat)) (elt : E) (tg : T) (k : IK) (src : List E) (tg1 : T) (k1 : IK) (src1 ifs : List E) (q : Kn Bool) : @Wp _ (et G (.comp2 own own1 elt tg k src tg1 k1 src1 ifs) s) q = @Wp _ (ev G (.comp2 own own1 elt tg k src tg1 k1 src1 ifs) s) ⟨fun x s1 => @Wp _ (liftO (truP x.pv) s1) q, q.exc⟩ := by
  show @Wp _ ((ev G (.comp2 own own1 elt tg k src tg1 k1 src1 ifs) s).bind fun x s1 => liftO (truP x.pv) s1) q = _
  rw [w_bind]
theorem w_ret_comp2 (own own1 : List (Str × Nat)) (elt : E) (tg : T) (k : IK) (src : List E) (tg1 : T) (k1 : IK) (src1 ifs : List E) (q : Kn Fl) : @Wp _ (dst G (.ret (.comp2 own own1 elt tg k src tg1 k1 src1 ifs)) s) q = @Wp _ (ev G (.comp2 own own1 elt tg k src tg1 k1 src1 ifs) s) ⟨fun x s1 => q.run (.ret x) s1, q.exc⟩ := by
  show @Wp _ ((ev G (.comp2 own own1 elt tg k src tg1 k1 src1 ifs) s).bind fun x s1 => .ok (.ret x) s1) q = _
  rw [w_bind]
  exact kn_congr fun x s1 => w_ok _ _ q
theorem w_eb_cnt (i : Nat) (e : E) (q : Kn BV) : @Wp _ (eb G (.cnt i e) s) q = @Wp _ (ev G (.cnt i e) s) ⟨fun x s1 => q.run (.v x.pv) s1, q.exc⟩ := by
  show @Wp _ ((ev G (.cnt i e) s).bind fun x s1 => .ok (.v x.pv) s1) q = _
  rw [w_bind]
  exact kn_congr fun x s1 => w_ok _ _ q
theorem w_et_cnt (i : Nat) (e : E) (q : Kn Bool) : @Wp _ (et G (.cnt i e) s) q = @Wp _ (ev G (.cnt i e) s) ⟨fun x s1 => @Wp _ (liftO (truP x.pv) s1) q, q.exc⟩ := by
  show @Wp _ ((ev G (.cnt i e) s).bind fun x s1 => liftO (truP x.pv) s1) q = _
  rw [w_bind]
theorem w_ret_cnt (i : Nat) (e : E) (q : Kn Fl) : @Wp _ (dst G (.ret (.cnt i e)) s) q = @Wp _ (ev G (.cnt i e) s) ⟨fun x s1 => q.run (.ret x) s1, q.exc⟩ := by
  show @Wp _ ((ev G (.cnt i e) s).bind fun x s1 => .ok (.ret x) s1) q = _
  rw [w_bind]
  exact kn_congr fun x s1 => w_ok _ _ q

/-! ### names -/
def ebV (i : Nat) (s : Ps) (o : Option (Option SV)) : R BV := match o with
  | some (some (.val d)) => .ok (.v d) s
  | some (some (.own _)) => .ok (.s i) s
  | _ => .stuck
def evV (i : Nat) (s : Ps) (o : Option (Option SV)) : R SV := match o with
  | some (some (.val d)) => .ok (.val d) s
  | some (some (.own xs)) => .ok (.val (.lst xs)) { s with loc := s.loc.set i (some (.val (.lst xs))) }
  | _ => .stuck
def etV (s : Ps) (o : Option (Option SV)) : R Bool := match o with
  | some (some (.val d)) => liftO (truP d) s
  | some (some (.own xs)) => liftO (truP (.lst xs)) s
  | _ => .stuck
def retV (s : Ps) (o : Option (Option SV)) : R Fl := match o with
  | some (some x) => .ok (.ret x) s
  | _ => .stuck
theorem w_eb_var (i : Nat) (q : Kn BV) : @Wp _ (eb G (.var i) s) q = @Wp _ (ebV i s s.loc[i]?) q := (rfl)
theorem w_ebVv (i : Nat) (d : PV) (q : Kn BV) : @Wp _ (ebV i s (some (some (.val d)))) q = q.run (.v d) s := w_ok _ _ q
theorem w_ebVo (i : Nat) (xs : List PV) (q : Kn BV) : @Wp _ (ebV i s (some (some (.own xs)))) q = q.run (.s i) s := w_ok _ _ q
theorem w_ev_var (i : Nat) (q : Kn SV) : @Wp _ (ev G (.var i) s) q = @Wp _ (evV i s s.loc[i]?) q := (rfl)
theorem w_evVv (i : Nat) (d : PV) (q : Kn SV) : @Wp _ (evV i s (some (some (.val d)))) q = q.run (.val d) s := w_ok _ _ q
theorem w_evVo (i : Nat) (xs : List PV) (q : Kn SV) : @Wp _ (evV i s (some (some (.own xs)))) q = q.run (.val (.lst xs)) { s with loc := s.loc.set i (some (.val (.lst xs))) } := w_ok _ _ q
theorem w_et_var (i : Nat) (q : Kn Bool) : @Wp _ (et G (.var i) s) q = @Wp _ (etV s s.loc[i]?) q := (rfl)
theorem w_etVv (d : PV) (q : Kn Bool) : @Wp _ (etV s (some (some (.val d)))) q = @Wp _ (liftO (truP d) s) q := (rfl)
theorem w_etVo (xs : List PV) (q : Kn Bool) : @Wp _ (etV s (some (some (.own xs)))) q = @Wp _ (liftO (truP (.lst xs)) s) q := (rfl)
theorem w_ret_var (i : Nat) (q : Kn Fl) : @Wp _ (dst G (.ret (.var i)) s) q = @Wp _ (retV s s.loc[i]?) q := by
  have : dst G (.ret (.var i)) s = retV s s.loc[i]? := by
    show (match (some i).bind (fun i => s.loc[i]?) with
      | some (some (.own xs)) => R.ok (Fl.ret (.own xs)) s
      | _ => (ev G (.var i) s).bind fun x s1 => R.ok (Fl.ret x) s1) = _
    rw [Option.bind_some]
    show _ = retV s s.loc[i]?
    have e0 : ev G (.var i) s = evV i s s.loc[i]? := (rfl)
    rw [e0]
    cases e : s.loc[i]? with
    | none => rfl
    | some o => cases o with
      | none => rfl
      | some x => cases x <;> rfl
  rw [this]
theorem w_retV (x : SV) (q : Kn Fl) : @Wp _ (retV s (some (some x))) q = q.run (.ret x) s := w_ok _ _ q
theorem w_ev_glob (x : Str) (q : Kn SV) : @Wp _ (ev G (.glob x) s) q = @Wp _ (liftO ((G.gl x).map .val) s) q := (rfl)
theorem w_ev_cst (d : PV) (q : Kn SV) : @Wp _ (ev G (.cst d) s) q = q.run (.val d) s := w_ok _ _ q
theorem two {α : Type} (a b : E) (f : BV → BV → Ps → R α) (q : Kn α) : @Wp _ ((eb G a s).bind fun x s1 => (eb G b s1).bind fun y s2 => f x y s2) q = @Wp _ (eb G a s) ⟨fun x s1 => @Wp _ (eb G b s1) ⟨fun y s2 => @Wp _ (f x y s2) q, q.exc⟩, q.exc⟩ := by
  rw [w_bind]
  exact kn_congr fun x s1 => w_bind _ _ q
theorem w_ev_bin (op : Operator) (a b : E) (q : Kn SV) : @Wp _ (ev G (.bin op a b) s) q = @Wp _ (eb G a s) ⟨fun x s1 => @Wp _ (eb G b s1) ⟨fun y s2 => @Wp _ (der2 s2 x y fun dx dy => liftO (binP op dx dy) s2) q, q.exc⟩, q.exc⟩ := two G s a b (fun x y s2 => der2 s2 x y fun dx dy => liftO (binP op dx dy) s2) q
def negP (d : PV) : Option SV := match d with
  | .int i => some (.val (.int (-i)))
  | _ => none
theorem w_ev_neg (a : E) (q : Kn SV) : @Wp _ (ev G (.neg a) s) q = @Wp _ (eb G a s) ⟨fun x s1 => @Wp _ (der1 s1 x fun d => liftO (negP d) s1) q, q.exc⟩ := by
  have : ev G (.neg a) s = (eb G a s).bind fun x s1 => der1 s1 x fun d => liftO (negP d) s1 := by
    show ((eb G a s).bind fun x s1 => der1 s1 x fun d => match d with
      | .int i => R.ok (SV.val (.int (-i))) s1
      | _ => R.stuck) = _
    congr; funext x s1; congr; funext d; cases d <;> rfl
  rw [this, w_bind]
theorem w_ev_not (a : E) (q : Kn SV) : @Wp _ (ev G (.not a) s) q = @Wp _ (eb G a s) ⟨fun x s1 => @Wp _ (der1 s1 x fun d => liftO ((truP d).map fun b => .val (.bl (!b))) s1) q, q.exc⟩ := w_bind _ _ q
theorem w_et_not (a : E) (q : Kn Bool) : @Wp _ (et G (.not a) s) q = @Wp _ (et G a s) ⟨fun b s1 => q.run (!b) s1, q.exc⟩ := by
  show @Wp _ ((et G a s).bind fun b s1 => .ok (!b) s1) q = _
  rw [w_bind]
  exact kn_congr fun x s1 => w_ok _ _ q
def boK (G : En) (w : Bool) (b : E) (x : SV) (s1 : Ps) : R SV := match x with
    | .val (.bl c) => bif c == w then ev G b s1 else .ok (.val (.bl c)) s1
    | _ => .stuck
theorem w_boK (w : Bool) (b : E) (c : Bool) (q : Kn SV) : @Wp _ (boK G w b (.val (.bl c)) s) q = @Wp _ (bif c == w then ev G b s else .ok (.val (.bl c)) s) q := (rfl)
theorem w_ev_and (a b : E) (q : Kn SV) : @Wp _ (ev G (.and a b) s) q = @Wp _ (ev G a s) ⟨fun x s1 => @Wp _ (boK G true b x s1) q, q.exc⟩ := by
  have : ev G (.and a b) s = (ev G a s).bind fun x s1 => boK G true b x s1 := by
    show (ev G a s).bind _ = _
    congr; funext x s1
    unfold boK
    cases x with
    | own xs => rfl
    | val d => cases d <;> first | rfl | (rename_i c; cases c <;> rfl)
  rw [this, w_bind]
theorem w_ev_or (a b : E) (q : Kn SV) : @Wp _ (ev G (.or a b) s) q = @Wp _ (ev G a s) ⟨fun x s1 => @Wp _ (boK G false b x s1) q, q.exc⟩ := by
  have : ev G (.or a b) s = (ev G a s).bind fun x s1 => boK G false b x s1 := by
    show (ev G a s).bind _ = _
    congr; funext x s1
    unfold boK
    cases x with
    | own xs => rfl
    | val d => cases d <;> first | rfl | (rename_i c; cases c <;> rfl)
  rw [this, w_bind]
theorem w_et_and (a b : E) (q : Kn Bool) : @Wp _ (et G (.and a b) s) q = @Wp _ (et G a s) ⟨fun x s1 => @Wp _ (bif x then et G b s1 else .ok false s1) q, q.exc⟩ := by
  show @Wp _ ((et G a s).bind _) q = _
  rw [w_bind]
  exact kn_congr fun x s1 => by cases x <;> rfl
theorem w_et_or (a b : E) (q : Kn Bool) : @Wp _ (et G (.or a b) s) q = @Wp _ (et G a s) ⟨fun x s1 => @Wp _ (bif x then .ok true s1 else et G b s1) q, q.exc⟩ := by
  show @Wp _ ((et G a s).bind _) q = _
  rw [w_bind]
  exact kn_congr fun x s1 => by cases x <;> rfl
theorem w_ev_cmp (op : CmpOp) (a b : E) (q : Kn SV) : @Wp _ (ev G (.cmp op a b) s) q = @Wp _ (eb G a s) ⟨fun x s1 => @Wp _ (eb G b s1) ⟨fun y s2 => @Wp _ (der2 s2 x y fun dx dy => liftO ((cmpP op dx dy).map fun b => .val (.bl b)) s2) q, q.exc⟩, q.exc⟩ := two G s a b (fun x y s2 => der2 s2 x y fun dx dy => liftO ((cmpP op dx dy).map fun b => SV.val (.bl b)) s2) q
theorem w_et_cmp (op : CmpOp) (a b : E) (q : Kn Bool) : @Wp _ (et G (.cmp op a b) s) q = @Wp _ (eb G a s) ⟨fun x s1 => @Wp _ (eb G b s1) ⟨fun y s2 => @Wp _ (der2 s2 x y fun dx dy => liftO (cmpP op dx dy) s2) q, q.exc⟩, q.exc⟩ := two G s a b (fun x y s2 => der2 s2 x y fun dx dy => liftO (cmpP op dx dy) s2) q
def chnK (G : En) (op' : CmpOp) (y : BV) (c : E) (s2 : Ps) (o : Option Bool) : R Bool := match o with
      | some true => (eb G c s2).bind fun z s3 => der2 s3 y z fun dy dz => liftO (cmpP op' dy dz) s3
      | some false => .ok false s2
      | none => .stuck
def chnL (G : En) (op' : CmpOp) (y : BV) (c : E) (s2 : Ps) : R Bool := (eb G c s2).bind fun z s3 => der2 s3 y z fun dy dz => liftO (cmpP op' dy dz) s3
theorem w_chnK (op' : CmpOp) (y : BV) (c : E) (b : Bool) (q : Kn Bool) : @Wp _ (chnK G op' y c s (some b)) q = @Wp _ (bif b then chnL G op' y c s else .ok false s) q := by cases b <;> rfl
theorem w_chnL (op' : CmpOp) (y : BV) (c : E) (q : Kn Bool) : @Wp _ (chnL G op' y c s) q = @Wp _ (eb G c s) ⟨fun z s3 => @Wp _ (der2 s3 y z fun dy dz => liftO (cmpP op' dy dz) s3) q, q.exc⟩ := w_bind _ _ q
theorem w_et_chain (op op' : CmpOp) (a b c : E) (q : Kn Bool) : @Wp _ (et G (.chain op op' a b c) s) q = @Wp _ (eb G a s) ⟨fun x s1 => @Wp _ (eb G b s1) ⟨fun y s2 => @Wp _ (der2 s2 x y fun dx dy => chnK G op' y c s2 (cmpP op dx dy)) q, q.exc⟩, q.exc⟩ := two G s a b (fun x y s2 => der2 s2 x y fun dx dy => chnK G op' y c s2 (cmpP op dx dy)) q
theorem w_ev_chain (op op' : CmpOp) (a b c : E) (q : Kn SV) : @Wp _ (ev G (.chain op op' a b c) s) q = @Wp _ (et G (.chain op op' a b c) s) ⟨fun b s1 => q.run (.val (.bl b)) s1, q.exc⟩ := by
  show @Wp _ ((et G (.chain op op' a b c) s).bind fun b s1 => .ok (.val (.bl b)) s1) q = _
  rw [w_bind]
  exact kn_congr fun x s1 => w_ok _ _ q
theorem w_ev_ite (c a b : E) (q : Kn SV) : @Wp _ (ev G (.ite c a b) s) q = @Wp _ (et G c s) ⟨fun k s1 => @Wp _ (bif k then ev G a s1 else ev G b s1) q, q.exc⟩ := by
  show @Wp _ ((et G c s).bind _) q = _
  rw [w_bind]
  exact kn_congr fun x s1 => by cases x <;> rfl
theorem w_et_ite (c a b : E) (q : Kn Bool) : @Wp _ (et G (.ite c a b) s) q = @Wp _ (et G c s) ⟨fun k s1 => @Wp _ (bif k then et G a s1 else et G b s1) q, q.exc⟩ := by
  show @Wp _ ((et G c s).bind _) q = _
  rw [w_bind]
  exact kn_congr fun x s1 => by cases x <;> rfl
theorem w_ev_tup (es : List E) (q : Kn SV) : @Wp _ (ev G (.tup es) s) q = @Wp _ (ebs G false es s) ⟨fun xs s1 => @Wp _ (ders s1 xs fun ds => .ok (.val (.tup ds)) s1) q, q.exc⟩ := w_bind _ _ q
theorem w_ev_lst (es : List E) (q : Kn SV) : @Wp _ (ev G (.lst es) s) q = @Wp _ (ebs G false es s) ⟨fun xs s1 => @Wp _ (ders s1 xs fun ds => .ok (.own ds) s1) q, q.exc⟩ := w_bind _ _ q
def calP (r : C) (s : Ps) : R SV := match r with
      | .ok v st => .ok v { s with sto := st }
      | .exc c fs st => .exc c fs { s with sto := st }
      | .stuck => .stuck
theorem w_cal (v : SV) (st : Sto) (q : Kn SV) : @Wp _ (calP (.ok v st) s) q = q.run v { s with sto := st } := w_ok _ _ q
theorem w_calX (c : Str) (fs : List PV) (st : Sto) (q : Kn SV) : @Wp _ (calP (.exc c fs st) s) q = q.exc c fs { s with sto := st } := w_exc _ _ _ q
/-- a call by what it does -/
theorem w_calW {r : C} {q : Kn SV} (h : @WpC r ⟨fun v st => q.run v { s with sto := st }, fun c fs st => q.exc c fs { s with sto := st }⟩) : @Wp _ (calP r s) q := by
  cases h with
  | ok v st e h => subst e; rw [w_cal]; exact h
  | exc c fs st e h => subst e; rw [w_calX]; exact h
theorem w_ev_call (f : Str) (es : List E) (q : Kn SV) : @Wp _ (ev G (.call f es) s) q = @Wp _ (ebs G false es s) ⟨fun xs s1 => @Wp _ (ders s1 xs fun ds => calP (G.cl f ds s1.sto) s1) q, q.exc⟩ := w_bind _ _ q
theorem w_ev_prim (f : Pm) (es : List E) (q : Kn SV) : @Wp _ (ev G (.prim f es) s) q = @Wp _ (ebs G true es s) ⟨fun xs s1 => @Wp _ (ders s1 xs fun ds => liftO (primP f ds) s1) q, q.exc⟩ := w_bind _ _ q
theorem w_ev_isi (a : E) (t : String) (q : Kn SV) : @Wp _ (ev G (.isi a t) s) q = @Wp _ (eb G a s) ⟨fun x s1 => @Wp _ (der1 s1 x fun d => liftO ((isiP t d).map fun b => .val (.bl b)) s1) q, q.exc⟩ := w_bind _ _ q
def ownK (o : Option (Option SV)) (r : R SV) : R SV := match o with
  | some (some (.own _)) => r
  | _ => .stuck
theorem w_ownK (xs : List PV) (r : R SV) (q : Kn SV) : @Wp _ (ownK (some (some (.own xs))) r) q = @Wp _ r q := (rfl)
theorem own_eq (i : Nat) (r : R SV) : (if isOwn i s then r else .stuck) = ownK s.loc[i]? r := by
  unfold isOwn ownK
  cases s.loc[i]? with
  | none => rfl
  | some o => cases o with
    | none => rfl
    | some x => cases x <;> rfl
def appK (i : Nat) (y : PV) (s1 : Ps) (o : Option (Option SV)) : R SV := match o with
    | some (some (.own xs)) => if xs.length < lim then .ok (.val .non) { s1 with loc := s1.loc.set i (some (.own (xs ++ [y]))) } else .stuck
    | _ => .stuck
def extK (i : Nat) (y : PV) (s1 : Ps) (o : Option (Option SV)) : R SV := match o, y with
    | some (some (.own xs)), .lst ys => if xs.length + ys.length ≤ lim then .ok (.val .non) { s1 with loc := s1.loc.set i (some (.own (xs ++ ys))) } else .stuck
    | _, _ => .stuck
theorem w_appK (i : Nat) (y : PV) (xs : List PV) (q : Kn SV) (h : xs.length < 16777216) : @Wp _ (appK i y s (some (some (.own xs)))) q = q.run (.val .non) { s with loc := s.loc.set i (some (.own (xs ++ [y]))) } := by
  have : appK i y s (some (some (.own xs))) = .ok (.val .non) { s with loc := s.loc.set i (some (.own (xs ++ [y]))) } := if_pos h
  rw [this, w_ok]
theorem w_extK (i : Nat) (ys : List PV) (xs : List PV) (q : Kn SV) (h : xs.length + ys.length ≤ 16777216) : @Wp _ (extK i (.lst ys) s (some (some (.own xs)))) q = q.run (.val .non) { s with loc := s.loc.set i (some (.own (xs ++ ys))) } := by
  have : extK i (.lst ys) s (some (some (.own xs))) = .ok (.val .non) { s with loc := s.loc.set i (some (.own (xs ++ ys))) } := if_pos h
  rw [this, w_ok]
theorem w_ev_app (i : Nat) (e : E) (q : Kn SV) : @Wp _ (ev G (.app i e) s) q = @Wp _ (ownK s.loc[i]? (ev G e s)) ⟨fun x s1 => @Wp _ (appK i x.pv s1 s1.loc[i]?) q, q.exc⟩ := by
  have h1 : ev G (.app i e) s = if isOwn i s then (ev G e s).bind (appP i) else .stuck := (rfl)
  rw [h1, own_eq]
  have h2 : appP i = fun x s1 => appK i x.pv s1 s1.loc[i]? := by
    funext x s1
    unfold appP appK
    rfl
  rw [h2]
  cases s.loc[i]? with
  | none => exact stuck2 _ _
  | some o => cases o with
    | none => exact stuck2 _ _
    | some x => cases x with
      | val d => exact stuck2 _ _
      | own xs => exact w_bind _ _ q
theorem w_ev_ext (i : Nat) (e : E) (q : Kn SV) : @Wp _ (ev G (.ext i e) s) q = @Wp _ (ownK s.loc[i]? (ev G e s)) ⟨fun x s1 => @Wp _ (extK i x.pv s1 s1.loc[i]?) q, q.exc⟩ := by
  have h1 : ev G (.ext i e) s = if isOwn i s then (ev G e s).bind (extP i) else .stuck := (rfl)
  rw [h1, own_eq]
  have h2 : extP i = fun x s1 => extK i x.pv s1 s1.loc[i]? := by
    funext x s1
    unfold extP extK
    rfl
  rw [h2]
  cases s.loc[i]? with
  | none => exact stuck2 _ _
  | some o => cases o with
    | none => exact stuck2 _ _
    | some x => cases x with
      | val d => exact stuck2 _ _
      | own xs => exact w_bind _ _ q
theorem w_ev_pop (i : Nat) (e : E) (q : Kn SV) : @Wp _ (ev G (.pop i e) s) q = @Wp _ (ownK s.loc[i]? (ev G e s)) ⟨fun x s1 => @Wp _ (popP i x s1) q, q.exc⟩ := by
  have h1 : ev G (.pop i e) s = if isOwn i s then (ev G e s).bind (popP i) else .stuck := (rfl)
  rw [h1, own_eq]
  cases s.loc[i]? with
  | none => exact stuck2 _ _
  | some o => cases o with
    | none => exact stuck2 _ _
    | some x => cases x with
      | val d => exact stuck2 _ _
      | own xs => exact w_bind _ _ q
theorem w_ev_idx (a i : E) (q : Kn SV) : @Wp _ (ev G (.idx a i) s) q = @Wp _ (eb G a s) ⟨fun x s1 => @Wp _ (eb G i s1) ⟨fun y s2 => @Wp _ (der2 s2 x y fun dx dy => liftO ((idxP s2.sto dx dy).map .val) s2) q, q.exc⟩, q.exc⟩ := two G s a i (fun x y s2 => der2 s2 x y fun dx dy => liftO ((idxP s2.sto dx dy).map SV.val) s2) q
theorem w_ev_slo (a i : E) (q : Kn SV) : @Wp _ (ev G (.slo a i) s) q = @Wp _ (eb G a s) ⟨fun x s1 => @Wp _ (eb G i s1) ⟨fun y s2 => @Wp _ (der2 s2 x y fun dx dy => liftO (sloP dx dy) s2) q, q.exc⟩, q.exc⟩ := two G s a i (fun x y s2 => der2 s2 x y fun dx dy => liftO (sloP dx dy) s2) q
theorem w_ev_shi (a i : E) (q : Kn SV) : @Wp _ (ev G (.shi a i) s) q = @Wp _ (eb G a s) ⟨fun x s1 => @Wp _ (eb G i s1) ⟨fun y s2 => @Wp _ (der2 s2 x y fun dx dy => liftO (shiP dx dy) s2) q, q.exc⟩, q.exc⟩ := two G s a i (fun x y s2 => der2 s2 x y fun dx dy => liftO (shiP dx dy) s2) q
def sl3 (x : BV) (i : Int) (z : BV) (s3 : Ps) : R SV := der2 s3 x z fun dx dz => liftO (shi2P i dx dz) s3
def sl2I (G : En) (x : BV) (c : E) (y : SV) (s2 : Ps) : R SV := match y with
  | .val (.int i) => (eb G c s2).bind fun z s3 => sl3 x i z s3
  | _ => .stuck
theorem w_sl2I (x : BV) (c : E) (i : Int) (q : Kn SV) : @Wp _ (sl2I G x c (.val (.int i)) s) q = @Wp _ (eb G c s) ⟨fun z s3 => @Wp _ (sl3 x i z s3) q, q.exc⟩ := w_bind _ _ q
theorem w_sl3 (x : BV) (i : Int) (z : BV) (q : Kn SV) : @Wp _ (sl3 x i z s) q = @Wp _ (der2 s x z fun dx dz => liftO (shi2P i dx dz) s) q := (rfl)
theorem w_ev_sl2 (a i j : E) (q : Kn SV) : @Wp _ (ev G (.sl2 a i j) s) q = @Wp _ (eb G a s) ⟨fun x s1 => @Wp _ (ev G i s1) ⟨fun y s2 => @Wp _ (sl2I G x j y s2) q, q.exc⟩, q.exc⟩ := by
  have : ev G (.sl2 a i j) s = (eb G a s).bind fun x s1 => (ev G i s1).bind fun y s2 => sl2I G x j y s2 := by
    show (eb G a s).bind (fun x s1 => (ev G i s1).bind (sl2K x (den G j))) = _
    congr
  rw [this, w_bind]
  exact kn_congr fun x s1 => w_bind _ _ q
def ss3 (x : BV) (i : Int) (z : BV) (s3 : Ps) : R SV := der2 s3 x z fun dx dz => liftO (slstP i dx dz) s3
def slsI (G : En) (x : BV) (c : E) (y : SV) (s2 : Ps) : R SV := match y with
  | .val (.int i) => (eb G c s2).bind fun z s3 => ss3 x i z s3
  | _ => .stuck
theorem w_slsI (x : BV) (c : E) (i : Int) (q : Kn SV) : @Wp _ (slsI G x c (.val (.int i)) s) q = @Wp _ (eb G c s) ⟨fun z s3 => @Wp _ (ss3 x i z s3) q, q.exc⟩ := w_bind _ _ q
theorem w_ss3 (x : BV) (i : Int) (z : BV) (q : Kn SV) : @Wp _ (ss3 x i z s) q = @Wp _ (der2 s x z fun dx dz => liftO (slstP i dx dz) s) q := (rfl)
theorem w_ev_sls (a i k : E) (q : Kn SV) : @Wp _ (ev G (.sls a i k) s) q = @Wp _ (eb G a s) ⟨fun x s1 => @Wp _ (ev G i s1) ⟨fun y s2 => @Wp _ (slsI G x k y s2) q, q.exc⟩, q.exc⟩ := by
  have : ev G (.sls a i k) s = (eb G a s).bind fun x s1 => (ev G i s1).bind fun y s2 => slsI G x k y s2 := by
    show (eb G a s).bind (fun x s1 => (ev G i s1).bind (slsK x (den G k))) = _
    congr
  rw [this, w_bind]
  exact kn_congr fun x s1 => w_bind _ _ q
theorem w_ev_mnd (mx : Bool) (a d : E) (q : Kn SV) : @Wp _ (ev G (.mnd mx a d) s) q = @Wp _ (eb G a s) ⟨fun x s1 => @Wp _ (eb G d s1) ⟨fun y s2 => @Wp _ (der2 s2 x y fun dx dy => liftO (mdP mx dx dy) s2) q, q.exc⟩, q.exc⟩ := two G s a d (fun x y s2 => der2 s2 x y fun dx dy => liftO (mdP mx dx dy) s2) q
theorem w_ev_join (sep : Str) (a : E) (q : Kn SV) : @Wp _ (ev G (.join sep a) s) q = @Wp _ (eb G a s) ⟨fun x s1 => @Wp _ (der1 s1 x fun d => liftO (joinP sep d) s1) q, q.exc⟩ := w_bind _ _ q
theorem w_ev_attr (a : E) (f : Str) (q : Kn SV) : @Wp _ (ev G (.attr a f) s) q = @Wp _ (eb G a s) ⟨fun x s1 => @Wp _ (der1 s1 x fun d => attrP G f d s1) q, q.exc⟩ := w_bind _ _ q
theorem w_ev_mkR (c : Str) (es : List E) (q : Kn SV) : @Wp _ (ev G (.mkR c es) s) q = @Wp _ (ebs G false es s) ⟨fun xs s1 => @Wp _ (ders s1 xs fun ds => mkP G c ds s1) q, q.exc⟩ := w_bind _ _ q
theorem w_ev_lenX (a : E) (q : Kn SV) : @Wp _ (ev G (.lenX a) s) q = @Wp _ (eb G a s) ⟨fun x s1 => @Wp _ (der1 s1 x fun d => lenP G d s1) q, q.exc⟩ := w_bind _ _ q
def cmpK (G : En) (own : List Nat) (elt : E) (tg : T) (ifs : List E) (o : Option (List PV)) (s1 : Ps) : R SV := match o with
      | some its => compR own (den G elt) tg (dens G ifs) its s1
      | none => .stuck
theorem w_cmpK (own : List Nat) (elt : E) (tg : T) (ifs : List E) (its : List PV) (q : Kn SV) : @Wp _ (cmpK G own elt tg ifs (some its) s) q = @Wp _ (compR own (den G elt) tg (dens G ifs) its s) q := (rfl)
theorem w_ev_comp (own : List (Str × Nat)) (elt : E) (tg : T) (k : IK) (src ifs : List E) (q : Kn SV) : @Wp _ (ev G (.comp own elt tg k src ifs) s) q = @Wp _ (ebs G false src s) ⟨fun xs s1 => @Wp _ (ders s1 xs fun ds => cmpK G (own.map (·.2)) elt tg ifs (itemsP k ds) s1) q, q.exc⟩ := w_bind _ _ q
def cmp2K (G : En) (own own1 : List Nat) (elt : E) (tg tg1 : T) (k1 : IK) (src1 ifs : List E) (o : Option (List PV)) (s1 : Ps) : R SV := match o with
      | some its => comp2R own own1 (den G elt) tg (itR k1 (dens G src1)) tg1 (dens G ifs) its s1
      | none => .stuck
theorem w_cmp2K (own own1 : List Nat) (elt : E) (tg tg1 : T) (k1 : IK) (src1 ifs : List E) (its : List PV) (q : Kn SV) : @Wp _ (cmp2K G own own1 elt tg tg1 k1 src1 ifs (some its) s) q = @Wp _ (comp2R own own1 (den G elt) tg (itR k1 (dens G src1)) tg1 (dens G ifs) its s) q := (rfl)
theorem w_ev_comp2 (own own1 : List (Str × Nat)) (elt : E) (tg : T) (k : IK) (src : List E) (tg1 : T) (k1 : IK) (src1 ifs : List E) (q : Kn SV) : @Wp _ (ev G (.comp2 own own1 elt tg k src tg1 k1 src1 ifs) s) q = @Wp _ (ebs G false src s) ⟨fun xs s1 => @Wp _ (ders s1 xs fun ds => cmp2K G (own.map (·.2)) (own1.map (·.2)) elt tg tg1 k1 src1 ifs (itemsP k ds) s1) q, q.exc⟩ := w_bind _ _ q
theorem w_itR (k : IK) (src : List E) (q : Kn (List PV)) : @Wp _ (itR k (dens G src) s) q = @Wp _ (ebs G false src s) ⟨fun xs s1 => @Wp _ (ders s1 xs fun ds => liftO (itemsP k ds) s1) q, q.exc⟩ := w_bind _ _ q
def lstO : Option (Option SV) → Option (List PV)
  | some (some (.own xs)) => some xs
  | some (some (.val (.lst xs))) => some xs
  | _ => none
theorem lstO_o (xs : List PV) : lstO (some (some (.own xs))) = some xs := (rfl)
theorem lstO_v (xs : List PV) : lstO (some (some (.val (.lst xs)))) = some xs := (rfl)
def lstK (o : Option (List PV)) (r : R SV) : R SV := match o with
  | some _ => r
  | none => .stuck
theorem w_lstK (xs : List PV) (r : R SV) (q : Kn SV) : @Wp _ (lstK (some xs) r) q = @Wp _ r q := (rfl)
def cntLk (o : Option (List PV)) (d : PV) (s1 : Ps) : R SV := match o with
  | some xs => liftO (cntP xs d) s1
  | none => .stuck
theorem w_cntLk (xs : List PV) (d : PV) (q : Kn SV) : @Wp _ (cntLk (some xs) d s) q = @Wp _ (liftO (cntP xs d) s) q := (rfl)
theorem w_ev_cnt (i : Nat) (e : E) (q : Kn SV) : @Wp _ (ev G (.cnt i e) s) q = @Wp _ (lstK (lstO s.loc[i]?) (ev G e s)) ⟨fun x s1 => @Wp _ (cntLk (lstO s1.loc[i]?) x.pv s1) q, q.exc⟩ := by
  have h0 : ∀ s : Ps, lstAt i s = lstO s.loc[i]? := fun s => by unfold lstAt lstO; rfl
  have h1 : ev G (.cnt i e) s = if (lstAt i s).isSome then (ev G e s).bind (cntK i) else .stuck := (rfl)
  have h2 : cntK i = fun x s1 => cntLk (lstO s1.loc[i]?) x.pv s1 := by
    funext x s1
    unfold cntK cntLk
    rw [h0]
    all_goals (cases lstO s1.loc[i]? <;> rfl)
  rw [h1, h0, h2]
  cases lstO s.loc[i]? with
  | none => exact stuck2 _ _
  | some xs => exact w_bind _ _ q
def dspK (t : Bool) (xs : List PV) (s1 : Ps) : R SV := if xs.length ≤ lim then .ok (if t then .val (.tup xs) else .own xs) s1 else .stuck
def evsp (G : En) (fl : List Bool) (es : List E) (s : Ps) : R (List PV) := spl fl (dens G es) s
def splK (o : Option (List PV)) (f : List PV → R (List PV)) : R (List PV) := match o with
  | some ys => f ys
  | none => .stuck
theorem w_splK (ys : List PV) (f : List PV → R (List PV)) (q : Kn (List PV)) : @Wp _ (splK (some ys) f) q = @Wp _ (f ys) q := (rfl)
theorem w_dspT (xs : List PV) (h : xs.length ≤ 16777216) (q : Kn SV) : @Wp _ (dspK true xs s) q = q.run (.val (.tup xs)) s := by
  have e : dspK true xs s = .ok (.val (.tup xs)) s := if_pos h
  rw [e]; exact w_ok _ _ q
theorem w_dspL (xs : List PV) (h : xs.length ≤ 16777216) (q : Kn SV) : @Wp _ (dspK false xs s) q = q.run (.own xs) s := by
  have e : dspK false xs s = .ok (.own xs) s := if_pos h
  rw [e]; exact w_ok _ _ q
theorem w_ev_dsp (t : Bool) (fl : List Bool) (es : List E) (q : Kn SV) : @Wp _ (ev G (.dsp t fl es) s) q = @Wp _ (evsp G fl es s) ⟨fun xs s1 => @Wp _ (dspK t xs s1) q, q.exc⟩ := w_bind _ _ q
theorem w_spn (fl : List Bool) (q : Kn (List PV)) : @Wp _ (evsp G fl [] s) q = q.run [] s := w_ok _ _ q
def spR (G : En) (fl : List Bool) (es : List E) (s1 : Ps) (ys : List PV) : R (List PV) := (evsp G fl es s1).bind fun xs s2 => .ok (ys ++ xs) s2
theorem w_spR (fl : List Bool) (es : List E) (ys : List PV) (q : Kn (List PV)) : @Wp _ (spR G fl es s ys) q = @Wp _ (evsp G fl es s) ⟨fun xs s2 => q.run (ys ++ xs) s2, q.exc⟩ := by
  unfold spR
  rw [w_bind]
  exact kn_congr fun x s1 => w_ok _ _ q
theorem w_spc (b : Bool) (fl : List Bool) (e : E) (es : List E) (q : Kn (List PV)) : @Wp _ (evsp G (b :: fl) (e :: es) s) q = @Wp _ (ev G e s) ⟨fun x s1 => @Wp _ (splK (splP b x.pv) (spR G fl es s1)) q, q.exc⟩ := w_bind _ _ q
theorem splP_f (d : PV) : splP false d = some [d] := (rfl)
theorem splP_l (d : List PV) : splP true (.lst d) = some d := (rfl)
theorem splP_t (d : List PV) : splP true (.tup d) = some d := (rfl)
/-! ### statements -/
theorem w_expr (e : E) (q : Kn Fl) : @Wp _ (dst G (.expr e) s) q = @Wp _ (ev G e s) ⟨fun _ s1 => q.run .next s1, q.exc⟩ := by
  show @Wp _ ((ev G e s).bind fun _ s1 => .ok .next s1) q = _
  rw [w_bind]
  exact kn_congr fun x s1 => w_ok _ _ q
theorem w_asgV (i : Nat) (e : E) (q : Kn Fl) : @Wp _ (dst G (.asg (.var i) e) s) q = @Wp _ (ev G e s) ⟨fun x s1 => q.run .next { s1 with loc := s1.loc.set i (some x) }, q.exc⟩ := by
  show @Wp _ ((ev G e s).bind fun x s1 => .ok .next { s1 with loc := s1.loc.set i (some x) }) q = _
  rw [w_bind]
  exact kn_congr fun x s1 => w_ok _ _ q
def asgK (o : Option Loc) (s : Ps) : R Fl := match o with
  | some l => .ok .next { s with loc := l }
  | none => .stuck
def asgL (ts : List T) (x : SV) (s : Ps) : R Fl := match x with
  | .val d => asgK (asgT (.tup ts) d s.loc) s
  | .own _ => .stuck
theorem w_asgL (ts : List T) (d : PV) (q : Kn Fl) : @Wp _ (asgL ts (.val d) s) q = @Wp _ (asgK (asgT (.tup ts) d s.loc) s) q := (rfl)
theorem w_asgK (l : Loc) (q : Kn Fl) : @Wp _ (asgK (some l) s) q = q.run .next { s with loc := l } := w_ok _ _ q
theorem w_asgT (ts : List T) (e : E) (q : Kn Fl) : @Wp _ (dst G (.asg (.tup ts) e) s) q = @Wp _ (ev G e s) ⟨fun x s1 => @Wp _ (asgL ts x s1) q, q.exc⟩ := by
  have : dst G (.asg (.tup ts) e) s = (ev G e s).bind fun x s1 => asgL ts x s1 := by
    show (ev G e s).bind (fun x s1 => asgS (.tup ts) x s1) = _
    congr; funext x s1
    cases x <;> rfl
  rw [this, w_bind]
theorem w_row (i : Nat) (es : List E) (q : Kn Fl) : @Wp _ (dst G (.newRow i es) s) q = @Wp _ (ebs G false es s) ⟨fun xs s => @Wp _ (ders s xs fun ds => .ok .next { loc := s.loc.set i (some (.val (.ref s.sto.length))), sto := s.sto ++ [.row ds] }) q, q.exc⟩ := w_bind _ _ q
theorem w_par (i j : Nat) (a b : E) (q : Kn Fl) : @Wp _ (dst G (.par i j a b) s) q = @Wp _ (ev G a s) ⟨fun x s1 => @Wp _ (ev G b s1) ⟨fun y s2 => q.run .next { s2 with loc := (s2.loc.set i (some x)).set j (some y) }, q.exc⟩, q.exc⟩ := by
  show @Wp _ ((ev G a s).bind fun x s1 => (ev G b s1).bind fun y s2 => .ok .next { s2 with loc := (s2.loc.set i (some x)).set j (some y) }) q = _
  rw [w_bind]
  refine kn_congr fun x s1 => ?_
  rw [w_bind]
  exact kn_congr fun y s2 => w_ok _ _ q
theorem w_par3 (i j l : Nat) (a b c : E) (q : Kn Fl) : @Wp _ (dst G (.par3 i j l a b c) s) q = @Wp _ (ev G a s) ⟨fun x s1 => @Wp _ (ev G b s1) ⟨fun y s2 => @Wp _ (ev G c s2) ⟨fun z s3 => q.run .next { s3 with loc := ((s3.loc.set i (some x)).set j (some y)).set l (some z) }, q.exc⟩, q.exc⟩, q.exc⟩ := by
  have : dst G (.par3 i j l a b c) s = (ev G a s).bind fun x s1 => (ev G b s1).bind fun y s2 => (ev G c s2).bind fun z s3 => .ok .next { s3 with loc := ((s3.loc.set i (some x)).set j (some y)).set l (some z) } := by
    show (((ev G a s).bind fun x s1 => ((ev G b s1).bind fun y s2 => ((ev G c s2).bind fun z s3 => .ok [z] s3).bind fun xs s2 => .ok (y :: xs) s2).bind fun xs s2 => .ok (x :: xs) s2).bind fun xs s1 => R.ok Fl.next { s1 with loc := setMany [i, j, l] xs s1.loc }) = _
    cases ev G a s with
    | ok x s1 =>
      show (((ev G b s1).bind fun y s2 => ((ev G c s2).bind fun z s3 => .ok [z] s3).bind fun xs s2 => .ok (y :: xs) s2).bind fun xs s2 => .ok (x :: xs) s2).bind _ = (ev G b s1).bind _
      cases ev G b s1 with
      | ok y s2 =>
        show ((((ev G c s2).bind fun z s3 => .ok [z] s3).bind fun xs s2 => .ok (y :: xs) s2).bind fun xs s2 => .ok (x :: xs) s2).bind _ = (ev G c s2).bind _
        cases ev G c s2 <;> rfl
      | _ => rfl
    | _ => rfl
  rw [this, w_bind]
  refine kn_congr fun x s1 => ?_
  rw [w_bind]
  refine kn_congr fun y s2 => ?_
  rw [w_bind]
  exact kn_congr fun z s3 => w_ok _ _ q
def setK (i : Nat) (k : Int) (x : PV) (s : Ps) (o : Option (Option SV)) : R Fl := match o with
  | some (some (.own xs)) => (match L2.ixN xs.length k with
    | some j => .ok .next { s with loc := s.loc.set i (some (.own (xs.set j x))) }
    | none => .stuck)
  | some (some (.val (.ref a))) => (match s.sto[a]? with
    | some (.row xs) => (match L2.ixN xs.length k with
      | some j => .ok .next { s with sto := s.sto.set a (.row (xs.set j x)) }
      | none => .stuck)
    | _ => .stuck)
  | _ => .stuck
def setI (i : Nat) (y : PV) (x : PV) (s : Ps) : R Fl := match y with
  | .int k => setK i k x s s.loc[i]?
  | _ => .stuck
def fillK (o : Option (Option SV)) (r : R SV) : R SV := match o with
  | some (some _) => r
  | _ => .stuck
theorem w_fillK (x : SV) (r : R SV) (q : Kn SV) : @Wp _ (fillK (some (some x)) r) q = @Wp _ r q := (rfl)
theorem w_setI (i : Nat) (k : Int) (x : PV) (q : Kn Fl) : @Wp _ (setI i (.int k) x s) q = @Wp _ (setK i k x s s.loc[i]?) q := (rfl)
def setO (i : Nat) (xs : List PV) (x : PV) (s : Ps) (o : Option Nat) : R Fl := match o with
    | some j => .ok .next { s with loc := s.loc.set i (some (.own (xs.set j x))) }
    | none => .stuck
theorem w_setKo (i : Nat) (k : Int) (x : PV) (xs : List PV) (q : Kn Fl) : @Wp _ (setK i k x s (some (some (.own xs)))) q = @Wp _ (setO i xs x s (L2.ixN xs.length k)) q := (rfl)
theorem w_setO (i : Nat) (xs : List PV) (x : PV) (j : Nat) (q : Kn Fl) : @Wp _ (setO i xs x s (some j)) q = q.run .next { s with loc := s.loc.set i (some (.own (xs.set j x))) } := w_ok _ _ q
def setR (a : Nat) (k : Int) (x : PV) (s : Ps) (o : Option SO) : R Fl := match o with
    | some (.row xs) => (match L2.ixN xs.length k with
      | some j => .ok .next { s with sto := s.sto.set a (.row (xs.set j x)) }
      | none => .stuck)
    | _ => .stuck
def setR2 (a : Nat) (xs : List PV) (x : PV) (s : Ps) (o : Option Nat) : R Fl := match o with
      | some j => .ok .next { s with sto := s.sto.set a (.row (xs.set j x)) }
      | none => .stuck
theorem w_setKr (i : Nat) (k : Int) (x : PV) (a : Nat) (q : Kn Fl) : @Wp _ (setK i k x s (some (some (.val (.ref a))))) q = @Wp _ (setR a k x s s.sto[a]?) q := (rfl)
theorem w_setR (k : Int) (x : PV) (a : Nat) (xs : List PV) (q : Kn Fl) : @Wp _ (setR a k x s (some (.row xs))) q = @Wp _ (setR2 a xs x s (L2.ixN xs.length k)) q := (rfl)
theorem w_setR2 (x : PV) (a j : Nat) (xs : List PV) (q : Kn Fl) : @Wp _ (setR2 a xs x s (some j)) q = q.run .next { s with sto := s.sto.set a (.row (xs.set j x)) } := w_ok _ _ q
theorem w_set (i : Nat) (k e : E) (q : Kn Fl) : @Wp _ (dst G (.setIdx i k e) s) q = @Wp _ (fillK s.loc[i]? (ev G e s)) ⟨fun x s1 => @Wp _ (ev G k s1) ⟨fun y s2 => @Wp _ (setI i y.pv x.pv s2) q, q.exc⟩, q.exc⟩ := by
  have h1 : dst G (.setIdx i k e) s = if filled i s then (ev G e s).bind fun x s1 => (ev G k s1).bind fun y s2 => setP i y.pv x.pv s2 else .stuck := (rfl)
  have h2 : ∀ (y x : PV) (s2 : Ps), setP i y x s2 = setI i y x s2 := fun y x s2 => by
    unfold setP setI setK
    cases y with
    | int k =>
      cases s2.loc[i]? with
      | none => rfl
      | some o => cases o with
        | none => rfl
        | some z => cases z with
          | own xs => rfl
          | val d => cases d <;> rfl
    | _ => rfl
  rw [h1]
  unfold filled
  cases s.loc[i]? with
  | none => exact stuck2 _ _
  | some o => cases o with
    | none => exact stuck2 _ _
    | some z =>
      refine (w_bind (ev G e s) (fun x s1 => (ev G k s1).bind fun y s2 => setP i y.pv x.pv s2) q).trans ?_
      refine kn_congr fun x s1 => ?_
      rw [w_bind]
      exact kn_congr fun y s2 => by rw [h2]
def augK (i : Nat) (o : Option SV) (s1 : Ps) : R Fl := match o with
    | some z => .ok .next { s1 with loc := s1.loc.set i (some z) }
    | none => .stuck
theorem w_augK (i : Nat) (z : SV) (q : Kn Fl) : @Wp _ (augK i (some z) s) q = q.run .next { s with loc := s.loc.set i (some z) } := w_ok _ _ q
def augV (G : En) (i : Nat) (op : Operator) (e : E) (s : Ps) (o : Option (Option SV)) : R Fl := match o with
  | some (some (.val x)) => (ev G e s).bind fun y s1 => augK i (augP op x y.pv) s1
  | _ => .stuck
theorem w_augV (i : Nat) (op : Operator) (e : E) (x : PV) (q : Kn Fl) : @Wp _ (augV G i op e s (some (some (.val x)))) q = @Wp _ (ev G e s) ⟨fun y s1 => @Wp _ (augK i (augP op x y.pv) s1) q, q.exc⟩ := w_bind _ _ q
theorem w_aug (i : Nat) (op : Operator) (e : E) (q : Kn Fl) : @Wp _ (dst G (.aug i op e) s) q = @Wp _ (augV G i op e s s.loc[i]?) q := (rfl)
theorem w_if (c : E) (a b : List S) (q : Kn Fl) : @Wp _ (dst G (.if_ c a b) s) q = @Wp _ (et G c s) ⟨fun k s1 => @Wp _ (bif k then dsts G a s1 else dsts G b s1) q, q.exc⟩ := by
  show @Wp _ ((et G c s).bind _) q = _
  rw [w_bind]
  exact kn_congr fun x s1 => by cases x <;> rfl
def forK (t : T) (body : DS) (o : Option (List PV)) (s : Ps) : R Fl := match o with
  | some its => forLoop (forBody t body) its s
  | none => .stuck
theorem w_forK (t : T) (body : DS) (its : List PV) (q : Kn Fl) : @Wp _ (forK t body (some its) s) q = @Wp _ (forLoop (forBody t body) its s) q := (rfl)
theorem w_for (t : T) (k : IK) (src : List E) (body : List S) (q : Kn Fl) : @Wp _ (dst G (.for_ t k src body) s) q = @Wp _ (ebs G false src s) ⟨fun xs s1 => @Wp _ (ders s1 xs fun ds => forK t (dsts G body) (itemsP k ds) s1) q, q.exc⟩ := w_bind _ _ q
theorem w_while (n : Nat) (c : E) (body : List S) (q : Kn Fl) : @Wp _ (dst G (.while_ n c body) s) q = @Wp _ (whl (den G c) (dsts G body) n s) q := (rfl)
theorem w_pass (q : Kn Fl) : @Wp _ (dst G .pass s) q = q.run .next s := w_ok _ _ q
theorem w_setAt (i : Nat) (f : Str) (e : E) (q : Kn Fl) : @Wp _ (dst G (.setAttr i f e) s) q = @Wp _ (ev G e s) ⟨fun x s1 => @Wp _ (setAt G i f x.pv s1) q, q.exc⟩ := w_bind _ _ q
def seqK (G : En) (ss : List S) (fl : Fl) (s : Ps) : R Fl := match fl with
  | .next => dsts G ss s
  | fl => .ok fl s
theorem w_seqN (ss : List S) (q : Kn Fl) : @Wp _ (seqK G ss .next s) q = @Wp _ (dsts G ss s) q := (rfl)
theorem w_seqR (ss : List S) (v : SV) (q : Kn Fl) : @Wp _ (seqK G ss (.ret v) s) q = q.run (.ret v) s := w_ok _ _ q
theorem w_seqB (ss : List S) (q : Kn Fl) : @Wp _ (seqK G ss .brk s) q = q.run .brk s := w_ok _ _ q
theorem w_seqC (ss : List S) (q : Kn Fl) : @Wp _ (seqK G ss .cont s) q = q.run .cont s := w_ok _ _ q
theorem w_nil (q : Kn Fl) : @Wp _ (dsts G [] s) q = q.run .next s := w_ok _ _ q
theorem w_cons (x : S) (xs : List S) (q : Kn Fl) : @Wp _ (dsts G (x :: xs) s) q = @Wp _ (dst G x s) ⟨fun fl s1 => @Wp _ (seqK G xs fl s1) q, q.exc⟩ := by
  have : dsts G (x :: xs) s = (dst G x s).bind fun fl s1 => seqK G xs fl s1 := by
    show sSeq (dst G x) (dsts G xs) s = _
    unfold sSeq
    cases dst G x s with
    | ok fl s1 => cases fl <;> rfl
    | _ => rfl
  rw [this, w_bind]
/-! ### defs -/
@[reducible] def retQ (q : Kc) : Kn Fl where
  run := fun fl s => match fl with
    | .next => q.run (.val .non) s.sto
    | .ret v => q.run v s.sto
    | _ => False
  exc := fun c fs s => q.exc c fs s.sto
theorem retQ_next (q : Kc) (s : Ps) : (retQ q).run .next s = q.run (.val .non) s.sto := (rfl)
theorem retQ_ret (q : Kc) (v : SV) (s : Ps) : (retQ q).run (.ret v) s = q.run v s.sto := (rfl)
theorem retQ_exc (q : Kc) (c : Str) (fs : List PV) (s : Ps) : (retQ q).exc c fs s = q.exc c fs s.sto := (rfl)
theorem w_fn {P : Pg} {n : Nat} {f : Str} {fn : Fn} {ds : List PV} {st : Sto} {q : Kc} (h : P.fs f = some fn) (hl : ds.length = fn.ps)
    (k : @Wp _ (dsts ⟨callP P n, P.gl, P.ca⟩ fn.body ⟨ds.map (fun d => some (.val d)) ++ List.replicate (fn.n - fn.ps) none, st⟩) (retQ q)) : @WpC (callP P (n + 1) f ds st) q := by
  show @WpC (match P.fs f with
    | some fn => runFn ⟨callP P n, P.gl, P.ca⟩ fn ds st
    | none => .stuck) q
  rw [h]
  show @WpC (runFn ⟨callP P n, P.gl, P.ca⟩ fn ds st) q
  unfold runFn
  rw [if_pos hl]
  cases k with
  | ok fl s e k =>
    rw [e]
    cases fl with
    | next => exact .ok _ _ rfl k
    | ret v => exact .ok _ _ rfl k
    | brk => exact k.elim
    | cont => exact k.elim
  | exc c fs s e k =>
    rw [e]
    exact .exc _ _ _ rfl k
abbrev eqC (v : SV) (st : Sto) : Kc := ⟨fun x s => x = v ∧ s = st, noX⟩
abbrev eqX (c : Str) (fs : List PV) (st : Sto) : Kc := ⟨fun _ _ => False, fun c' fs' s => c' = c ∧ fs' = fs ∧ s = st⟩
theorem WpC.eq {r : C} {x : SV} {y : Sto} (h : @WpC r (eqC x y)) : r = .ok x y := by
  cases h with
  | ok a s e h => obtain ⟨rfl, rfl⟩ := h; exact e
  | exc c fs s e h => exact h.elim
theorem WpC.eqx {r : C} {c : Str} {fs : List PV} {y : Sto} (h : @WpC r (eqX c fs y)) : r = .exc c fs y := by
  cases h with
  | ok a s e h => exact h.elim
  | exc c fs s e h => obtain ⟨rfl, rfl, rfl⟩ := h; exact e
/-- where a def stands in the row of defs -/
def isAt (defs : List DefC) (f : Str) (i : Nat) : Bool := match defs, i with
  | d :: _, 0 => decide (d.nm = f)
  | d :: ds, i + 1 => !decide (d.nm = f) && isAt ds f i
  | [], _ => false
theorem fs_at {f : Str} : ∀ {defs : List DefC} {i : Nat} {d : DefC}, isAt defs f i = true → defs[i]? = some d → fsOf defs f = some d.fn
  | e :: ds, 0, d, h, g => by
    have h : decide (e.nm = f) = true := h
    have g : some e = some d := by simpa using g
    cases g
    unfold fsOf
    rw [List.find?_cons_of_pos (by exact h)]
    rfl
  | e :: ds, i + 1, d, h, g => by
    have h : (!decide (e.nm = f) && isAt ds f i) = true := h
    rw [Bool.and_eq_true] at h
    have ih := fs_at (defs := ds) h.2 (by simpa using g)
    unfold fsOf at ih ⊢
    rw [List.find?_cons_of_neg (by simpa using h.1)]
    exact ih
end PI

set_option linter.all false
set_option autoImplicit false
set_option maxRecDepth 100000
set_option maxHeartbeats 4000000
namespace PI
open PySem
/-! ### loops -/
def vals : List (Nat × SV) → Loc → Loc
  | [], l => l
  | p :: r, l => vals r (l.set p.1 (some p.2))
def frees : List Nat → (Nat → Option SV) → Loc → Loc
  | [], _, l => l
  | i :: r, x, l => frees r x (l.set i (x i))
/-- the same but at the slots fr -/
def agr (fr : List Nat) : Nat → Loc → Loc → Prop
  | _, [], [] => True
  | n, a :: l, b :: l' => (n ∈ fr ∨ a = b) ∧ agr fr (n + 1) l l'
  | _, _, _ => False
theorem vals_nil (l : Loc) : vals [] l = l := (rfl)
theorem vals_cons (i : Nat) (x : SV) (r : List (Nat × SV)) (l : Loc) : vals ((i, x) :: r) l = vals r (l.set i (some x)) := (rfl)
theorem frees_nil (x : Nat → Option SV) (l : Loc) : frees [] x l = l := (rfl)
theorem frees_cons (i : Nat) (r : List Nat) (x : Nat → Option SV) (l : Loc) : frees (i :: r) x l = frees r x (l.set i (x i)) := (rfl)
theorem agr_nil (fr : List Nat) (n : Nat) : agr fr n [] [] = True := (rfl)
theorem agr_cons (fr : List Nat) (n : Nat) (a b : Option SV) (l l' : Loc) : agr fr n (a :: l) (b :: l') = ((n ∈ fr ∨ a = b) ∧ agr fr (n + 1) l l') := (rfl)
theorem frees_len : ∀ (fr : List Nat) (x : Nat → Option SV) (l : Loc), (frees fr x l).length = l.length
  | [], _, _ => rfl
  | i :: r, x, l => by rw [frees_cons, frees_len r x, List.length_set]
theorem frees_in : ∀ (fr : List Nat) (x : Nat → Option SV) (l : Loc) (i : Nat), i < l.length → (frees fr x l)[i]? = if i ∈ fr then some (x i) else l[i]?
  | [], x, l, i, h => by simp [frees_nil]
  | j :: r, x, l, i, h => by
    rw [frees_cons, frees_in r x (l.set j (x j)) i (by simpa using h)]
    by_cases h1 : i ∈ r
    · simp [h1]
    · by_cases h2 : j = i
      · subst h2; simp [h1, h]
      · have h3 : ¬ i = j := fun z => h2 z.symm
        simp [h1, h2, h3]
theorem agr_len {fr : List Nat} : ∀ {n : Nat} {l l' : Loc}, agr fr n l l' → l'.length = l.length
  | _, [], [], _ => rfl
  | n, a :: l, b :: l', h => by rw [List.length_cons, List.length_cons, agr_len h.2]
  | _, [], _ :: _, h => h.elim
  | _, _ :: _, [], h => h.elim
theorem agr_get {fr : List Nat} : ∀ {n : Nat} {l l' : Loc} (i : Nat), agr fr n l l' → n + i ∈ fr ∨ l'[i]? = l[i]?
  | _, [], [], _, _ => .inr rfl
  | n, a :: l, b :: l', 0, h => by
    rcases h.1 with h | h
    · exact .inl h
    · exact .inr (by simp [h])
  | n, a :: l, b :: l', i + 1, h => by
    rcases agr_get i h.2 with q | q
    · exact .inl (by rw [show n + (i + 1) = n + 1 + i by omega]; exact q)
    · exact .inr (by simpa using q)
  | _, [], _ :: _, _, h => h.elim
  | _, _ :: _, [], _, h => h.elim
theorem agr_frees {fr : List Nat} {l l' : Loc} (h : agr fr 0 l l') : ∃ x, l' = frees fr x l := by
  refine ⟨fun i => (l'[i]?).getD none, ?_⟩
  apply List.ext_getElem?
  intro i
  by_cases hi : i < l.length
  · rw [frees_in fr _ l i hi]
    have hi' : i < l'.length := by rw [agr_len h]; exact hi
    rcases agr_get i h with q | q
    · rw [Nat.zero_add] at q
      rw [if_pos q]
      simp [hi']
    · by_cases hm : i ∈ fr
      · rw [if_pos hm]; simp [hi']
      · rw [if_neg hm]; exact q
  · rw [List.getElem?_eq_none (by rw [agr_len h]; omega), List.getElem?_eq_none (by rw [frees_len]; omega)]
def eachQ (q : Kn Fl) (I : Ps → Prop) (fl : Fl) (s : Ps) : Prop := match fl with
  | .next => I s
  | .cont => I s
  | .brk => q.run .next s
  | .ret v => q.run (.ret v) s
theorem eachQ_next (q : Kn Fl) (I : Ps → Prop) (s : Ps) : eachQ q I .next s = I s := (rfl)
theorem eachQ_cont (q : Kn Fl) (I : Ps → Prop) (s : Ps) : eachQ q I .cont s = I s := (rfl)
theorem eachQ_brk (q : Kn Fl) (I : Ps → Prop) (s : Ps) : eachQ q I .brk s = q.run .next s := (rfl)
theorem eachQ_ret (q : Kn Fl) (I : Ps → Prop) (v : SV) (s : Ps) : eachQ q I (.ret v) s = q.run (.ret v) s := (rfl)
theorem w_loop {body : PV → DS} {x : PV} {xs : List PV} {s : Ps} {q : Kn Fl} (h : @Wp _ (body x s) ⟨eachQ q fun s => @Wp _ (forLoop body xs s) q, q.exc⟩) : @Wp _ (forLoop body (x :: xs) s) q := by
  show @Wp _ (match body x s with
    | .ok .next s1 => forLoop body xs s1
    | .ok .cont s1 => forLoop body xs s1
    | .ok .brk s1 => .ok .next s1
    | .ok (.ret v) s1 => .ok (.ret v) s1
    | .exc c fs s1 => .exc c fs s1
    | .stuck => .stuck) q
  cases h with
  | ok fl s1 e h =>
    rw [e]
    cases fl with
    | next => exact h
    | cont => exact h
    | brk => exact .ok _ _ rfl h
    | ret v => exact .ok _ _ rfl h
  | exc c fs s1 e h =>
    rw [e]
    exact .exc _ _ _ rfl h
/-- a loop by its invariant -/
theorem w_each {α β : Type} {L : List α} {enc : α → PV} {t : T} {body : DS} {l0 : Loc} {st0 : Sto} {q : Kn Fl} (J : List α → β → Prop) (v : β → List (Nat × SV)) (o : β → Sto) (fr : List Nat) (b0 : β) (hJ : J [] b0) (h0 : agr fr 0 (vals (v b0) l0) l0) (e0 : st0 = o b0)
    (hs : ∀ pre a post b x, L = pre ++ a :: post → J pre b → @Wp _ (forBody t body (enc a) ⟨frees fr x (vals (v b) l0), o b⟩) ⟨eachQ q fun s' => ∃ b', J (pre ++ [a]) b' ∧ agr fr 0 (vals (v b') l0) s'.loc ∧ s'.sto = o b', q.exc⟩)
    (hq : ∀ b x, J L b → q.run .next ⟨frees fr x (vals (v b) l0), o b⟩) : @Wp _ (forLoop (forBody t body) (L.map enc) ⟨l0, st0⟩) q := by
  have key : ∀ (post pre : List α) (s : Ps) (b : β), L = pre ++ post → J pre b → agr fr 0 (vals (v b) l0) s.loc → s.sto = o b → @Wp _ (forLoop (forBody t body) (post.map enc) s) q := by
    intro post
    induction post with
    | nil =>
      intro pre s b hL hj ha ho
      rw [List.append_nil] at hL
      subst hL
      obtain ⟨x, hx⟩ := agr_frees ha
      obtain ⟨l, st⟩ := s
      have hx : l = _ := hx
      have ho : st = o b := ho
      subst hx ho
      exact .ok _ _ rfl (hq b x hj)
    | cons a post ih =>
      intro pre s b hL hj ha ho
      obtain ⟨x, hx⟩ := agr_frees ha
      obtain ⟨l, st⟩ := s
      have hx : l = _ := hx
      have ho : st = o b := ho
      subst hx ho
      refine w_loop ((hs pre a post b x hL hj).imp (fun fl s1 z => ?_) fun _ _ _ z => z)
      have go : (∃ b', J (pre ++ [a]) b' ∧ agr fr 0 (vals (v b') l0) s1.loc ∧ s1.sto = o b') → @Wp _ (forLoop (forBody t body) (post.map enc) s1) q := fun ⟨b', j1, j2, j3⟩ =>
        ih (pre ++ [a]) s1 b' (by rw [hL]; simp) j1 j2 j3
      cases fl with
      | next => exact go z
      | cont => exact go z
      | brk => exact z
      | ret r => exact z
  exact key L [] ⟨l0, st0⟩ b0 rfl hJ h0 e0
/-- .. what it computes hangs on what is behind alone -/
theorem w_eachD {α : Type} {L : List α} {enc : α → PV} {t : T} {body : DS} {l0 : Loc} {st0 : Sto} {q : Kn Fl} (v : List α → List (Nat × SV)) (fr : List Nat) (h0 : agr fr 0 (vals (v []) l0) l0)
    (hs : ∀ pre a post x, L = pre ++ a :: post → @Wp _ (forBody t body (enc a) ⟨frees fr x (vals (v pre) l0), st0⟩) ⟨eachQ q fun s' => agr fr 0 (vals (v (pre ++ [a])) l0) s'.loc ∧ s'.sto = st0, q.exc⟩)
    (hq : ∀ x, q.run .next ⟨frees fr x (vals (v L) l0), st0⟩) : @Wp _ (forLoop (forBody t body) (L.map enc) ⟨l0, st0⟩) q :=
  w_each (J := fun pre b => b = pre) v (fun _ => st0) fr [] rfl h0 rfl (fun pre a post b x e hb => by
    subst hb
    refine (hs b a post x e).imp (fun fl s z => ?_) fun _ _ _ z => z
    cases fl with
    | next => exact ⟨_, rfl, z⟩
    | cont => exact ⟨_, rfl, z⟩
    | brk => exact z
    | ret r => exact z) fun b x hb => by subst hb; exact hq x
def fbK (body : DS) (o : Option Loc) (s : Ps) : R Fl := match o with
  | some l => body { s with loc := l }
  | none => .stuck
theorem w_fb (t : T) (body : DS) (x : PV) (s : Ps) (q : Kn Fl) : @Wp _ (forBody t body x s) q = @Wp _ (fbK body (asgT t x s.loc) s) q := (rfl)
theorem w_fbK (body : DS) (l : Loc) (s : Ps) (q : Kn Fl) : @Wp _ (fbK body (some l) s) q = @Wp _ (body { s with loc := l }) q := (rfl)
theorem asgT_var (i : Nat) (d : PV) (l : Loc) : asgT (.var i) d l = some (l.set i (some (.val d))) := (rfl)
theorem asgT_tup (ts : List T) (ds : List PV) (l : Loc) : asgT (.tup ts) (.tup ds) l = asgTs ts ds l := (rfl)
theorem asgTs_nil (l : Loc) : asgTs [] [] l = some l := (rfl)
theorem asgTs_cons (t : T) (ts : List T) (d : PV) (ds : List PV) (l : Loc) : asgTs (t :: ts) (d :: ds) l = (asgT t d l).bind fun l' => asgTs ts ds l' := by
  show (match asgT t d l with
    | some l' => asgTs ts ds l'
    | none => none) = _
  cases asgT t d l <;> rfl
/-! ### comprehensions -/
theorem back_wipe (l : Loc) : ∀ own : List Nat, ∀ own2 : List Nat, (∀ i ∈ own, i ∈ own2) → ∀ l2 : Loc, l2.length = l.length → (∀ i, i ∉ own → l2[i]? = l[i]?) → backL l l2 own = l
  | [], own2, _, l2, _, h => by
    apply List.ext_getElem?
    intro i
    exact h i (by simp)
  | v :: vs, own2, hs, l2, hl, h => by
    apply List.ext_getElem?
    intro i
    have e : ∀ (vs : List Nat) (i : Nat), i ∉ vs → (backL l l2 vs)[i]? = l2[i]? := fun vs i hi => backL_out hi
    unfold backL
    by_cases hv : v = i
    · subst hv
      by_cases hlt : v < (backL l l2 vs).length
      · rw [List.getElem?_set_self hlt]
        rw [backL_len, hl] at hlt
        simp [hlt]
      · rw [List.getElem?_eq_none (by simpa using hlt)]
        rw [backL_len, hl] at hlt
        rw [List.getElem?_eq_none (by omega)]
    · rw [List.getElem?_set_ne hv]
      by_cases hi : i ∈ vs
      · by_cases hlt : i < l.length
        · have h1 : i < (backL l l2 vs).length := by rw [backL_len, hl]; exact hlt
          have := backL_in (l0 := l) (l := l2) (i := i) (o := (backL l l2 vs)[i]) hi (by simp [h1])
          rw [List.getElem?_eq_getElem h1, this]
          simp [hlt]
        · rw [List.getElem?_eq_none (by rw [backL_len, hl]; omega), List.getElem?_eq_none (by omega)]
      · rw [e vs i hi]
        exact h i (by simp [hi, Ne.symm hv])
theorem back_wipe' (l : Loc) (own : List Nat) : backL l (wipeL l own) own = l := back_wipe l own own (fun _ h => h) _ (wipeL_len l own) fun i hi => wipeL_out hi
/-- a comprehension by its invariant -/
theorem w_compI {α β : Type} {L : List α} {enc : α → PV} {own : List Nat} {elt : Den} {tg : T} {ifs : List Den} {l0 : Loc} {st0 : Sto} {q : Kn SV} (J : List α → β → Prop) (o : β → Sto) (acc : β → List PV) (b0 : β) (hl : L.length ≤ 16777216) (hJ : J [] b0) (ha : acc b0 = []) (e0 : st0 = o b0)
    (hs : ∀ pre a post b, L = pre ++ a :: post → J pre b → @Wp _ (compBody own elt tg ifs (enc a) ⟨wipeL l0 own, o b⟩) ⟨fun r s' => ∃ b', J (pre ++ [a]) b' ∧ s' = ⟨wipeL l0 own, o b'⟩ ∧ acc b' = acc b ++ r.toList, noX⟩)
    (hq : ∀ b, J L b → q.run (.own (acc b)) ⟨l0, o b⟩) : @Wp _ (compR own elt tg ifs (L.map enc) ⟨l0, st0⟩) q := by
  have key : ∀ (post pre : List α) (b : β), L = pre ++ post → J pre b → (acc b).length ≤ pre.length → ∃ b', J L b' ∧ compLoop (compBody own elt tg ifs) (post.map enc) (acc b) ⟨wipeL l0 own, o b⟩ = .ok (acc b') ⟨wipeL l0 own, o b'⟩ := by
    intro post
    induction post with
    | nil =>
      intro pre b hL hj hlen
      rw [List.append_nil] at hL
      subst hL
      exact ⟨b, hj, rfl⟩
    | cons a post ih =>
      intro pre b hL hj hlen
      have hlt : pre.length < L.length := by rw [hL]; simp
      cases hs pre a post b hL hj with
      | exc c fs s e h => exact h.elim
      | ok r s e h =>
        obtain ⟨b1, j1, rfl, j3⟩ := h
        have hl1 : (acc b1).length ≤ (pre ++ [a]).length := by
          rw [j3]
          cases r with
          | none => simp; omega
          | some y => simp; omega
        obtain ⟨b2, k1, k2⟩ := ih (pre ++ [a]) b1 (by rw [hL]; simp) j1 hl1
        refine ⟨b2, k1, ?_⟩
        show (compBody own elt tg ifs (enc a) ⟨wipeL l0 own, o b⟩).bind _ = _
        rw [e]
        cases r with
        | none =>
          simp only [Option.toList, List.append_nil] at j3
          rw [j3] at k2
          exact k2
        | some y =>
          show (if (acc b).length < lim then compLoop (compBody own elt tg ifs) (post.map enc) (acc b ++ [y]) ⟨wipeL l0 own, o b1⟩ else .stuck) = _
          rw [if_pos (by show (acc b).length < 16777216; omega)]
          simp only [Option.toList] at j3
          rw [j3] at k2
          exact k2
  obtain ⟨b, j, e⟩ := key L [] b0 rfl hJ (by rw [ha]; simp)
  rw [ha] at e
  subst e0
  have : compR own elt tg ifs (L.map enc) ⟨l0, o b0⟩ = .ok (.own (acc b)) ⟨l0, o b⟩ := by
    unfold compR
    show (match compLoop (compBody own elt tg ifs) (L.map enc) [] ⟨wipeL l0 own, o b0⟩ with
      | .ok acc s5 => R.ok (SV.own acc) { s5 with loc := backL l0 s5.loc own }
      | _ => .stuck) = _
    rw [e]
    show R.ok (SV.own (acc b)) ⟨backL l0 (wipeL l0 own) own, o b⟩ = _
    rw [back_wipe']
  rw [this, w_ok]
  exact hq b j
theorem w_compF {α : Type} {L : List α} {enc : α → PV} {own : List Nat} {elt : Den} {tg : T} {ifs : List Den} {l0 : Loc} {st0 : Sto} {q : Kn SV} {g : α → Option PV}
    (h : ∀ a ∈ L, @Wp _ (compBody own elt tg ifs (enc a) ⟨wipeL l0 own, st0⟩) ⟨fun r s' => r = g a ∧ s' = ⟨wipeL l0 own, st0⟩, noX⟩) (hl : L.length ≤ 16777216) (k : q.run (.own (L.filterMap g)) ⟨l0, st0⟩) : @Wp _ (compR own elt tg ifs (L.map enc) ⟨l0, st0⟩) q :=
  w_compI (J := fun pre b => b = pre) (fun _ => st0) (fun pre => pre.filterMap g) [] hl rfl rfl rfl (fun pre a post b e hb => by
    subst hb
    refine (h a (by rw [e]; simp)).imp (fun r s z => ?_) fun _ _ _ z => z
    obtain ⟨rfl, rfl⟩ := z
    refine ⟨_, rfl, rfl, ?_⟩
    rw [List.filterMap_append]
    cases hg : g a <;> simp [hg]) fun b hb => by subst hb; exact k
theorem w_compM {α : Type} {L : List α} {enc : α → PV} {own : List Nat} {elt : Den} {tg : T} {ifs : List Den} {l0 : Loc} {st0 : Sto} {q : Kn SV} {g : α → PV}
    (h : ∀ a ∈ L, @Wp _ (compBody own elt tg ifs (enc a) ⟨wipeL l0 own, st0⟩) ⟨fun r s' => r = some (g a) ∧ s' = ⟨wipeL l0 own, st0⟩, noX⟩) (hl : L.length ≤ 16777216) (k : q.run (.own (L.map g)) ⟨l0, st0⟩) : @Wp _ (compR own elt tg ifs (L.map enc) ⟨l0, st0⟩) q :=
  w_compF (g := fun a => some (g a)) h hl (by rw [List.filterMap_eq_map']; exact k)
/-- two walks, one within the other, whose items leave the state -/
theorem comp_pure {α : Type} {L : List α} {enc : α → PV} {own : List Nat} {elt : Den} {tg : T} {ifs : List Den} {s0 : Ps} {g : α → Option PV}
    (h : ∀ a ∈ L, @Wp _ (compBody own elt tg ifs (enc a) s0) ⟨fun r s' => r = g a ∧ s' = s0, noX⟩) : ∀ acc : List PV, acc.length + L.length ≤ 16777216 → compLoop (compBody own elt tg ifs) (L.map enc) acc s0 = .ok (acc ++ L.filterMap g) s0 := by
  induction L with
  | nil => intro acc _; rw [List.filterMap_nil, List.append_nil]; rfl
  | cons a L ih =>
    intro acc hl
    rw [List.length_cons] at hl
    have ih := ih fun b hb => h b (by simp [hb])
    cases h a (by simp) with
    | exc c fs s e z => exact z.elim
    | ok r s e z =>
      obtain ⟨rfl, rfl⟩ := z
      show (compBody own elt tg ifs (enc a) s).bind _ = _
      rw [e]
      cases hg : g a with
      | none =>
        show compLoop (compBody own elt tg ifs) (L.map enc) acc s = _
        rw [ih acc (by omega), List.filterMap_cons, hg]
      | some y =>
        show (if acc.length < lim then compLoop (compBody own elt tg ifs) (L.map enc) (acc ++ [y]) s else .stuck) = _
        rw [if_pos (by show acc.length < 16777216; omega), ih (acc ++ [y]) (by rw [List.length_append, List.length_singleton]; omega), List.filterMap_cons, hg]
        simp
theorem w_comp2F {α β : Type} {L : List α} {enc : α → PV} {L1 : α → List β} {enc1 : β → PV} {own own1 : List Nat} {elt : Den} {tg tg1 : T} {src1 : Ps → R (List PV)} {ifs : List Den} {l0 : Loc} {st0 : Sto} {q : Kn SV} {g : α → β → Option PV} (la : α → Loc)
    (hT : ∀ a ∈ L, asgT tg (enc a) (wipeL l0 own) = some (la a)) (hS : ∀ a ∈ L, @Wp _ (src1 ⟨la a, st0⟩) ⟨fun its s' => its = (L1 a).map enc1 ∧ s' = ⟨la a, st0⟩, noX⟩) (hW : ∀ a ∈ L, wipeL (wipeL (la a) own1) own = wipeL l0 own)
    (hB : ∀ a ∈ L, ∀ b ∈ L1 a, @Wp _ (compBody own1 elt tg1 ifs (enc1 b) ⟨wipeL (la a) own1, st0⟩) ⟨fun r s' => r = g a b ∧ s' = ⟨wipeL (la a) own1, st0⟩, noX⟩) (hl : (L.flatMap L1).length ≤ 16777216)
    (k : q.run (.own (L.flatMap fun a => (L1 a).filterMap (g a))) ⟨l0, st0⟩) : @Wp _ (comp2R own own1 elt tg src1 tg1 ifs (L.map enc) ⟨l0, st0⟩) q := by
  have key : ∀ (L : List α), (∀ a ∈ L, asgT tg (enc a) (wipeL l0 own) = some (la a)) → (∀ a ∈ L, @Wp _ (src1 ⟨la a, st0⟩) ⟨fun its s' => its = (L1 a).map enc1 ∧ s' = ⟨la a, st0⟩, noX⟩) → (∀ a ∈ L, wipeL (wipeL (la a) own1) own = wipeL l0 own) →
      (∀ a ∈ L, ∀ b ∈ L1 a, @Wp _ (compBody own1 elt tg1 ifs (enc1 b) ⟨wipeL (la a) own1, st0⟩) ⟨fun r s' => r = g a b ∧ s' = ⟨wipeL (la a) own1, st0⟩, noX⟩) → ∀ acc : List PV, acc.length + (L.flatMap L1).length ≤ 16777216 →
      comp2Loop own own1 elt tg src1 tg1 ifs (L.map enc) acc ⟨wipeL l0 own, st0⟩ = .ok (acc ++ L.flatMap fun a => (L1 a).filterMap (g a)) ⟨wipeL l0 own, st0⟩ := by
    intro L
    induction L with
    | nil => intro _ _ _ _ acc _; rw [List.flatMap_nil, List.append_nil]; rfl
    | cons a L ih =>
      intro hT hS hW hB acc hl
      have ih := ih (fun b hb => hT b (by simp [hb])) (fun b hb => hS b (by simp [hb])) (fun b hb => hW b (by simp [hb])) fun b hb => hB b (by simp [hb])
      rw [List.flatMap_cons, List.length_append] at hl
      have fl := List.length_filterMap_le (g a) (L1 a)
      rw [List.map_cons]
      unfold comp2Loop
      rw [show asgT tg (enc a) (⟨wipeL l0 own, st0⟩ : Ps).loc = some (la a) from hT a (by simp)]
      cases hS a (by simp) with
      | exc c fs s e z => exact z.elim
      | ok its s e z =>
        obtain ⟨rfl, rfl⟩ := z
        show (src1 ⟨la a, st0⟩).bind _ = _
        rw [e]
        show (compLoop (compBody own1 elt tg1 ifs) ((L1 a).map enc1) acc ⟨wipeL (la a) own1, st0⟩).bind _ = _
        rw [comp_pure (hB a (by simp)) acc (by omega)]
        show comp2Loop own own1 elt tg src1 tg1 ifs (L.map enc) _ ⟨wipeL (wipeL (la a) own1) own, st0⟩ = _
        rw [hW a (by simp), ih _ (by rw [List.length_append]; omega), List.flatMap_cons, List.append_assoc]
  have e : comp2R own own1 elt tg src1 tg1 ifs (L.map enc) ⟨l0, st0⟩ = .ok (.own (L.flatMap fun a => (L1 a).filterMap (g a))) ⟨l0, st0⟩ := by
    unfold comp2R
    show (match comp2Loop own own1 elt tg src1 tg1 ifs (L.map enc) [] ⟨wipeL l0 own, st0⟩ with
      | .ok acc s5 => R.ok (SV.own acc) { s5 with loc := backL l0 s5.loc own }
      | _ => .stuck) = _
    rw [key L hT hS hW hB [] (by simpa using hl)]
    show R.ok (SV.own _) (⟨backL l0 (wipeL l0 own) own, st0⟩ : Ps) = _
    rw [back_wipe', List.nil_append]
  rw [e, w_ok]
  exact k
theorem w_comp2M {α β : Type} {L : List α} {enc : α → PV} {L1 : α → List β} {enc1 : β → PV} {own own1 : List Nat} {elt : Den} {tg tg1 : T} {src1 : Ps → R (List PV)} {ifs : List Den} {l0 : Loc} {st0 : Sto} {q : Kn SV} {g : α → β → PV} (la : α → Loc)
    (hT : ∀ a ∈ L, asgT tg (enc a) (wipeL l0 own) = some (la a)) (hS : ∀ a ∈ L, @Wp _ (src1 ⟨la a, st0⟩) ⟨fun its s' => its = (L1 a).map enc1 ∧ s' = ⟨la a, st0⟩, noX⟩) (hW : ∀ a ∈ L, wipeL (wipeL (la a) own1) own = wipeL l0 own)
    (hB : ∀ a ∈ L, ∀ b ∈ L1 a, @Wp _ (compBody own1 elt tg1 ifs (enc1 b) ⟨wipeL (la a) own1, st0⟩) ⟨fun r s' => r = some (g a b) ∧ s' = ⟨wipeL (la a) own1, st0⟩, noX⟩) (hl : (L.flatMap L1).length ≤ 16777216)
    (k : q.run (.own (L.flatMap fun a => (L1 a).map (g a))) ⟨l0, st0⟩) : @Wp _ (comp2R own own1 elt tg src1 tg1 ifs (L.map enc) ⟨l0, st0⟩) q :=
  w_comp2F (g := fun a b => some (g a b)) la hT hS hW hB hl (by
    have : (L.flatMap fun a => (L1 a).filterMap fun b => some (g a b)) = L.flatMap fun a => (L1 a).map (g a) := by
      congr; funext a; exact congrFun List.filterMap_eq_map' (L1 a)
    rw [this]; exact k)
section
variable (G : En) (s : Ps)
def cbE (G : En) (own : List Nat) (elt : E) (s : Ps) : R (Option PV) := (ev G elt s).bind fun y s4 => .ok (some y.pv) { s4 with loc := wipeL s4.loc own }
def cbK0 (G : En) (own : List Nat) (elt : E) (o : Option Loc) (s : Ps) : R (Option PV) := match o with
  | some l => cbE G own elt { s with loc := l }
  | none => .stuck
def cbK1 (G : En) (own : List Nat) (elt c : E) (o : Option Loc) (s : Ps) : R (Option PV) := match o with
  | some l => (et G c { s with loc := l }).bind fun b s3 => bif b then cbE G own elt s3 else .ok none { s3 with loc := wipeL s3.loc own }
  | none => .stuck
theorem w_cbE (own : List Nat) (elt : E) (q : Kn (Option PV)) : @Wp _ (cbE G own elt s) q = @Wp _ (ev G elt s) ⟨fun y s4 => q.run (some y.pv) { s4 with loc := wipeL s4.loc own }, q.exc⟩ := by
  unfold cbE
  rw [w_bind]
  exact kn_congr fun y s4 => w_ok _ _ q
theorem w_cbK0 (own : List Nat) (elt : E) (l : Loc) (q : Kn (Option PV)) : @Wp _ (cbK0 G own elt (some l) s) q = @Wp _ (cbE G own elt { s with loc := l }) q := (rfl)
theorem w_cbK1 (own : List Nat) (elt c : E) (l : Loc) (q : Kn (Option PV)) : @Wp _ (cbK1 G own elt c (some l) s) q = @Wp _ (et G c { s with loc := l }) ⟨fun b s3 => @Wp _ (bif b then cbE G own elt s3 else .ok none { s3 with loc := wipeL s3.loc own }) q, q.exc⟩ := w_bind _ _ q
theorem w_cb0 (own : List Nat) (elt : E) (tg : T) (x : PV) (q : Kn (Option PV)) : @Wp _ (compBody own (den G elt) tg (dens G []) x s) q = @Wp _ (cbK0 G own elt (asgT tg x s.loc) s) q := by
  have : compBody own (den G elt) tg (dens G []) x s = cbK0 G own elt (asgT tg x s.loc) s := by
    unfold compBody cbK0
    cases asgT tg x s.loc <;> rfl
  rw [this]
theorem w_cb1 (own : List Nat) (elt c : E) (tg : T) (x : PV) (q : Kn (Option PV)) : @Wp _ (compBody own (den G elt) tg (dens G [c]) x s) q = @Wp _ (cbK1 G own elt c (asgT tg x s.loc) s) q := by
  have : compBody own (den G elt) tg (dens G [c]) x s = cbK1 G own elt c (asgT tg x s.loc) s := by
    unfold compBody cbK1
    cases asgT tg x s.loc with
    | none => rfl
    | some l =>
      show ((den G c).t { s with loc := l }).bind _ = ((den G c).t { s with loc := l }).bind _
      cases (den G c).t { s with loc := l } with
      | ok b s3 => cases b <;> rfl
      | _ => rfl
  rw [this]
end
/-- kept or left out -/
theorem w_filt {r : R (Option PV)} {s s0 : Ps} {b : Bool} {y : PV} (h : b = true → @Wp _ r ⟨fun z s => z = some y ∧ s = s0, noX⟩) (hs : s = s0) : @Wp _ (bif b then r else .ok none s) ⟨fun z s => z = (bif b then some y else none) ∧ s = s0, noX⟩ := by
  cases b with
  | true => exact h rfl
  | false => exact Wp.ok (q := ⟨fun z s => z = (bif false then some y else none) ∧ s = s0, noX⟩) _ _ rfl ⟨rfl, hs⟩
theorem filterMap_bif {α β : Type} (p : α → Bool) (f : α → β) : ∀ L : List α, (L.filterMap fun a => bif p a then some (f a) else none) = (L.filter p).map f
  | [] => rfl
  | a :: L => by
    rw [List.filterMap_cons, filterMap_bif p f L, List.filter_cons]
    cases p a <;> rfl
/-! ### values -/
theorem log2_small {b : Int} (h : 0 < b) (h' : b < 18446744073709551616) : b.natAbs.log2 < 9000 := by
  have : b.natAbs.log2 < 64 := (Nat.log2_lt (by omega)).mpr (by omega)
  omega
theorem negP_int (i : Int) : negP (.int i) = some (.val (.int (-i))) := (rfl)
theorem bin_add (a b : Int) : binP .Add (.int a) (.int b) = some (.val (.int (a + b))) := (rfl)
theorem bin_sub (a b : Int) : binP .Sub (.int a) (.int b) = some (.val (.int (a - b))) := (rfl)
theorem bin_mul (a b : Int) (h : (-18446744073709551616 < a ∧ a < 18446744073709551616) ∨ (-18446744073709551616 < b ∧ b < 18446744073709551616)) : binP .Mult (.int a) (.int b) = some (.val (.int (a * b))) := if_pos h
theorem bin_fdiv (a b : Int) (h : 0 < b ∧ b < 18446744073709551616) : binP .FloorDiv (.int a) (.int b) = some (.val (.int (a / b))) := if_pos ⟨h.1, log2_small h.1 h.2⟩
theorem bin_mod (a b : Int) (h : 0 < b) : binP .Mod (.int a) (.int b) = some (.val (.int (a % b))) := if_pos h
theorem bin_pow (a b : Int) (h : 0 ≤ b ∧ b ≤ 1000000 ∧ a.natAbs < 18446744073709551616) : binP .Pow (.int a) (.int b) = some (.val (.int (a ^ b.toNat))) := if_pos h
theorem bin_cat (a b : List PV) (h : a.length + b.length ≤ 16777216) : binP .Add (.lst a) (.lst b) = some (.own (a ++ b)) := if_pos h
theorem bin_catT (a b : List PV) (h : a.length + b.length ≤ 16777216) : binP .Add (.tup a) (.tup b) = some (.val (.tup (a ++ b))) := if_pos h
theorem bin_catS (a b : Str) (h : a.length + b.length ≤ 16777216) : binP .Add (.str a) (.str b) = some (.val (.str (a ++ b))) := if_pos h
theorem bin_rep1 (x : PV) (k : Int) (h : 0 ≤ k ∧ k ≤ 16777216) : binP .Mult (.lst [x]) (.int k) = some (.own (List.replicate k.toNat x)) := by
  have e : binP .Mult (.lst [x]) (.int k) = some (.own (List.replicate k.toNat [x]).flatten) := by
    refine if_pos ⟨by omega, by omega, ?_⟩
    show [x].length * k.toNat ≤ 16777216
    simp; omega
  rw [e]
  congr 2
  have : ∀ n : Nat, (List.replicate n [x]).flatten = List.replicate n x := fun n => by
    induction n with
    | zero => rfl
    | succ n ih => rw [List.replicate_succ, List.flatten_cons, ih]; rfl
  exact this _
theorem aug_add (a b : Int) : augP .Add (.int a) (.int b) = some (.val (.int (a + b))) := (rfl)
theorem aug_sub (a b : Int) : augP .Sub (.int a) (.int b) = some (.val (.int (a - b))) := (rfl)
theorem aug_mul (a b : Int) (h : (-18446744073709551616 < a ∧ a < 18446744073709551616) ∨ (-18446744073709551616 < b ∧ b < 18446744073709551616)) : augP .Mult (.int a) (.int b) = some (.val (.int (a * b))) := if_pos h
theorem aug_catS (a b : Str) (h : a.length + b.length ≤ 16777216) : augP .Add (.str a) (.str b) = some (.val (.str (a ++ b))) := if_pos h
theorem cmp_lt (a b : Int) : cmpP .Lt (.int a) (.int b) = some (decide (a < b)) := (rfl)
theorem cmp_le (a b : Int) : cmpP .LtE (.int a) (.int b) = some (decide (a ≤ b)) := (rfl)
theorem cmp_gt (a b : Int) : cmpP .Gt (.int a) (.int b) = some (decide (b < a)) := (rfl)
theorem cmp_ge (a b : Int) : cmpP .GtE (.int a) (.int b) = some (decide (b ≤ a)) := (rfl)
theorem cmp_eq (a b : Int) : cmpP .Eq (.int a) (.int b) = some (decide (a = b)) := by unfold cmpP eqv; rfl
theorem cmp_ne (a b : Int) : cmpP .NotEq (.int a) (.int b) = some (!decide (a = b)) := by unfold cmpP eqv; rfl
theorem cmp_eqS (a b : Str) : cmpP .Eq (.str a) (.str b) = some (decide (a = b)) := by
  show some (a == b) = _
  congr 1
theorem cmp_neS (a b : Str) : cmpP .NotEq (.str a) (.str b) = some (!decide (a = b)) := by
  show some (!(a == b)) = _
  congr 2
theorem cmp_eqB (a b : Bool) : cmpP .Eq (.bl a) (.bl b) = some (a == b) := by unfold cmpP eqv; rfl
theorem cmp_neB (a b : Bool) : cmpP .NotEq (.bl a) (.bl b) = some (!(a == b)) := by unfold cmpP eqv; rfl
theorem cmp_isN (a : PV) : cmpP .Is a .non = some (match a with | .non => true | _ => false) := (rfl)
theorem cmp_isNn : cmpP .Is .non .non = some true := (rfl)
theorem cmp_isNt (xs : List PV) : cmpP .Is (.tup xs) .non = some false := (rfl)
theorem cmp_isNi (i : Int) : cmpP .Is (.int i) .non = some false := (rfl)
theorem cmp_isNs (x : Str) : cmpP .Is (.str x) .non = some false := (rfl)
theorem cmp_isNl (xs : List PV) : cmpP .Is (.lst xs) .non = some false := (rfl)
theorem cmp_notNs (x : Str) : cmpP .IsNot (.str x) .non = some true := (rfl)
theorem cmp_notNl (xs : List PV) : cmpP .IsNot (.lst xs) .non = some true := (rfl)
theorem cmp_eqNN : cmpP .Eq .non .non = some true := by
  show (if shal 60 .non && shal 60 .non then some (eqv .non .non) else none) = _
  simp [shal, eqv]
theorem cmp_neNN : cmpP .NotEq .non .non = some false := by
  show (if shal 60 .non && shal 60 .non then some (!eqv .non .non) else none) = _
  simp [shal, eqv]
theorem cmp_notNn : cmpP .IsNot .non .non = some false := (rfl)
theorem cmp_notNt (xs : List PV) : cmpP .IsNot (.tup xs) .non = some true := (rfl)
theorem cmp_notNi (i : Int) : cmpP .IsNot (.int i) .non = some true := (rfl)
theorem cmp_in (a b : PV) : cmpP .In a b = inO a b := by cases a <;> cases b <;> rfl
theorem cmp_notin (a b : PV) : cmpP .NotIn a b = (inO a b).map (!·) := by cases a <;> cases b <;> rfl
theorem in_sign (c : Nat) (z : Str) : inO (.str ⟨#[c]⟩) (.str z) = some (decide (c ∈ z.cps.toList)) := (rfl)
theorem any_int (a : Int) : ∀ L : List Int, ((L.map PV.int).any fun y => eqv y (.int a)) = decide (a ∈ L)
  | [] => rfl
  | x :: L => by
    rw [List.map_cons, List.any_cons, any_int a L]
    have e : eqv (.int x) (.int a) = decide (x = a) := by unfold eqv; rfl
    rw [e]
    by_cases h1 : x = a
    · subst h1; simp
    · have h2 : ¬ a = x := fun z => h1 z.symm
      simp [h1, h2]
theorem flat_ints : ∀ L : List Int, (L.map PV.int).all flatD = true
  | [] => rfl
  | x :: L => by rw [List.map_cons, List.all_cons, flat_ints L]; rfl
theorem in_tupI (a : Int) (L : List Int) : inO (.int a) (.tup (L.map .int)) = some (decide (a ∈ L)) := by
  show inP (.int a) (L.map .int) = _
  unfold inP
  rw [flat_ints, any_int]; rfl
theorem in_lstI (a : Int) (L : List Int) : inO (.int a) (.lst (L.map .int)) = some (decide (a ∈ L)) := by
  show inP (.int a) (L.map .int) = _
  unfold inP
  rw [flat_ints, any_int]; rfl
theorem in_two (a x y : Str) : inO (.str a) (.tup [.str x, .str y]) = some (decide (x = a) || decide (y = a)) := by
  show inP (.str a) [.str x, .str y] = _
  have e : ∀ x : Str, eqv (.str x) (.str a) = decide (x = a) := fun x => by unfold eqv; rfl
  show some ([PV.str x, PV.str y].any fun z => eqv z (.str a)) = _
  simp only [List.any_cons, List.any_nil, e, Bool.or_false]
theorem isi_int (v : Int) : isiP "int" (.int v) = some true := (rfl)
theorem isi_bool (v : Int) : isiP "bool" (.int v) = some false := (rfl)
theorem isi_str_int (v : Str) : isiP "int" (.str v) = some false := (rfl)
theorem isi_str (v : Str) : isiP "str" (.str v) = some true := (rfl)
theorem isi_tup (v : List PV) : isiP "tuple" (.tup v) = some true := (rfl)
theorem isi_lst (v : List PV) : isiP "list" (.lst v) = some true := (rfl)
theorem len_l (G : En) (xs : List PV) (s : Ps) (q : Kn SV) : @Wp _ (lenP G (.lst xs) s) q = q.run (.val (.int xs.length)) s := w_ok _ _ q
theorem len_t (G : En) (xs : List PV) (s : Ps) (q : Kn SV) : @Wp _ (lenP G (.tup xs) s) q = q.run (.val (.int xs.length)) s := w_ok _ _ q
theorem len_n (G : En) (xs : List Int) (s : Ps) (q : Kn SV) : @Wp _ (lenP G (.scr xs) s) q = q.run (.val (.int xs.length)) s := w_ok _ _ q
theorem len_s (G : En) (x : Str) (s : Ps) (q : Kn SV) (h : x.length ≤ 16777216) : @Wp _ (lenP G (.str x) s) q = q.run (.val (.int x.length)) s := by
  have : lenP G (.str x) s = .ok (.val (.int x.length)) s := by
    show liftO (if x.length ≤ lim then some (SV.val (.int x.length)) else none) s = _
    rw [if_pos h]; rfl
  rw [this, w_ok]
theorem prim_int (i : Int) : primP .int [.int i] = some (.val (.int i)) := (rfl)
theorem prim_intB (b : Bool) : primP .int [.bl b] = some (.val (.int (if b then 1 else 0))) := (rfl)
theorem prim_max (i j : Int) : primP .max2 [.int i, .int j] = some (.val (.int (max i j))) := by
  show some (SV.val (.int (if j > i then j else i))) = _
  congr 3
  omega
theorem prim_min (i j : Int) : primP .min2 [.int i, .int j] = some (.val (.int (min i j))) := by
  show some (SV.val (.int (if j < i then j else i))) = _
  congr 3
  omega
theorem unInts_map {α : Type} (f : α → Int) : ∀ L : List α, unInts (L.map fun a => PV.int (f a)) = some (L.map f)
  | [] => rfl
  | a :: L => by
    show (unInts (L.map fun a => PV.int (f a))).map (f a :: ·) = _
    rw [unInts_map f L]; rfl
theorem unBls_map {α : Type} (f : α → Bool) : ∀ L : List α, unBls (L.map fun a => PV.bl (f a)) = some (L.map f)
  | [] => rfl
  | a :: L => by
    show (unBls (L.map fun a => PV.bl (f a))).map (f a :: ·) = _
    rw [unBls_map f L]; rfl
theorem unStrs_map {α : Type} (f : α → Str) : ∀ L : List α, unStrs (L.map fun a => PV.str (f a)) = some (L.map f)
  | [] => rfl
  | a :: L => by
    show (unStrs (L.map fun a => PV.str (f a))).map (f a :: ·) = _
    rw [unStrs_map f L]; rfl
theorem prim_sum {α : Type} (f : α → Int) (L : List α) : primP .sum [.lst (L.map fun a => PV.int (f a))] = some (.val (.int (L.map f).sum)) := by
  show (unInts _).map _ = _
  rw [unInts_map]; rfl
theorem prim_all {α : Type} (f : α → Bool) (L : List α) : primP .all [.lst (L.map fun a => PV.bl (f a))] = some (.val (.bl (L.all f))) := by
  show (unBls _).map _ = _
  rw [unBls_map]
  show some (SV.val (.bl ((L.map f).all id))) = _
  rw [List.all_map]; rfl
theorem prim_tupl (xs : List PV) : primP .tup [.lst xs] = some (.val (.tup xs)) := (rfl)
theorem prim_tupt (xs : List PV) : primP .tup [.tup xs] = some (.val (.tup xs)) := (rfl)
theorem prim_lstl (xs : List PV) : primP .lst [.lst xs] = some (.own xs) := (rfl)
theorem prim_lstt (xs : List PV) : primP .lst [.tup xs] = some (.own xs) := (rfl)
theorem prim_srt {α : Type} (f : α → Int) (L : List α) : primP .srt [.lst (L.map fun a => PV.int (f a))] = some (.own ((srtI (L.map f)).map .int)) := by
  show (match unInts (L.map fun a => PV.int (f a)) with
    | some ns => some (SV.own ((srtI ns).map .int))
    | none => (srtDP (L.map fun a => PV.int (f a))).map .own) = _
  rw [unInts_map]
theorem prim_srtS {α : Type} (f : α → Int) (L : List α) (h : L.length ≤ 3000 ∧ (snuI (L.map f)).length < 64) : primP .srtS [.lst (L.map fun a => PV.int (f a))] = some (.own ((snuI (L.map f)).map .int)) := by
  show (match unInts (L.map fun a => PV.int (f a)) with
    | some ns => if ns.length ≤ 3000 ∧ (snuI ns).length < 64 then some (SV.own ((snuI ns).map .int)) else none
    | none => none) = _
  rw [unInts_map]
  exact if_pos (by rw [List.length_map]; exact h)
theorem prim_lenS {α : Type} (f : α → Int) (L : List α) (h : L.length ≤ 3000) : primP .lenS [.lst (L.map fun a => PV.int (f a))] = some (.val (.int (snuI (L.map f)).length)) := by
  unfold primP
  simp only [unInts_map]
  exact if_pos (by rw [List.length_map]; exact h)
theorem prim_lstZ {α : Type} (f g : α → PV) (L : List α) : primP .lstZ [.tup (L.map f), .tup (L.map g)] = some (.own (L.map fun a => PV.tup [f a, g a])) := by
  have e : primP .lstZ [.tup (L.map f), .tup (L.map g)] = if (L.map f).length = (L.map g).length then some (.own (zipL (L.map f) (L.map g))) else none := rfl
  have k : ∀ L : List α, zipL (L.map f) (L.map g) = L.map fun a => PV.tup [f a, g a] := fun L => by
    induction L with
    | nil => rfl
    | cons a L ih =>
      show PV.tup [f a, g a] :: zipL (L.map f) (L.map g) = _
      rw [ih]
      rfl
  rw [e, if_pos (by simp), k]
theorem prim_lenT {α : Type} (f : α → Int) (L : List α) (h : L.length ≤ 3000) : primP .lenS [.tup (L.map fun a => PV.int (f a))] = some (.val (.int (snuI (L.map f)).length)) := by
  unfold primP
  simp only [unInts_map]
  exact if_pos (by rw [List.length_map]; exact h)
theorem idx_l (st : Sto) (xs : List PV) (i : Int) : idxP st (.lst xs) (.int i) = L2.atI xs i := (rfl)
theorem idx_t (st : Sto) (xs : List PV) (i : Int) : idxP st (.tup xs) (.int i) = L2.atI xs i := (rfl)
theorem idx_n (st : Sto) (ns : List Int) (i : Int) : idxP st (.scr ns) (.int i) = (L2.atI ns i).map .int := (rfl)
theorem idx_s (st : Sto) (z : Str) (i : Int) (h : z.length ≤ 16777216) : idxP st (.str z) (.int i) = (L2.atI z.cps.toList i).map fun c => .str ⟨#[c]⟩ := if_pos h
def rowAt (o : Option SO) (i : Int) : Option PV := match o with
  | some (.row xs) => atP xs i
  | _ => none
theorem rowAt_some (xs : List PV) (i : Int) : rowAt (some (.row xs)) i = L2.atI xs i := (rfl)
theorem idx_r (st : Sto) (k : Nat) (i : Int) : idxP st (.ref k) (.int i) = rowAt st[k]? i := (rfl)
theorem pv_val (d : PV) : SV.pv (.val d) = d := (rfl)
theorem pv_own (d : List PV) : SV.pv (.own d) = .lst d := (rfl)
theorem tru_bl (b : Bool) : truP (.bl b) = some b := (rfl)
theorem tru_int (b : Int) : truP (.int b) = some (b != 0) := (rfl)
theorem tru_lst (b : List PV) : truP (.lst b) = some (!b.isEmpty) := (rfl)
theorem tru_tup (b : List PV) : truP (.tup b) = some (!b.isEmpty) := (rfl)
theorem tru_non : truP .non = some false := (rfl)
theorem decide_true {p : Prop} [Decidable p] (h : p) : decide p = true := decide_eq_true h
theorem decide_false {p : Prop} [Decidable p] (h : ¬ p) : decide p = false := decide_eq_false h
theorem decT (h : Decidable True) : @decide True h = true := decide_eq_true trivial
theorem decF (h : Decidable False) : @decide False h = false := decide_eq_false id
/-! ### what is walked -/
theorem intsFrom_map : ∀ (a : Int) (n : Nat), intsFrom a n = (List.range n).map fun (k : Nat) => PV.int (a + (k : Int))
  | a, 0 => rfl
  | a, n + 1 => by
    rw [intsFrom, intsFrom_map (a + 1) n, List.range_succ_eq_map, List.map_cons, List.map_map]
    congr 1
    · simp
    · congr 1
      funext k
      show PV.int _ = PV.int _
      congr 1
      show a + 1 + (k : Int) = a + ((k + 1 : Nat) : Int)
      omega
theorem its_seq_l (xs : List PV) : itemsP .seq [.lst xs] = some xs := (rfl)
theorem its_seq_t (xs : List PV) : itemsP .seq [.tup xs] = some xs := (rfl)
theorem its_seq_s (z : Str) : itemsP .seq [.str z] = some (z.cps.toList.map fun c => .str ⟨#[c]⟩) := (rfl)
theorem its_rng1 (n : Int) (h : -4611686018427387904 ≤ n ∧ n < 4611686018427387904) : itemsP .rng [.int n] = some ((List.range n.toNat).map fun (k : Nat) => PV.int (k : Int)) := by
  have e : itemsP .rng [.int n] = some (intsFrom 0 n.toNat) := if_pos h
  rw [e, intsFrom_map]
  congr 2
  funext k
  rw [Int.zero_add]
theorem its_rng2 (a b : Int) (h : -4611686018427387904 ≤ a ∧ a < 4611686018427387904 ∧ -4611686018427387904 ≤ b ∧ b < 4611686018427387904) : itemsP .rng [.int a, .int b] = some ((List.range (b - a).toNat).map fun (k : Nat) => PV.int (a + (k : Int))) := by
  have e : itemsP .rng [.int a, .int b] = some (intsFrom a (b - a).toNat) := if_pos h
  rw [e, intsFrom_map]
theorem enmL_map {α : Type} (f : α → PV) : ∀ (n : Nat) (L : List α), enmL n (L.map f) = (L.zipIdx n).map fun p => PV.tup [.int (p.2 : Int), f p.1]
  | _, [] => rfl
  | n, a :: L => by
    rw [List.map_cons, enmL, enmL_map f (n + 1) L, List.zipIdx_cons, List.map_cons]
theorem its_enm_l {α : Type} (f : α → PV) (L : List α) : itemsP .enm [.lst (L.map f)] = some (L.zipIdx.map fun p => PV.tup [.int (p.2 : Int), f p.1]) := by
  show some (enmL 0 _) = _
  rw [enmL_map]
theorem its_enm_t {α : Type} (f : α → PV) (L : List α) : itemsP .enm [.tup (L.map f)] = some (L.zipIdx.map fun p => PV.tup [.int (p.2 : Int), f p.1]) := by
  show some (enmL 0 _) = _
  rw [enmL_map]
theorem zipL_map {α β : Type} (f : α → PV) (g : β → PV) : ∀ (L : List α) (M : List β), zipL (L.map f) (M.map g) = (L.zip M).map fun p => PV.tup [f p.1, g p.2]
  | [], M => by cases M <;> rfl
  | a :: L, [] => rfl
  | a :: L, b :: M => by
    rw [List.map_cons, List.map_cons, zipL, zipL_map f g L M, List.zip_cons_cons, List.map_cons]
theorem its_zp {α β : Type} (f : α → PV) (g : β → PV) (L : List α) (M : List β) (a b : PV) (ha : seqP [a] = some (L.map f)) (hb : seqP [b] = some (M.map g)) : itemsP .zp [a, b] = some ((L.zip M).map fun p => PV.tup [f p.1, g p.2]) := by
  show (match seqP [a], seqP [b] with
    | some xs, some ys => some (zipL xs ys)
    | _, _ => none) = _
  rw [ha, hb]
  show some (zipL _ _) = _
  rw [zipL_map]
theorem its_zp_ll {α β : Type} (f : α → PV) (g : β → PV) (L : List α) (M : List β) : itemsP .zp [.lst (L.map f), .lst (M.map g)] = some ((L.zip M).map fun p => PV.tup [f p.1, g p.2]) := its_zp f g L M _ _ rfl rfl
theorem its_zp_tt {α β : Type} (f : α → PV) (g : β → PV) (L : List α) (M : List β) : itemsP .zp [.tup (L.map f), .tup (M.map g)] = some ((L.zip M).map fun p => PV.tup [f p.1, g p.2]) := its_zp f g L M _ _ rfl rfl
theorem its_zp_tl {α β : Type} (f : α → PV) (g : β → PV) (L : List α) (M : List β) : itemsP .zp [.tup (L.map f), .lst (M.map g)] = some ((L.zip M).map fun p => PV.tup [f p.1, g p.2]) := its_zp f g L M _ _ rfl rfl
theorem its_zp_ss (x y : Str) : itemsP .zp [.str x, .str y] = some ((x.cps.toList.zip y.cps.toList).map fun p => PV.tup [.str ⟨#[p.1]⟩, .str ⟨#[p.2]⟩]) := its_zp (fun c : Nat => PV.str ⟨#[c]⟩) (fun c : Nat => PV.str ⟨#[c]⟩) x.cps.toList y.cps.toList _ _ rfl rfl
theorem its_zp_ts {α : Type} (f : α → PV) (L : List α) (y : Str) : itemsP .zp [.tup (L.map f), .str y] = some ((L.zip y.cps.toList).map fun p => PV.tup [f p.1, .str ⟨#[p.2]⟩]) := its_zp f (fun c : Nat => PV.str ⟨#[c]⟩) L y.cps.toList _ _ rfl rfl
theorem its_zp_ls {α : Type} (f : α → PV) (L : List α) (y : Str) : itemsP .zp [.lst (L.map f), .str y] = some ((L.zip y.cps.toList).map fun p => PV.tup [f p.1, .str ⟨#[p.2]⟩]) := its_zp f (fun c : Nat => PV.str ⟨#[c]⟩) L y.cps.toList _ _ rfl rfl
/-! ### places -/
theorem at_pos {α : Type} (xs : List α) (i : Int) (h : 0 ≤ i ∧ i < xs.length) : L2.atI xs i = xs[i.toNat]? := by
  unfold L2.atI L2.ixN
  rw [if_pos h.1, if_pos h.2]
  rfl
theorem at_nat {α : Type} (xs : List α) (i : Nat) : L2.atI xs (i : Int) = xs[i]? := by
  by_cases h : i < xs.length
  · rw [at_pos xs i ⟨by omega, by omega⟩]; rfl
  · unfold L2.atI L2.ixN
    rw [if_pos (by omega), if_neg (by omega)]
    rw [List.getElem?_eq_none (by omega)]
    rfl
theorem at_last {α : Type} (xs : List α) (h : xs ≠ []) : L2.atI xs (-1) = xs.getLast? := by
  have hl : 0 < xs.length := List.length_pos_iff.mpr h
  unfold L2.atI L2.ixN
  rw [if_neg (by omega), if_pos (by omega)]
  show xs[(-1 + (xs.length : Int)).toNat]? = _
  rw [List.getLast?_eq_getElem?]
  congr 1
  omega
theorem at_0 {α : Type} (a : α) (l : List α) : L2.atI (a :: l) 0 = some a := by
  rw [at_pos _ _ ⟨by omega, by simp⟩]; rfl
theorem at_1 {α : Type} (a b : α) (l : List α) : L2.atI (a :: b :: l) 1 = some b := by
  rw [at_pos _ _ ⟨by omega, by simp; omega⟩]; rfl
theorem at_2 {α : Type} (a b c : α) (l : List α) : L2.atI (a :: b :: c :: l) 2 = some c := by
  rw [at_pos _ _ ⟨by omega, by simp; omega⟩]; rfl
theorem at_3 {α : Type} (a b c d : α) (l : List α) : L2.atI (a :: b :: c :: d :: l) 3 = some d := by
  rw [at_pos _ _ ⟨by omega, by simp; omega⟩]; rfl
theorem ix_nat (n i : Nat) (h : i < n) : L2.ixN n (i : Int) = some i := by
  unfold L2.ixN
  rw [if_pos (by omega), if_pos (by omega)]
  rfl
theorem at_map {α β : Type} (f : α → β) (L : List α) (i : Int) : L2.atI (L.map f) i = (L2.atI L i).map f := by
  unfold L2.atI
  rw [List.length_map]
  cases L2.ixN L.length i with
  | none => rfl
  | some j => simp
theorem at_range {m i : Nat} (h : i < m) : (List.range m)[i]? = some i := by simp [h]
theorem ix_row1 : L2.ixN 4 1 = some 1 := (rfl)
theorem ix_row2 : L2.ixN 4 2 = some 2 := (rfl)
theorem ix_row3 : L2.ixN 4 3 = some 3 := (rfl)
/-- a text by its signs -/
abbrev stx (L : List Nat) : Str := ⟨L.toArray⟩
/-- a text of figures -/
def dtx (D : List Nat) : Str := ⟨(D.map (48 + ·)).toArray⟩
theorem dtx_cps (D : List Nat) : (dtx D).cps.toList = D.map (48 + ·) := by simp [dtx]
theorem stx_len (L : List Nat) : (stx L).length = L.length := by simp [Str.length]
theorem dtx_len (D : List Nat) : (dtx D).length = D.length := by simp [dtx, Str.length]
/-! instances with a dict -/
theorem w_ev_callT {G : En} {s : Ps} (f : Str) (es : List E) (q : Kn SV) : @Wp _ (ev G (.callT f es) s) q = @Wp _ (ebs G false es s) ⟨fun xs s1 => @Wp _ (ders s1 xs fun ds => calT (G.cl f ds s1.sto) s1) q, q.exc⟩ := w_bind _ _ q
theorem w_calT {s : Ps} (v : SV) (st : Sto) (q : Kn SV) : @Wp _ (calT (.ok v st) s) q = q.run v { s with sto := trimS s.sto.length v st } := w_ok _ _ q
theorem w_ev_mkI {G : En} {s : Ps} (c : Str) (es : List E) (q : Kn SV) : @Wp _ (ev G (.mkI c es) s) q = @Wp _ (ebs G false es s) ⟨fun xs s1 => @Wp _ (ders s1 xs fun ds => mkIP G c ds s1) q, q.exc⟩ := w_bind _ _ q
theorem w_ev_eqR {G : En} {s : Ps} (ne : Bool) (a b : E) (q : Kn SV) : @Wp _ (ev G (.eqR ne a b) s) q = @Wp _ (eb G a s) ⟨fun x s1 => @Wp _ (eb G b s1) ⟨fun y s2 => @Wp _ (der2 s2 x y fun dx dy => eqrP G ne dx dy s2) q, q.exc⟩, q.exc⟩ := by
  refine (w_bind (eb G a s) (fun x s1 => (eb G b s1).bind fun y s2 => der2 s2 x y fun dx dy => eqrP G ne dx dy s2) q).trans ?_
  exact kn_congr fun x s1 => w_bind _ _ q
theorem w_et_eqR {G : En} {s : Ps} (ne : Bool) (a b : E) (q : Kn Bool) : @Wp _ (et G (.eqR ne a b) s) q = @Wp _ (eb G a s) ⟨fun x s1 => @Wp _ (eb G b s1) ⟨fun y s2 => @Wp _ (der2 s2 x y fun dx dy => eqrT G ne dx dy s2) q, q.exc⟩, q.exc⟩ := by
  refine (w_bind (eb G a s) (fun x s1 => (eb G b s1).bind fun y s2 => der2 s2 x y fun dx dy => eqrT G ne dx dy s2) q).trans ?_
  exact kn_congr fun x s1 => w_bind _ _ q
theorem w_eqrT {G : En} {s : Ps} (ne : Bool) (dx dy : PV) (q : Kn Bool) : @Wp _ (eqrT G ne dx dy s) q = @Wp _ (eqrP G ne dx dy s) ⟨fun x s1 => @Wp _ (liftO (truP x.pv) s1) q, q.exc⟩ := w_bind _ _ q
theorem w_ev_isC {G : En} {s : Ps} (a : E) (c : Str) (q : Kn SV) : @Wp _ (ev G (.isC a c) s) q = @Wp _ (eb G a s) ⟨fun x s1 => @Wp _ (der1 s1 x fun d => isCP c d s1) q, q.exc⟩ := w_bind _ _ q
theorem w_ev_mcl {G : En} {s : Ps} (a : E) (f : Str) (es : List E) (q : Kn SV) : @Wp _ (ev G (.mcl a f es) s) q = @Wp _ (ev G a s) ⟨fun x s1 => @Wp _ (mclK G f (dens G es) x s1) q, q.exc⟩ := w_bind _ _ q
/-- a method's own name by its class -/
def mclA (G : En) (k : Nat) (es : List E) (a : Option At) (o : Option PV) (s : Ps) : R SV := match a, o with
  | some (.methI g ar), none => opnds false (dens G es) (mclG G k g ar) s
  | _, _ => .stuck
def mclS (G : En) (f : Str) (k : Nat) (es : List E) (o : Option SO) (s : Ps) : R SV := mclO G f k (dens G es) o s
theorem w_mclK {G : En} {s : Ps} (f : Str) (es : List E) (k : Nat) (q : Kn SV) : @Wp _ (mclK G f (dens G es) (.val (.ref k)) s) q = @Wp _ (mclS G f k es s.sto[k]? s) q := (rfl)
theorem w_mclS {G : En} {s : Ps} (f : Str) (es : List E) (k : Nat) (c : Str) (fs : List (Str × PV)) (q : Kn SV) : @Wp _ (mclS G f k es (some (.ins c fs)) s) q = @Wp _ (mclA G k es (G.ca c f) (fs.lookup f) s) q := (rfl)
theorem w_mclA {G : En} {s : Ps} (es : List E) (k : Nat) (g : Str) (ar : Nat) (q : Kn SV) : @Wp _ (mclA G k es (some (.methI g ar)) none s) q = @Wp _ (ebs G false es s) ⟨fun xs s1 => @Wp _ (ders s1 xs fun ds => mclG G k g ar ds s1) q, q.exc⟩ := w_bind _ _ q
theorem w_mclG0 {G : En} {s : Ps} (k : Nat) (g : Str) (q : Kn SV) : @Wp _ (mclG G k g 1 [] s) q = @Wp _ (calP (G.cl g [.ref k] s.sto) s) q := (rfl)
theorem w_mclG1 {G : En} {s : Ps} (k : Nat) (g : Str) (a : PV) (q : Kn SV) : @Wp _ (mclG G k g 2 [a] s) q = @Wp _ (calP (G.cl g [.ref k, a] s.sto) s) q := (rfl)
theorem w_mclG2 {G : En} {s : Ps} (k : Nat) (g : Str) (a b : PV) (q : Kn SV) : @Wp _ (mclG G k g 3 [a, b] s) q = @Wp _ (calP (G.cl g [.ref k, a, b] s.sto) s) q := (rfl)
theorem w_mclG3 {G : En} {s : Ps} (k : Nat) (g : Str) (a b c : PV) (q : Kn SV) : @Wp _ (mclG G k g 4 [a, b, c] s) q = @Wp _ (calP (G.cl g [.ref k, a, b, c] s.sto) s) q := (rfl)
theorem w_attrRef {G : En} {s : Ps} (f : Str) (k : Nat) (q : Kn SV) : @Wp _ (attrP G f (.ref k) s) q = @Wp _ (attrO G f (.ref k) s.sto[k]? s.sto[k + 1]? s) q := (rfl)
/-- an attribute by its class -/
def insA (G : En) (a : Option At) (o : Option PV) (d : PV) (s : Ps) : R SV := match a with
  | some .fld => liftO (o.map .val) s
  | some (.propI g) => propP (G.cl g [d] s.sto) s
  | _ => .stuck
theorem w_attrIns {G : En} {s : Ps} (f c : Str) (fs : List (Str × PV)) (d : PV) (o : Option SO) (q : Kn SV) : @Wp _ (attrO G f d (some (.ins c fs)) o s) q = @Wp _ (insA G (G.ca c f) (fs.lookup f) d s) q := (rfl)
theorem w_insF {G : En} {s : Ps} (x d : PV) (q : Kn SV) : @Wp _ (insA G (some .fld) (some x) d s) q = q.run (.val x) s := w_ok _ _ q
def setLoc (G : En) (f : Str) (x : PV) (o : Option (Option SV)) (s : Ps) : R Fl := match o with
  | some (some (.val (.ref k))) => setFld G k f x s.sto[k]? s.sto[k + 1]? s
  | _ => .stuck
theorem i_setRef {G : En} {s : Ps} (i : Nat) (f : Str) (x : PV) (q : Kn Fl) : @Wp _ (setAt G i f x s) q = @Wp _ (setLoc G f x s.loc[i]? s) q := (rfl)
theorem w_setLoc {G : En} {s : Ps} (f : Str) (x : PV) (k : Nat) (q : Kn Fl) : @Wp _ (setLoc G f x (some (some (.val (.ref k)))) s) q = @Wp _ (setFld G k f x s.sto[k]? s.sto[k + 1]? s) q := (rfl)
def setFA (k : Nat) (f c : Str) (x : PV) (fs : List (Str × PV)) (a : Option At) (s : Ps) : R Fl := match a with
  | some .fld => if fs.length < 1000 then .ok .next { s with sto := s.sto.set k (.ins c (putI f x fs)) } else .stuck
  | _ => .stuck
theorem w_setIns {G : En} {s : Ps} (f c : Str) (x : PV) (k : Nat) (fs : List (Str × PV)) (o : Option SO) (q : Kn Fl) : @Wp _ (setFld G k f x (some (.ins c fs)) o s) q = @Wp _ (setFA k f c x fs (G.ca c f) s) q := (rfl)
theorem w_setFA {s : Ps} (f c : Str) (x : PV) (k : Nat) (fs : List (Str × PV)) (q : Kn Fl) (h : fs.length < 1000) : @Wp _ (setFA k f c x fs (some .fld) s) q = q.run .next { s with sto := s.sto.set k (.ins c (putI f x fs)) } := by
  have e : setFA k f c x fs (some .fld) s = .ok .next { s with sto := s.sto.set k (.ins c (putI f x fs)) } := if_pos h
  rw [e]
  exact w_ok _ _ q
def augLoc (G : En) (f : Str) (op : Operator) (e : E) (o : Option (Option SV)) (s : Ps) : R Fl := match o with
  | some (some (.val (.ref k))) => augG G k f op (den G e) s.sto[k]? s
  | _ => .stuck
theorem w_augAt {G : En} {s : Ps} (i : Nat) (f : Str) (op : Operator) (e : E) (q : Kn Fl) : @Wp _ (dst G (.augAttr i f op e) s) q = @Wp _ (augLoc G f op e s.loc[i]? s) q := (rfl)
def augS (G : En) (k : Nat) (f : Str) (op : Operator) (e : E) (o : Option SO) (s : Ps) : R Fl := augG G k f op (den G e) o s
theorem w_augLoc {G : En} {s : Ps} (f : Str) (op : Operator) (e : E) (k : Nat) (q : Kn Fl) : @Wp _ (augLoc G f op e (some (some (.val (.ref k)))) s) q = @Wp _ (augS G k f op e s.sto[k]? s) q := (rfl)
def augA (G : En) (k : Nat) (f c : Str) (op : Operator) (e : E) (a : Option At) (o : Option PV) (s : Ps) : R Fl := match a, o with
  | some .fld, some x => ((den G e).v s).bind (augF k f c op x)
  | _, _ => .stuck
theorem w_augS {G : En} {s : Ps} (f c : Str) (op : Operator) (e : E) (k : Nat) (fs : List (Str × PV)) (q : Kn Fl) : @Wp _ (augS G k f op e (some (.ins c fs)) s) q = @Wp _ (augA G k f c op e (G.ca c f) (fs.lookup f) s) q := (rfl)
theorem w_augA {G : En} {s : Ps} (f c : Str) (op : Operator) (e : E) (k : Nat) (x : PV) (q : Kn Fl) : @Wp _ (augA G k f c op e (some .fld) (some x) s) q = @Wp _ (ev G e s) ⟨fun y s1 => @Wp _ (augF k f c op x y s1) q, q.exc⟩ := w_bind _ _ q
theorem w_augFadd {s : Ps} (f c : Str) (k : Nat) (a b : Int) (q : Kn Fl) : @Wp _ (augF k f c .Add (.int a) (.val (.int b)) s) q = @Wp _ (augO k f c (.int (a + b)) s.sto[k]? s) q := (rfl)
theorem w_augFsub {s : Ps} (f c : Str) (k : Nat) (a b : Int) (q : Kn Fl) : @Wp _ (augF k f c .Sub (.int a) (.val (.int b)) s) q = @Wp _ (augO k f c (.int (a - b)) s.sto[k]? s) q := (rfl)
theorem w_augO {s : Ps} (f c : Str) (k : Nat) (z : PV) (fs : List (Str × PV)) (q : Kn Fl) (h : fs.length < 1000) : @Wp _ (augO k f c z (some (.ins c fs)) s) q = q.run .next { s with sto := s.sto.set k (.ins c (putI f z fs)) } := by
  have e : augO k f c z (some (.ins c fs)) s = .ok .next { s with sto := s.sto.set k (.ins c (putI f z fs)) } := if_pos ⟨rfl, h⟩
  rw [e]
  exact w_ok _ _ q
theorem w_whl1 {G : En} {c : E} {body : List S} {n : Nat} {s : Ps} {q : Kn Fl} (h : @Wp _ (et G c s) ⟨fun k s1 => @Wp _ (bif k then dsts G body s1 else .ok .brk s1) ⟨eachQ q fun s' => @Wp _ (whl (den G c) (dsts G body) n s') q, q.exc⟩, q.exc⟩) : @Wp _ (whl (den G c) (dsts G body) (n + 1) s) q := by
  show @Wp _ ((et G c s).bind fun k s1 => if k then (match dsts G body s1 with
    | .ok .next s2 => whl (den G c) (dsts G body) n s2
    | .ok .cont s2 => whl (den G c) (dsts G body) n s2
    | .ok .brk s2 => .ok .next s2
    | .ok (.ret v) s2 => .ok (.ret v) s2
    | .exc c fs s2 => .exc c fs s2
    | .stuck => .stuck) else .ok .next s1) q
  rw [w_bind]
  refine h.imp (fun k s1 z => ?_) fun _ _ _ z => z
  cases k with
  | false =>
    have z : @Wp Fl (.ok .brk s1) ⟨eachQ q fun s' => @Wp _ (whl (den G c) (dsts G body) n s') q, q.exc⟩ := z
    rw [w_ok] at z
    exact .ok _ _ rfl z
  | true =>
    have z : @Wp Fl (dsts G body s1) ⟨eachQ q fun s' => @Wp _ (whl (den G c) (dsts G body) n s') q, q.exc⟩ := z
    show @Wp _ (match dsts G body s1 with
      | .ok .next s2 => whl (den G c) (dsts G body) n s2
      | .ok .cont s2 => whl (den G c) (dsts G body) n s2
      | .ok .brk s2 => .ok .next s2
      | .ok (.ret v) s2 => .ok (.ret v) s2
      | .exc c fs s2 => .exc c fs s2
      | .stuck => .stuck) q
    cases z with
    | ok fl s2 e z =>
      rw [e]
      cases fl with
      | next => exact z
      | cont => exact z
      | brk => exact .ok _ _ rfl z
      | ret v => exact .ok _ _ rfl z
    | exc c fs s2 e z =>
      rw [e]
      exact .exc _ _ _ rfl z
end PI

set_option linter.all false
set_option maxRecDepth 100000
namespace PI.B
open PySem PI
def b_is_number : List S := [
    (.ret (.and (.isi (.var 0) "int") (.and (.not (.isi (.var 0) "bool")) (.chain .LtE .LtE (.var 1) (.var 0) (.var 2)))))]
def is_number : Fn := ⟨3, 3, b_is_number⟩
def b_are_figures : List S := [
    (.ret (.and (.isi (.var 1) "str") (.and (.cmp .Eq (.lenX (.var 1)) (.var 0)) (.prim .all [(.comp [("figure", 3)] (.cmp .In (.var 3) (.var 2)) (.var 3) .seq [(.var 1)] [])]))))]
def are_figures : Fn := ⟨3, 4, b_are_figures⟩
def b_is_size : List S := [
    (.ret (.and (.call "is_number" [(.var 0), (.cst (.int 1)), (.glob "MAX_SIDE")]) (.and (.call "is_number" [(.var 1), (.cst (.int 1)), (.glob "MAX_SIDE")]) (.cmp .LtE (.bin .Mult (.var 0) (.var 1)) (.glob "MAX_CELLS")))))]
def is_size : Fn := ⟨2, 2, b_is_size⟩
def b_law_taken_1 : List S := [
    (.if_ (.cmp .Gt (.idx (.var 0) (.cst (.int 3))) (.cst (.int 0))) [(.asg (.var 2) (.bin .Mod (.prim .int [(.idx (.var 0) (.cst (.int 3)))]) (.var 1))), (.setIdx 0 (.cst (.int 3)) (.bin .FloorDiv (.idx (.var 0) (.cst (.int 3))) (.var 1))), (.ret (.var 2))] []),
    (.setIdx 0 (.cst (.int 1)) (.bin .Add (.idx (.var 0) (.cst (.int 1))) (.cst (.int 1)))),
    (.if_ (.cmp .Gt (.idx (.var 0) (.cst (.int 1))) (.lenX (.idx (.var 0) (.cst (.int 0))))) [(.setIdx 0 (.cst (.int 2)) (.bin .Mod (.prim .int [(.bin .Add (.bin .Mult (.idx (.var 0) (.cst (.int 2))) (.cst (.int 48271))) (.cst (.int 11)))]) (.cst (.int 2147483647)))), (.ret (.bin .Mod (.prim .int [(.bin .FloorDiv (.idx (.var 0) (.cst (.int 2))) (.cst (.int 7)))]) (.var 1)))] []),
    (.asg (.var 3) (.idx (.idx (.var 0) (.cst (.int 0))) (.bin .Sub (.idx (.var 0) (.cst (.int 1))) (.cst (.int 1))))),
    (.setIdx 0 (.cst (.int 2)) (.bin .Mod (.prim .int [(.bin .Add (.bin .Add (.bin .Mult (.idx (.var 0) (.cst (.int 2))) (.cst (.int 48271))) (.var 3)) (.cst (.int 11)))]) (.cst (.int 2147483647)))),
    (.setIdx 0 (.cst (.int 3)) (.ite (.cmp .GtE (.var 3) (.bin .Pow (.cst (.int 10)) (.cst (.int 18)))) (.bin .FloorDiv (.var 3) (.var 1)) (.cst (.int 0)))),
    (.ret (.bin .Mod (.prim .int [(.var 3)]) (.var 1)))]
def law_taken_1 : Fn := ⟨2, 4, b_law_taken_1⟩
def b_law_taken_2 : List S := [
    (.if_ (.cmp .Gt (.idx (.var 0) (.cst (.int 3))) (.cst (.int 0))) [(.asg (.var 2) (.bin .Mod (.prim .int [(.idx (.var 0) (.cst (.int 3)))]) (.var 1))), (.setIdx 0 (.cst (.int 3)) (.bin .FloorDiv (.idx (.var 0) (.cst (.int 3))) (.var 1))), (.ret (.var 2))] []),
    (.setIdx 0 (.cst (.int 1)) (.bin .Add (.idx (.var 0) (.cst (.int 1))) (.cst (.int 1)))),
    (.if_ (.cmp .Gt (.idx (.var 0) (.cst (.int 1))) (.lenX (.idx (.var 0) (.cst (.int 0))))) [(.setIdx 0 (.cst (.int 2)) (.bin .Mod (.prim .int [(.bin .Add (.bin .Mult (.idx (.var 0) (.cst (.int 2))) (.cst (.int 48271))) (.cst (.int 11)))]) (.cst (.int 2147483647)))), (.ret (.bin .Mod (.prim .int [(.bin .FloorDiv (.idx (.var 0) (.cst (.int 2))) (.cst (.int 7)))]) (.var 1)))] []),
    (.asg (.var 3) (.idx (.idx (.var 0) (.cst (.int 0))) (.bin .Sub (.idx (.var 0) (.cst (.int 1))) (.cst (.int 1))))),
    (.setIdx 0 (.cst (.int 2)) (.bin .Mod (.prim .int [(.bin .Add (.bin .Add (.bin .Mult (.idx (.var 0) (.cst (.int 2))) (.cst (.int 48271))) (.var 3)) (.cst (.int 11)))]) (.cst (.int 2147483647)))),
    (.if_ (.cmp .GtE (.var 3) (.bin .Pow (.cst (.int 10)) (.cst (.int 18)))) [(.setIdx 0 (.cst (.int 3)) (.bin .FloorDiv (.var 3) (.var 1)))] []),
    (.ret (.bin .Mod (.prim .int [(.var 3)]) (.var 1)))]
def law_taken_2 : Fn := ⟨2, 4, b_law_taken_2⟩
def b_law_negative_2 : List S := [
    (.par 2 3 (.bin .Add (.cst (.int 1)) (.call "_law_taken" [(.var 0), (.cst (.int 3))])) (.bin .Add (.cst (.int 1)) (.call "_law_taken" [(.var 0), (.var 1)]))),
    (.ret (.mkR "Negative" [(.var 2), (.var 3), (.join "" (.comp [("_law_cell", 4)] (.idx (.cst (.str "01234")) (.call "_law_taken" [(.var 0), (.cst (.int 5))])) (.var 4) .rng [(.bin .Mult (.var 2) (.var 3))] []))]))]
def law_negative_2 : Fn := ⟨2, 5, b_law_negative_2⟩
def b_Negative_width : List S := [
    (.ret (.idx (.attr (.var 0) "parts") (.cst (.int 0))))]
def Negative_width : Fn := ⟨1, 1, b_Negative_width⟩
def b_Negative_height : List S := [
    (.ret (.idx (.attr (.var 0) "parts") (.cst (.int 1))))]
def Negative_height : Fn := ⟨1, 1, b_Negative_height⟩
def b_Negative_densities : List S := [
    (.ret (.idx (.attr (.var 0) "parts") (.cst (.int 2))))]
def Negative_densities : Fn := ⟨1, 1, b_Negative_densities⟩
def b_Negative___init___1 : List S := [
    (.if_ (.not (.call "is_number" [(.var 1), (.cst (.int 1)), (.glob "MAX_SIDE")])) [.never] []),
    (.if_ (.not (.call "is_size" [(.var 1), (.var 2)])) [.never] []),
    (.if_ (.not (.call "are_figures" [(.bin .Mult (.var 1) (.var 2)), (.var 3), (.glob "FIGURES")])) [.never] []),
    (.setAttr 0 "parts" (.tup [(.var 1), (.var 2), (.var 3)]))]
def Negative___init___1 : Fn := ⟨4, 4, b_Negative___init___1⟩
def b_Negative___init___2 : List S := [
    (.if_ (.not (.call "is_number" [(.var 1), (.cst (.int 1)), (.glob "MAX_SIDE")])) [.never] []),
    (.if_ (.not (.call "is_size" [(.var 1), (.var 2)])) [.never] []),
    (.if_ (.not (.call "are_figures" [(.bin .Mult (.var 1) (.var 2)), (.var 3), (.glob "FIGURES_negatives")])) [.never] []),
    (.setAttr 0 "parts" (.tup [(.var 1), (.var 2), (.var 3)]))]
def Negative___init___2 : Fn := ⟨4, 4, b_Negative___init___2⟩
def b_Negative___len__ : List S := [
    (.ret (.lenX (.idx (.attr (.var 0) "parts") (.cst (.int 2)))))]
def Negative___len__ : Fn := ⟨1, 1, b_Negative___len__⟩
def b_Negative___eq__ : List S := [
    (.ret (.and (.isC (.var 1) "Negative") (.cmp .Eq (.attr (.var 0) "parts") (.tup [(.attr (.var 1) "width"), (.attr (.var 1) "height"), (.attr (.var 1) "densities")]))))]
def Negative___eq__ : Fn := ⟨2, 2, b_Negative___eq__⟩
def b_check_size : List S := [
    (.if_ (.not (.call "is_size" [(.var 0), (.var 1)])) [.never] [])]
def check_size : Fn := ⟨2, 2, b_check_size⟩
def b_are_cells : List S := [
    (.if_ (.or (.not (.isi (.var 1) "tuple")) (.not (.prim .all [(.comp [("cell", 2)] (.call "is_number" [(.var 2), (.cst (.int 0)), (.bin .Sub (.var 0) (.cst (.int 1)))]) (.var 2) .seq [(.var 1)] [])]))) [(.ret (.cst (.bl false)))] []),
    (.ret (.prim .all [(.comp [("one", 3), ("other", 4)] (.cmp .Lt (.var 3) (.var 4)) (.tup [(.var 3), (.var 4)]) .zp [(.var 1), (.slo (.var 1) (.cst (.int 1)))] [])]))]
def are_cells : Fn := ⟨2, 5, b_are_cells⟩
def b_are_steps : List S := [
    (.if_ (.or (.not (.isi (.var 0) "tuple")) (.not (.chain .LtE .LtE (.cst (.int 1)) (.lenX (.var 0)) (.glob "MAX_STEPS")))) [(.ret (.cst (.bl false)))] []),
    (.if_ (.not (.prim .all [(.comp [("step", 1)] (.call "is_number" [(.var 1), (.cst (.int 1)), (.glob "MAX_LIGHT")]) (.var 1) .seq [(.var 0)] [])])) [(.ret (.cst (.bl false)))] []),
    (.ret (.prim .all [(.comp [("one", 2), ("other", 3)] (.cmp .Lt (.var 2) (.var 3)) (.tup [(.var 2), (.var 3)]) .zp [(.var 0), (.slo (.var 0) (.cst (.int 1)))] [])]))]
def are_steps : Fn := ⟨1, 4, b_are_steps⟩
def b_check_steps : List S := [
    (.if_ (.not (.call "are_steps" [(.var 0)])) [.never] [])]
def check_steps : Fn := ⟨1, 1, b_check_steps⟩
def b_tone_of : List S := [
    (.ret (.lenX (.comp [("step", 2)] (.var 2) (.var 2) .seq [(.var 0)] [(.cmp .LtE (.var 2) (.var 1))])))]
def tone_of : Fn := ⟨2, 3, b_tone_of⟩
def b_check_number : List S := [
    (.if_ (.not (.call "is_number" [(.var 0), (.var 1), (.var 2)])) [.never] [])]
def check_number : Fn := ⟨3, 3, b_check_number⟩
def b_law_steps : List S := [
    (.par 1 2 (.lst []) (.cst (.int 0))),
    (.for_ (.var 3) .rng [(.bin .Add (.cst (.int 1)) (.call "_law_taken" [(.var 0), (.cst (.int 5))]))] [(.asg (.var 2) (.bin .Add (.bin .Add (.var 2) (.cst (.int 1))) (.call "_law_taken" [(.var 0), (.idx (.lst [(.cst (.int 8)), (.cst (.int 60)), (.cst (.int 200))]) (.call "_law_taken" [(.var 0), (.cst (.int 3))]))]))), (.expr (.app 1 (.var 2)))]),
    (.ret (.prim .tup [(.var 1)]))]
def law_steps : Fn := ⟨1, 4, b_law_steps⟩
def b_law_12 : List S := [
    (.newRow 1 [(.var 0), (.cst (.int 0)), (.cst (.int 0)), (.cst (.int 0))]),
    (.for_ (.var 2) .rng [(.cst (.int 8))] [(.asg (.var 3) (.call "_law_negative" [(.var 1), (.cst (.int 3))])), (.asg (.var 3) (.ite (.cmp .Eq (.call "_law_taken" [(.var 1), (.cst (.int 5))]) (.cst (.int 0))) (.mkR "Negative" [(.cst (.int 4)), (.cst (.int 2)), (.cst (.str "01234321"))]) (.var 3))), (.asg (.var 4) (.bin .Add (.lst [(.cst (.int 107)), (.attr (.var 3) "width"), (.attr (.var 3) "height")]) (.comp [("_law_figure", 5)] (.prim .int [(.var 5)]) (.var 5) .seq [(.attr (.var 3) "densities")] []))), (.if_ (.or (.cmp .NotEq (.call "encode_negative" [(.var 3)]) (.call "_law_checked" [(.var 4)])) (.eqR true (.callT "decode_negative" [(.call "_law_checked" [(.var 4)])]) (.var 3))) [(.ret (.cst (.bl false)))] [])]),
    (.ret (.cst (.bl true)))]
def law_12 : Fn := ⟨1, 6, b_law_12⟩
def b_law_open : List S := [
    (.if_ (.cmp .Eq (.idx (.var 1) (.cst (.int 0))) (.cst (.str "flip"))) [(.ret (.bin .Mult (.lst [(.cst (.int 0))]) (.lenX (.var 0))))] []),
    (.if_ (.cmp .Eq (.idx (.var 1) (.cst (.int 0))) (.cst (.str "expose"))) [(.ret (.comp [("_law_cell", 2)] (.bin .Mult (.idx (.var 1) (.cst (.int 1))) (.prim .int [(.cmp .NotIn (.var 2) (.idx (.var 1) (.cst (.int 2))))])) (.var 2) .rng [(.lenX (.var 0))] []))] []),
    (.ret (.comp [("_law_cell", 2)] (.prim .max2 [(.cst (.int 0)), (.bin .Sub (.idx (.var 1) (.cst (.int 1))) (.bin .Mult (.idx (.var 1) (.cst (.int 2))) (.bin .Mod (.prim .int [(.var 2)]) (.attr (.var 0) "width"))))]) (.var 2) .rng [(.lenX (.var 0))] []))]
def law_open : Fn := ⟨2, 3, b_law_open⟩
def b_law_lights : List S := [
    (.par3 2 3 4 (.bin .Mult (.lst [(.cst (.int 0))]) (.lenX (.var 0))) (.cst (.bl false)) (.attr (.var 0) "width")),
    (.for_ (.var 5) .seq [(.var 1)] [(.asg (.var 3) (.cmp .NotEq (.var 3) (.cmp .Eq (.idx (.var 5) (.cst (.int 0))) (.cst (.str "flip"))))), (.asg (.var 6) (.call "_law_open" [(.var 0), (.var 5)])), (.for_ (.var 7) .rng [(.lenX (.var 0))] [(.asg (.var 8) (.bin .Mod (.prim .int [(.var 7)]) (.var 4))), (.asg (.var 9) (.ite (.var 3) (.bin .Sub (.bin .Sub (.bin .Add (.var 7) (.var 4)) (.cst (.int 1))) (.bin .Mult (.cst (.int 2)) (.var 8))) (.var 7))), (.setIdx 2 (.var 7) (.bin .Add (.idx (.var 2) (.var 7)) (.bin .Mult (.idx (.var 6) (.var 7)) (.idx (.lst [(.cst (.int 16)), (.cst (.int 8)), (.cst (.int 4)), (.cst (.int 2)), (.cst (.int 1))]) (.prim .int [(.idx (.attr (.var 0) "densities") (.var 9))])))))])]),
    (.ret (.tup [(.var 2), (.var 3)]))]
def law_lights : Fn := ⟨2, 10, b_law_lights⟩
def b_checksum : List S := [
    (.asg (.var 1) (.glob "CHECK_START")),
    (.for_ (.var 2) .seq [(.var 0)] [(.asg (.var 1) (.bin .Mod (.prim .int [(.bin .Add (.bin .Mult (.glob "CHECK_TIMES") (.var 1)) (.var 2))]) (.glob "CHECK_REST")))]),
    (.ret (.var 1))]
def checksum : Fn := ⟨1, 3, b_checksum⟩
def b_encode_negative : List S := [
    (.asg (.var 1) (.dsp false [false, false, false, true] [(.glob "FIRST"), (.attr (.var 0) "width"), (.attr (.var 0) "height"), (.comp [("figure", 2)] (.prim .int [(.var 2)]) (.var 2) .seq [(.attr (.var 0) "densities")] [])])),
    (.ret (.dsp false [true, false] [(.var 1), (.call "checksum" [(.var 1)])]))]
def encode_negative : Fn := ⟨1, 3, b_encode_negative⟩
def b_decode_negative : List S := [
    (.asg (.var 1) (.mkI "Reader" [(.var 0)])),
    (.expr (.mcl (.var 1) "item" [(.glob "FIRST"), (.glob "FIRST")])),
    (.par 2 3 (.mcl (.var 1) "item" [(.cst (.int 1)), (.glob "MAX_SIDE")]) (.mcl (.var 1) "item" [(.cst (.int 1)), (.glob "MAX_SIDE")])),
    (.asg (.var 4) (.mcl (.var 1) "read_densities" [(.bin .Mult (.var 2) (.var 3))])),
    (.expr (.mcl (.var 1) "finish" [])),
    (.ret (.mkR "Negative" [(.var 2), (.var 3), (.var 4)]))]
def decode_negative : Fn := ⟨1, 5, b_decode_negative⟩
def b_law_checked : List S := [
    (.asg (.var 1) (.cst (.int 11))),
    (.for_ (.var 2) .seq [(.var 0)] [(.asg (.var 1) (.bin .Mod (.prim .int [(.bin .Add (.bin .Mult (.cst (.int 19)) (.var 1)) (.var 2))]) (.cst (.int 223))))]),
    (.ret (.bin .Add (.var 0) (.lst [(.var 1)])))]
def law_checked : Fn := ⟨1, 3, b_law_checked⟩
def b_Reader___init__ : List S := [
    (.setAttr 0 "data" (.var 1)),
    (.setAttr 0 "spot" (.cst (.int 0)))]
def Reader___init__ : Fn := ⟨2, 2, b_Reader___init__⟩
def b_Reader_item : List S := [
    (.if_ (.or (.cmp .GtE (.attr (.var 0) "spot") (.lenX (.attr (.var 0) "data"))) (.not (.call "is_number" [(.idx (.attr (.var 0) "data") (.attr (.var 0) "spot")), (.var 1), (.var 2)]))) [.never] []),
    (.augAttr 0 "spot" .Add (.cst (.int 1))),
    (.ret (.idx (.attr (.var 0) "data") (.bin .Sub (.attr (.var 0) "spot") (.cst (.int 1)))))]
def Reader_item : Fn := ⟨3, 3, b_Reader_item⟩
def b_Reader_read_densities : List S := [
    (.ret (.join "" (.comp [("turn", 2)] (.idx (.glob "FIGURES") (.mcl (.var 0) "item" [(.cst (.int 0)), (.bin .Sub (.lenX (.glob "FIGURES")) (.cst (.int 1)))])) (.var 2) .rng [(.var 1)] [])))]
def Reader_read_densities : Fn := ⟨2, 3, b_Reader_read_densities⟩
def b_Reader_finish : List S := [
    (.asg (.var 1) (.call "checksum" [(.shi (.attr (.var 0) "data") (.attr (.var 0) "spot"))])),
    (.expr (.mcl (.var 0) "item" [(.var 1), (.var 1)])),
    (.if_ (.cmp .Lt (.attr (.var 0) "spot") (.lenX (.attr (.var 0) "data"))) [.never] [])]
def Reader_finish : Fn := ⟨1, 2, b_Reader_finish⟩
end PI.B

set_option linter.all false
set_option maxRecDepth 100000
set_option maxHeartbeats 4000000
namespace PI.Law
open PySem L2 PI
def top (i : Nat) : Stmt := PySem.Challenge.pw_maskedprints_k44_codes_there_and_back.main.body.getD i (.Pass ⟨0, 0, 0, 0⟩)
def topM (i j : Nat) : Stmt := match top i with
  | .ClassDef _ _ _ b _ _ _ _ _ _ _ => b.getD j (.Pass ⟨0, 0, 0, 0⟩)
  | s => s
def b_is_number : List S := [
    (.ret (.and (.isi (.var 0) "int") (.and (.not (.isi (.var 0) "bool")) (.chain .LtE .LtE (.var 1) (.var 0) (.var 2)))))]
def d_is_number : DefC := ⟨"is_number", true, "is_number", "is_number", top 8, ["value", "smallest", "largest"], ["value", "smallest", "largest"], ⟨3, 3, b_is_number⟩⟩
def b_are_figures : List S := [
    (.ret (.and (.isi (.var 1) "str") (.and (.cmp .Eq (.lenX (.var 1)) (.var 0)) (.prim .all [(.comp [("figure", 3)] (.cmp .In (.var 3) (.var 2)) (.var 3) .seq [(.var 1)] [])]))))]
def d_are_figures : DefC := ⟨"are_figures", true, "are_figures", "are_figures", top 9, ["size", "value", "figures", "figure"], ["size", "value", "figures"], ⟨3, 4, b_are_figures⟩⟩
def b_is_size : List S := [
    (.ret (.and (.call "is_number" [(.var 0), (.cst (.int 1)), (.glob "MAX_SIDE")]) (.and (.call "is_number" [(.var 1), (.cst (.int 1)), (.glob "MAX_SIDE")]) (.cmp .LtE (.bin .Mult (.var 0) (.var 1)) (.glob "MAX_CELLS")))))]
def d_is_size : DefC := ⟨"is_size", true, "is_size", "is_size", top 10, ["width", "height"], ["width", "height"], ⟨2, 2, b_is_size⟩⟩
def b_Negative___init__ : List S := [
    (.if_ (.not (.call "is_number" [(.var 1), (.cst (.int 1)), (.glob "MAX_SIDE")])) [.never] []),
    (.if_ (.not (.call "is_size" [(.var 1), (.var 2)])) [.never] []),
    (.if_ (.not (.call "are_figures" [(.bin .Mult (.var 1) (.var 2)), (.var 3), (.glob "FIGURES")])) [.never] []),
    (.setAttr 0 "parts" (.tup [(.var 1), (.var 2), (.var 3)]))]
def d_Negative___init__ : DefC := ⟨"Negative.__init__", false, "__init__", "Negative.__init__", topM 11 1, ["self", "width", "height", "densities"], ["self", "width", "height", "densities"], ⟨4, 4, b_Negative___init__⟩⟩
def b_Negative_width : List S := [
    (.ret (.idx (.attr (.var 0) "parts") (.cst (.int 0))))]
def d_Negative_width : DefC := ⟨"Negative.width", false, "width", "Negative.width", topM 11 2, ["self"], ["self"], ⟨1, 1, b_Negative_width⟩⟩
def b_Negative_height : List S := [
    (.ret (.idx (.attr (.var 0) "parts") (.cst (.int 1))))]
def d_Negative_height : DefC := ⟨"Negative.height", false, "height", "Negative.height", topM 11 3, ["self"], ["self"], ⟨1, 1, b_Negative_height⟩⟩
def b_Negative_densities : List S := [
    (.ret (.idx (.attr (.var 0) "parts") (.cst (.int 2))))]
def d_Negative_densities : DefC := ⟨"Negative.densities", false, "densities", "Negative.densities", topM 11 4, ["self"], ["self"], ⟨1, 1, b_Negative_densities⟩⟩
def b_Negative___len__ : List S := [
    (.ret (.lenX (.idx (.attr (.var 0) "parts") (.cst (.int 2)))))]
def d_Negative___len__ : DefC := ⟨"Negative.__len__", false, "__len__", "Negative.__len__", topM 11 5, ["self"], ["self"], ⟨1, 1, b_Negative___len__⟩⟩
def b_Negative___eq__ : List S := [
    (.ret (.and (.isC (.var 1) "Negative") (.cmp .Eq (.attr (.var 0) "parts") (.tup [(.attr (.var 1) "width"), (.attr (.var 1) "height"), (.attr (.var 1) "densities")]))))]
def d_Negative___eq__ : DefC := ⟨"Negative.__eq__", false, "__eq__", "Negative.__eq__", topM 11 6, ["self", "other"], ["self", "other"], ⟨2, 2, b_Negative___eq__⟩⟩
def b_checksum : List S := [
    (.asg (.var 1) (.glob "CHECK_START")),
    (.for_ (.var 2) .seq [(.var 0)] [(.asg (.var 1) (.bin .Mod (.prim .int [(.bin .Add (.bin .Mult (.glob "CHECK_TIMES") (.var 1)) (.var 2))]) (.glob "CHECK_REST")))]),
    (.ret (.var 1))]
def d_checksum : DefC := ⟨"checksum", true, "checksum", "checksum", top 17, ["values", "found", "value"], ["values"], ⟨1, 3, b_checksum⟩⟩
def b_encode_negative : List S := [
    (.asg (.var 1) (.dsp false [false, false, false, true] [(.glob "FIRST"), (.attr (.var 0) "width"), (.attr (.var 0) "height"), (.comp [("figure", 2)] (.prim .int [(.var 2)]) (.var 2) .seq [(.attr (.var 0) "densities")] [])])),
    (.ret (.dsp false [true, false] [(.var 1), (.call "checksum" [(.var 1)])]))]
def d_encode_negative : DefC := ⟨"encode_negative", true, "encode_negative", "encode_negative", top 18, ["negative", "found", "figure"], ["negative"], ⟨1, 3, b_encode_negative⟩⟩
def b_Reader___init__ : List S := [
    (.setAttr 0 "data" (.var 1)),
    (.setAttr 0 "spot" (.cst (.int 0)))]
def d_Reader___init__ : DefC := ⟨"Reader.__init__", false, "__init__", "Reader.__init__", topM 19 0, ["self", "values"], ["self", "values"], ⟨2, 2, b_Reader___init__⟩⟩
def b_Reader_item : List S := [
    (.if_ (.or (.cmp .GtE (.attr (.var 0) "spot") (.lenX (.attr (.var 0) "data"))) (.not (.call "is_number" [(.idx (.attr (.var 0) "data") (.attr (.var 0) "spot")), (.var 1), (.var 2)]))) [.never] []),
    (.augAttr 0 "spot" .Add (.cst (.int 1))),
    (.ret (.idx (.attr (.var 0) "data") (.bin .Sub (.attr (.var 0) "spot") (.cst (.int 1)))))]
def d_Reader_item : DefC := ⟨"Reader.item", false, "item", "Reader.item", topM 19 1, ["self", "low", "high"], ["self", "low", "high"], ⟨3, 3, b_Reader_item⟩⟩
def b_Reader_read_densities : List S := [
    (.ret (.join "" (.comp [("turn", 2)] (.idx (.glob "FIGURES") (.mcl (.var 0) "item" [(.cst (.int 0)), (.bin .Sub (.lenX (.glob "FIGURES")) (.cst (.int 1)))])) (.var 2) .rng [(.var 1)] [])))]
def d_Reader_read_densities : DefC := ⟨"Reader.read_densities", false, "read_densities", "Reader.read_densities", topM 19 2, ["self", "size", "turn"], ["self", "size"], ⟨2, 3, b_Reader_read_densities⟩⟩
def b_Reader_finish : List S := [
    (.asg (.var 1) (.call "checksum" [(.shi (.attr (.var 0) "data") (.attr (.var 0) "spot"))])),
    (.expr (.mcl (.var 0) "item" [(.var 1), (.var 1)])),
    (.if_ (.cmp .Lt (.attr (.var 0) "spot") (.lenX (.attr (.var 0) "data"))) [.never] [])]
def d_Reader_finish : DefC := ⟨"Reader.finish", false, "finish", "Reader.finish", topM 19 3, ["self", "check"], ["self"], ⟨1, 2, b_Reader_finish⟩⟩
def b_decode_negative : List S := [
    (.asg (.var 1) (.mkI "Reader" [(.var 0)])),
    (.expr (.mcl (.var 1) "item" [(.glob "FIRST"), (.glob "FIRST")])),
    (.par 2 3 (.mcl (.var 1) "item" [(.cst (.int 1)), (.glob "MAX_SIDE")]) (.mcl (.var 1) "item" [(.cst (.int 1)), (.glob "MAX_SIDE")])),
    (.asg (.var 4) (.mcl (.var 1) "read_densities" [(.bin .Mult (.var 2) (.var 3))])),
    (.expr (.mcl (.var 1) "finish" [])),
    (.ret (.mkR "Negative" [(.var 2), (.var 3), (.var 4)]))]
def d_decode_negative : DefC := ⟨"decode_negative", true, "decode_negative", "decode_negative", top 20, ["values", "reader", "width", "height", "densities"], ["values"], ⟨1, 5, b_decode_negative⟩⟩
def b_law_taken : List S := [
    (.if_ (.cmp .Gt (.idx (.var 0) (.cst (.int 3))) (.cst (.int 0))) [(.asg (.var 2) (.bin .Mod (.prim .int [(.idx (.var 0) (.cst (.int 3)))]) (.var 1))), (.setIdx 0 (.cst (.int 3)) (.bin .FloorDiv (.idx (.var 0) (.cst (.int 3))) (.var 1))), (.ret (.var 2))] []),
    (.setIdx 0 (.cst (.int 1)) (.bin .Add (.idx (.var 0) (.cst (.int 1))) (.cst (.int 1)))),
    (.if_ (.cmp .Gt (.idx (.var 0) (.cst (.int 1))) (.lenX (.idx (.var 0) (.cst (.int 0))))) [(.setIdx 0 (.cst (.int 2)) (.bin .Mod (.prim .int [(.bin .Add (.bin .Mult (.idx (.var 0) (.cst (.int 2))) (.cst (.int 48271))) (.cst (.int 11)))]) (.cst (.int 2147483647)))), (.ret (.bin .Mod (.prim .int [(.bin .FloorDiv (.idx (.var 0) (.cst (.int 2))) (.cst (.int 7)))]) (.var 1)))] []),
    (.asg (.var 3) (.idx (.idx (.var 0) (.cst (.int 0))) (.bin .Sub (.idx (.var 0) (.cst (.int 1))) (.cst (.int 1))))),
    (.setIdx 0 (.cst (.int 2)) (.bin .Mod (.prim .int [(.bin .Add (.bin .Add (.bin .Mult (.idx (.var 0) (.cst (.int 2))) (.cst (.int 48271))) (.var 3)) (.cst (.int 11)))]) (.cst (.int 2147483647)))),
    (.if_ (.cmp .GtE (.var 3) (.bin .Pow (.cst (.int 10)) (.cst (.int 18)))) [(.setIdx 0 (.cst (.int 3)) (.bin .FloorDiv (.var 3) (.var 1)))] []),
    (.ret (.bin .Mod (.prim .int [(.var 3)]) (.var 1)))]
def d_law_taken : DefC := ⟨"_law_taken", true, "_law_taken", "_law_taken", top 22, ["_law_row", "_law_many", "_law_found", "_law_cell"], ["_law_row", "_law_many"], ⟨2, 4, b_law_taken⟩⟩
def b_law_negative : List S := [
    (.par 2 3 (.bin .Add (.cst (.int 1)) (.call "_law_taken" [(.var 0), (.cst (.int 3))])) (.bin .Add (.cst (.int 1)) (.call "_law_taken" [(.var 0), (.var 1)]))),
    (.ret (.mkR "Negative" [(.var 2), (.var 3), (.join "" (.comp [("_law_cell", 4)] (.idx (.cst (.str "01234")) (.call "_law_taken" [(.var 0), (.cst (.int 5))])) (.var 4) .rng [(.bin .Mult (.var 2) (.var 3))] []))]))]
def d_law_negative : DefC := ⟨"_law_negative", true, "_law_negative", "_law_negative", top 23, ["_law_row", "_law_most", "_law_width", "_law_height", "_law_cell"], ["_law_row", "_law_most"], ⟨2, 5, b_law_negative⟩⟩
def b_law_checked : List S := [
    (.asg (.var 1) (.cst (.int 11))),
    (.for_ (.var 2) .seq [(.var 0)] [(.asg (.var 1) (.bin .Mod (.prim .int [(.bin .Add (.bin .Mult (.cst (.int 19)) (.var 1)) (.var 2))]) (.cst (.int 223))))]),
    (.ret (.bin .Add (.var 0) (.lst [(.var 1)])))]
def d_law_checked : DefC := ⟨"_law_checked", true, "_law_checked", "_law_checked", top 24, ["_law_items", "_law_check", "_law_item"], ["_law_items"], ⟨1, 3, b_law_checked⟩⟩
def b_law : List S := [
    (.newRow 1 [(.var 0), (.cst (.int 0)), (.cst (.int 0)), (.cst (.int 0))]),
    (.for_ (.var 2) .rng [(.cst (.int 8))] [(.asg (.var 3) (.call "_law_negative" [(.var 1), (.cst (.int 3))])), (.asg (.var 3) (.ite (.cmp .Eq (.call "_law_taken" [(.var 1), (.cst (.int 5))]) (.cst (.int 0))) (.mkR "Negative" [(.cst (.int 4)), (.cst (.int 2)), (.cst (.str "01234321"))]) (.var 3))), (.asg (.var 4) (.bin .Add (.lst [(.cst (.int 107)), (.attr (.var 3) "width"), (.attr (.var 3) "height")]) (.comp [("_law_figure", 5)] (.prim .int [(.var 5)]) (.var 5) .seq [(.attr (.var 3) "densities")] []))), (.if_ (.or (.cmp .NotEq (.call "encode_negative" [(.var 3)]) (.call "_law_checked" [(.var 4)])) (.eqR true (.callT "decode_negative" [(.call "_law_checked" [(.var 4)])]) (.var 3))) [(.ret (.cst (.bl false)))] [])]),
    (.ret (.cst (.bl true)))]
def d_law : DefC := ⟨"law", true, "law", "law", top 25, ["_law_script", "_law_row", "_law_turn", "_law_negative_here", "_law_items", "_law_figure"], ["_law_script"], ⟨1, 6, b_law⟩⟩
def defs : List DefC := [d_is_number, d_are_figures, d_is_size, d_Negative___init__, d_Negative_width, d_Negative_height, d_Negative_densities, d_Negative___len__, d_Negative___eq__, d_checksum, d_encode_negative, d_Reader___init__, d_Reader_item, d_Reader_read_densities, d_Reader_finish, d_decode_negative, d_law_taken, d_law_negative, d_law_checked, d_law]
def gs : List (Str × PV) := [("CHECK_REST", (.int 223)), ("CHECK_START", (.int 11)), ("CHECK_TIMES", (.int 19)), ("FIGURES", (.str "01234")), ("FIRST", (.int 107)), ("MAX_CELLS", (.int 9)), ("MAX_SIDE", (.int 4))]
def bi : List Str := ["all", "bool", "int", "isinstance", "len", "range", "str"]
def cls : List ClsC := [⟨"Negative", true, [("parts", .slot 0), ("width", .prop "Negative.width"), ("height", .prop "Negative.height"), ("densities", .prop "Negative.densities"), ("__init__", .meth "Negative.__init__" 4), ("__len__", .meth "Negative.__len__" 1), ("__eq__", .meth "Negative.__eq__" 2), ("__ne__", .neO), ("__class__", .isi)], false⟩, ⟨"Reader", true, [("data", .fld), ("spot", .fld), ("__init__", .methI "Reader.__init__" 2), ("item", .methI "Reader.item" 3), ("read_densities", .methI "Reader.read_densities" 2), ("finish", .methI "Reader.finish" 1)], true⟩]
abbrev tx : Tx := ⟨defs, gs, bi, cls⟩
theorem checked : tx.defs.all (ckDef (ckOf tx)) = true := by decide +kernel
theorem found : tx.defs.find? (fun e => decide (e.nm = ("law" : Str))) = some d_law := rfl
theorem head {K : PySem.W.Frag} {h : Heap} {mg : Str → Option Value} (X : K.In h) (G : h.Ns mainGlobals mg)
    {f0 : Addr} (a0 : PySem.W.nsIn K mainGlobals "is_number" = some (some (.ref f0)))
    {od0 an0 : Option Addr} {sl0 : Array (Option Value)} {oc0 kV0 dc0 pm0 cd0 ct0 : Value}
    (l0 : K.lookup f0 = some ⟨oc0, od0, .func (PySem.W.fnOf "is_number" "is_number" (defArgs (top 8)) (defBody (top 8)) (defScope (top 8)) .none kV0 dc0 pm0 an0 cd0 ct0), sl0⟩) (c0 : PySem.W.codeIn K cd0 "is_number" = true) (k0 : PySem.W.keepIn K (.ref f0) = true)
    {f1 : Addr} (a1 : PySem.W.nsIn K mainGlobals "are_figures" = some (some (.ref f1)))
    {od1 an1 : Option Addr} {sl1 : Array (Option Value)} {oc1 kV1 dc1 pm1 cd1 ct1 : Value}
    (l1 : K.lookup f1 = some ⟨oc1, od1, .func (PySem.W.fnOf "are_figures" "are_figures" (defArgs (top 9)) (defBody (top 9)) (defScope (top 9)) .none kV1 dc1 pm1 an1 cd1 ct1), sl1⟩) (c1 : PySem.W.codeIn K cd1 "are_figures" = true) (k1 : PySem.W.keepIn K (.ref f1) = true)
    {f2 : Addr} (a2 : PySem.W.nsIn K mainGlobals "is_size" = some (some (.ref f2)))
    {od2 an2 : Option Addr} {sl2 : Array (Option Value)} {oc2 kV2 dc2 pm2 cd2 ct2 : Value}
    (l2 : K.lookup f2 = some ⟨oc2, od2, .func (PySem.W.fnOf "is_size" "is_size" (defArgs (top 10)) (defBody (top 10)) (defScope (top 10)) .none kV2 dc2 pm2 an2 cd2 ct2), sl2⟩) (c2 : PySem.W.codeIn K cd2 "is_size" = true) (k2 : PySem.W.keepIn K (.ref f2) = true)
    {f9 : Addr} (a9 : PySem.W.nsIn K mainGlobals "checksum" = some (some (.ref f9)))
    {od9 an9 : Option Addr} {sl9 : Array (Option Value)} {oc9 kV9 dc9 pm9 cd9 ct9 : Value}
    (l9 : K.lookup f9 = some ⟨oc9, od9, .func (PySem.W.fnOf "checksum" "checksum" (defArgs (top 17)) (defBody (top 17)) (defScope (top 17)) .none kV9 dc9 pm9 an9 cd9 ct9), sl9⟩) (c9 : PySem.W.codeIn K cd9 "checksum" = true) (k9 : PySem.W.keepIn K (.ref f9) = true)
    {f10 : Addr} (a10 : PySem.W.nsIn K mainGlobals "encode_negative" = some (some (.ref f10)))
    {od10 an10 : Option Addr} {sl10 : Array (Option Value)} {oc10 kV10 dc10 pm10 cd10 ct10 : Value}
    (l10 : K.lookup f10 = some ⟨oc10, od10, .func (PySem.W.fnOf "encode_negative" "encode_negative" (defArgs (top 18)) (defBody (top 18)) (defScope (top 18)) .none kV10 dc10 pm10 an10 cd10 ct10), sl10⟩) (c10 : PySem.W.codeIn K cd10 "encode_negative" = true) (k10 : PySem.W.keepIn K (.ref f10) = true)
    {f15 : Addr} (a15 : PySem.W.nsIn K mainGlobals "decode_negative" = some (some (.ref f15)))
    {od15 an15 : Option Addr} {sl15 : Array (Option Value)} {oc15 kV15 dc15 pm15 cd15 ct15 : Value}
    (l15 : K.lookup f15 = some ⟨oc15, od15, .func (PySem.W.fnOf "decode_negative" "decode_negative" (defArgs (top 20)) (defBody (top 20)) (defScope (top 20)) .none kV15 dc15 pm15 an15 cd15 ct15), sl15⟩) (c15 : PySem.W.codeIn K cd15 "decode_negative" = true) (k15 : PySem.W.keepIn K (.ref f15) = true)
    {f16 : Addr} (a16 : PySem.W.nsIn K mainGlobals "_law_taken" = some (some (.ref f16)))
    {od16 an16 : Option Addr} {sl16 : Array (Option Value)} {oc16 kV16 dc16 pm16 cd16 ct16 : Value}
    (l16 : K.lookup f16 = some ⟨oc16, od16, .func (PySem.W.fnOf "_law_taken" "_law_taken" (defArgs (top 22)) (defBody (top 22)) (defScope (top 22)) .none kV16 dc16 pm16 an16 cd16 ct16), sl16⟩) (c16 : PySem.W.codeIn K cd16 "_law_taken" = true) (k16 : PySem.W.keepIn K (.ref f16) = true)
    {f17 : Addr} (a17 : PySem.W.nsIn K mainGlobals "_law_negative" = some (some (.ref f17)))
    {od17 an17 : Option Addr} {sl17 : Array (Option Value)} {oc17 kV17 dc17 pm17 cd17 ct17 : Value}
    (l17 : K.lookup f17 = some ⟨oc17, od17, .func (PySem.W.fnOf "_law_negative" "_law_negative" (defArgs (top 23)) (defBody (top 23)) (defScope (top 23)) .none kV17 dc17 pm17 an17 cd17 ct17), sl17⟩) (c17 : PySem.W.codeIn K cd17 "_law_negative" = true) (k17 : PySem.W.keepIn K (.ref f17) = true)
    {f18 : Addr} (a18 : PySem.W.nsIn K mainGlobals "_law_checked" = some (some (.ref f18)))
    {od18 an18 : Option Addr} {sl18 : Array (Option Value)} {oc18 kV18 dc18 pm18 cd18 ct18 : Value}
    (l18 : K.lookup f18 = some ⟨oc18, od18, .func (PySem.W.fnOf "_law_checked" "_law_checked" (defArgs (top 24)) (defBody (top 24)) (defScope (top 24)) .none kV18 dc18 pm18 an18 cd18 ct18), sl18⟩) (c18 : PySem.W.codeIn K cd18 "_law_checked" = true) (k18 : PySem.W.keepIn K (.ref f18) = true)
    {f19 : Addr} (a19 : PySem.W.nsIn K mainGlobals "law" = some (some (.ref f19)))
    {od19 an19 : Option Addr} {sl19 : Array (Option Value)} {oc19 kV19 dc19 pm19 cd19 ct19 : Value}
    (l19 : K.lookup f19 = some ⟨oc19, od19, .func (PySem.W.fnOf "law" "law" (defArgs (top 25)) (defBody (top 25)) (defScope (top 25)) .none kV19 dc19 pm19 an19 cd19 ct19), sl19⟩) (c19 : PySem.W.codeIn K cd19 "law" = true) (k19 : PySem.W.keepIn K (.ref f19) = true)
    {C0 : Addr} (cn0 : PySem.W.nsIn K mainGlobals "Negative" = some (some (.ref C0))) (cs0 : PySem.W.plainGet K C0 Str.empty = true) (ci0 : PySem.W.isClsIn K C0 = true) (co0 : PySem.W.plainOver K C0 = true)
    (ca0 : PySem.W.findIn K (.ref C0) "__setattr__" = some (some (.builtin "object.__setattr__"))) (cm0 : PySem.W.makesIn K C0 = true) (ck0 : PySem.W.keepIn K (.ref C0) = true)
    {p0_0 : Addr} (sa0_0 : PySem.W.findIn K (.ref C0) "parts" = some (some (.ref p0_0))) (sb0_0 : PySem.W.specialIn K (.ref p0_0) "__get__" = some (some (.builtin "member_descriptor.__get__")))
    (sc0_0 : PySem.W.takesIn K (.ref p0_0) = some true) (sd0_0 : PySem.W.typeIn K (.ref p0_0) = some (.type "member_descriptor")) (se0_0 : PySem.W.slotIn K p0_0 C0 = some 0)
    (nea0 : PySem.W.findIn K (.ref C0) "__ne__" = some (some (.builtin "object.__ne__"))) (neb0 : PySem.W.mroIn K C0 (.type "object") = some true)
    (sia0 : PySem.W.findIn K (.ref C0) "__class__" = some (some (.builtin "object.__class__"))) (sib0 : PySem.W.specialIn K (.builtin "object.__class__") "__get__" = some (some (.builtin "getset_descriptor.__get__"))) (sic0 : PySem.W.takesIn K (.builtin "object.__class__") = some true) (sid0 : PySem.W.mroIn K C0 (.type "object") = some true)
    {f4 r4 : Addr} {rest4 : List Value} (pa4 : PySem.W.findIn K (.ref C0) "width" = some (some (.ref r4))) (pb4 : PySem.W.specialIn K (.ref r4) "__get__" = some (some (.builtin "property.__get__")))
    (pc4 : PySem.W.takesIn K (.ref r4) = some true) (pd4 : PySem.W.recIn K r4 "property" = some (.ref f4 :: rest4))
    {od4 an4 : Option Addr} {sl4 : Array (Option Value)} {oc4 kV4 dc4 pm4 cd4 ct4 : Value}
    (l4 : K.lookup f4 = some ⟨oc4, od4, .func (PySem.W.fnOf "width" "Negative.width" (defArgs (topM 11 2)) (defBody (topM 11 2)) (defScope (topM 11 2)) .none kV4 dc4 pm4 an4 cd4 ct4), sl4⟩) (c4 : PySem.W.codeIn K cd4 "Negative.width" = true) (k4 : PySem.W.keepIn K (.ref f4) = true)
    {f5 r5 : Addr} {rest5 : List Value} (pa5 : PySem.W.findIn K (.ref C0) "height" = some (some (.ref r5))) (pb5 : PySem.W.specialIn K (.ref r5) "__get__" = some (some (.builtin "property.__get__")))
    (pc5 : PySem.W.takesIn K (.ref r5) = some true) (pd5 : PySem.W.recIn K r5 "property" = some (.ref f5 :: rest5))
    {od5 an5 : Option Addr} {sl5 : Array (Option Value)} {oc5 kV5 dc5 pm5 cd5 ct5 : Value}
    (l5 : K.lookup f5 = some ⟨oc5, od5, .func (PySem.W.fnOf "height" "Negative.height" (defArgs (topM 11 3)) (defBody (topM 11 3)) (defScope (topM 11 3)) .none kV5 dc5 pm5 an5 cd5 ct5), sl5⟩) (c5 : PySem.W.codeIn K cd5 "Negative.height" = true) (k5 : PySem.W.keepIn K (.ref f5) = true)
    {f6 r6 : Addr} {rest6 : List Value} (pa6 : PySem.W.findIn K (.ref C0) "densities" = some (some (.ref r6))) (pb6 : PySem.W.specialIn K (.ref r6) "__get__" = some (some (.builtin "property.__get__")))
    (pc6 : PySem.W.takesIn K (.ref r6) = some true) (pd6 : PySem.W.recIn K r6 "property" = some (.ref f6 :: rest6))
    {od6 an6 : Option Addr} {sl6 : Array (Option Value)} {oc6 kV6 dc6 pm6 cd6 ct6 : Value}
    (l6 : K.lookup f6 = some ⟨oc6, od6, .func (PySem.W.fnOf "densities" "Negative.densities" (defArgs (topM 11 4)) (defBody (topM 11 4)) (defScope (topM 11 4)) .none kV6 dc6 pm6 an6 cd6 ct6), sl6⟩) (c6 : PySem.W.codeIn K cd6 "Negative.densities" = true) (k6 : PySem.W.keepIn K (.ref f6) = true)
    {f3 : Addr} (ma3 : PySem.W.findIn K (.ref C0) "__init__" = some (some (.ref f3))) (mb3 : PySem.W.isFn K (.ref f3) = true)
    {od3 an3 : Option Addr} {sl3 : Array (Option Value)} {oc3 kV3 dc3 pm3 cd3 ct3 : Value}
    (l3 : K.lookup f3 = some ⟨oc3, od3, .func (PySem.W.fnOf "__init__" "Negative.__init__" (defArgs (topM 11 1)) (defBody (topM 11 1)) (defScope (topM 11 1)) .none kV3 dc3 pm3 an3 cd3 ct3), sl3⟩) (c3 : PySem.W.codeIn K cd3 "Negative.__init__" = true) (k3 : PySem.W.keepIn K (.ref f3) = true)
    {f7 : Addr} (ma7 : PySem.W.findIn K (.ref C0) "__len__" = some (some (.ref f7))) (mb7 : PySem.W.isFn K (.ref f7) = true)
    {od7 an7 : Option Addr} {sl7 : Array (Option Value)} {oc7 kV7 dc7 pm7 cd7 ct7 : Value}
    (l7 : K.lookup f7 = some ⟨oc7, od7, .func (PySem.W.fnOf "__len__" "Negative.__len__" (defArgs (topM 11 5)) (defBody (topM 11 5)) (defScope (topM 11 5)) .none kV7 dc7 pm7 an7 cd7 ct7), sl7⟩) (c7 : PySem.W.codeIn K cd7 "Negative.__len__" = true) (k7 : PySem.W.keepIn K (.ref f7) = true)
    {f8 : Addr} (ma8 : PySem.W.findIn K (.ref C0) "__eq__" = some (some (.ref f8))) (mb8 : PySem.W.isFn K (.ref f8) = true)
    {od8 an8 : Option Addr} {sl8 : Array (Option Value)} {oc8 kV8 dc8 pm8 cd8 ct8 : Value}
    (l8 : K.lookup f8 = some ⟨oc8, od8, .func (PySem.W.fnOf "__eq__" "Negative.__eq__" (defArgs (topM 11 6)) (defBody (topM 11 6)) (defScope (topM 11 6)) .none kV8 dc8 pm8 an8 cd8 ct8), sl8⟩) (c8 : PySem.W.codeIn K cd8 "Negative.__eq__" = true) (k8 : PySem.W.keepIn K (.ref f8) = true)
    {C1 : Addr} (cn1 : PySem.W.nsIn K mainGlobals "Reader" = some (some (.ref C1))) (cs1 : PySem.W.plainGet K C1 Str.empty = true) (ci1 : PySem.W.hasDictIn K C1 = true) (co1 : PySem.W.plainOver K C1 = true)
    (ca1 : PySem.W.findIn K (.ref C1) "__setattr__" = some (some (.builtin "object.__setattr__"))) (cm1 : PySem.W.makesIn K C1 = true) (ck1 : PySem.W.keepIn K (.ref C1) = true)
    (na1_0 : PySem.W.findIn K (.ref C1) "data" = some none)
    (na1_1 : PySem.W.findIn K (.ref C1) "spot" = some none)
    {f11 : Addr} (ma11 : PySem.W.findIn K (.ref C1) "__init__" = some (some (.ref f11))) (mb11 : PySem.W.isFn K (.ref f11) = true)
    {od11 an11 : Option Addr} {sl11 : Array (Option Value)} {oc11 kV11 dc11 pm11 cd11 ct11 : Value}
    (l11 : K.lookup f11 = some ⟨oc11, od11, .func (PySem.W.fnOf "__init__" "Reader.__init__" (defArgs (topM 19 0)) (defBody (topM 19 0)) (defScope (topM 19 0)) .none kV11 dc11 pm11 an11 cd11 ct11), sl11⟩) (c11 : PySem.W.codeIn K cd11 "Reader.__init__" = true) (k11 : PySem.W.keepIn K (.ref f11) = true)
    {f12 : Addr} (ma12 : PySem.W.findIn K (.ref C1) "item" = some (some (.ref f12))) (mb12 : PySem.W.isFn K (.ref f12) = true)
    {od12 an12 : Option Addr} {sl12 : Array (Option Value)} {oc12 kV12 dc12 pm12 cd12 ct12 : Value}
    (l12 : K.lookup f12 = some ⟨oc12, od12, .func (PySem.W.fnOf "item" "Reader.item" (defArgs (topM 19 1)) (defBody (topM 19 1)) (defScope (topM 19 1)) .none kV12 dc12 pm12 an12 cd12 ct12), sl12⟩) (c12 : PySem.W.codeIn K cd12 "Reader.item" = true) (k12 : PySem.W.keepIn K (.ref f12) = true)
    {f13 : Addr} (ma13 : PySem.W.findIn K (.ref C1) "read_densities" = some (some (.ref f13))) (mb13 : PySem.W.isFn K (.ref f13) = true)
    {od13 an13 : Option Addr} {sl13 : Array (Option Value)} {oc13 kV13 dc13 pm13 cd13 ct13 : Value}
    (l13 : K.lookup f13 = some ⟨oc13, od13, .func (PySem.W.fnOf "read_densities" "Reader.read_densities" (defArgs (topM 19 2)) (defBody (topM 19 2)) (defScope (topM 19 2)) .none kV13 dc13 pm13 an13 cd13 ct13), sl13⟩) (c13 : PySem.W.codeIn K cd13 "Reader.read_densities" = true) (k13 : PySem.W.keepIn K (.ref f13) = true)
    {f14 : Addr} (ma14 : PySem.W.findIn K (.ref C1) "finish" = some (some (.ref f14))) (mb14 : PySem.W.isFn K (.ref f14) = true)
    {od14 an14 : Option Addr} {sl14 : Array (Option Value)} {oc14 kV14 dc14 pm14 cd14 ct14 : Value}
    (l14 : K.lookup f14 = some ⟨oc14, od14, .func (PySem.W.fnOf "finish" "Reader.finish" (defArgs (topM 19 3)) (defBody (topM 19 3)) (defScope (topM 19 3)) .none kV14 dc14 pm14 an14 cd14 ct14), sl14⟩) (c14 : PySem.W.codeIn K cd14 "Reader.finish" = true) (k14 : PySem.W.keepIn K (.ref f14) = true)
    (gv0 : HeadGK K "CHECK_REST" (.int 223))
    (gv1 : HeadGK K "CHECK_START" (.int 11))
    (gv2 : HeadGK K "CHECK_TIMES" (.int 19))
    (gv3 : HeadGK K "FIGURES" (.str "01234"))
    (gv4 : HeadGK K "FIRST" (.int 107))
    (gv5 : HeadGK K "MAX_CELLS" (.int 9))
    (gv6 : HeadGK K "MAX_SIDE" (.int 4))
    (z0 : PySem.W.nsIn K mainGlobals "all" = some none)
    (z1 : PySem.W.nsIn K mainGlobals "bool" = some none)
    (z2 : PySem.W.nsIn K mainGlobals "int" = some none)
    (z3 : PySem.W.nsIn K mainGlobals "isinstance" = some none)
    (z4 : PySem.W.nsIn K mainGlobals "len" = some none)
    (z5 : PySem.W.nsIn K mainGlobals "range" = some none)
    (z6 : PySem.W.nsIn K mainGlobals "str" = some none) : HeadT K mg tx := by
  refine ⟨?_, ?_, ?_, ?_⟩
  · exact (List.forall_mem_cons.mpr ⟨(fun _ => ⟨f0, _, (fun_mk (st := top 8) l0 c0 k0), PySem.W.mg_of X G a0, ((fun_mk (st := top 8) l0 c0 k0).binds (ps := ["value", "smallest", "largest"]) fun _ _ _ _ _ _ us hl => match us, hl with | [_, _, _], _ => rfl)⟩), (List.forall_mem_cons.mpr ⟨(fun _ => ⟨f1, _, (fun_mk (st := top 9) l1 c1 k1), PySem.W.mg_of X G a1, ((fun_mk (st := top 9) l1 c1 k1).binds (ps := ["size", "value", "figures"]) fun _ _ _ _ _ _ us hl => match us, hl with | [_, _, _], _ => rfl)⟩), (List.forall_mem_cons.mpr ⟨(fun _ => ⟨f2, _, (fun_mk (st := top 10) l2 c2 k2), PySem.W.mg_of X G a2, ((fun_mk (st := top 10) l2 c2 k2).binds (ps := ["width", "height"]) fun _ _ _ _ _ _ us hl => match us, hl with | [_, _], _ => rfl)⟩), (List.forall_mem_cons.mpr ⟨(fun z => nomatch z), (List.forall_mem_cons.mpr ⟨(fun z => nomatch z), (List.forall_mem_cons.mpr ⟨(fun z => nomatch z), (List.forall_mem_cons.mpr ⟨(fun z => nomatch z), (List.forall_mem_cons.mpr ⟨(fun z => nomatch z), (List.forall_mem_cons.mpr ⟨(fun z => nomatch z), (List.forall_mem_cons.mpr ⟨(fun _ => ⟨f9, _, (fun_mk (st := top 17) l9 c9 k9), PySem.W.mg_of X G a9, ((fun_mk (st := top 17) l9 c9 k9).binds (ps := ["values"]) fun _ _ _ _ _ _ us hl => match us, hl with | [_], _ => rfl)⟩), (List.forall_mem_cons.mpr ⟨(fun _ => ⟨f10, _, (fun_mk (st := top 18) l10 c10 k10), PySem.W.mg_of X G a10, ((fun_mk (st := top 18) l10 c10 k10).binds (ps := ["negative"]) fun _ _ _ _ _ _ us hl => match us, hl with | [_], _ => rfl)⟩), (List.forall_mem_cons.mpr ⟨(fun z => nomatch z), (List.forall_mem_cons.mpr ⟨(fun z => nomatch z), (List.forall_mem_cons.mpr ⟨(fun z => nomatch z), (List.forall_mem_cons.mpr ⟨(fun z => nomatch z), (List.forall_mem_cons.mpr ⟨(fun _ => ⟨f15, _, (fun_mk (st := top 20) l15 c15 k15), PySem.W.mg_of X G a15, ((fun_mk (st := top 20) l15 c15 k15).binds (ps := ["values"]) fun _ _ _ _ _ _ us hl => match us, hl with | [_], _ => rfl)⟩), (List.forall_mem_cons.mpr ⟨(fun _ => ⟨f16, _, (fun_mk (st := top 22) l16 c16 k16), PySem.W.mg_of X G a16, ((fun_mk (st := top 22) l16 c16 k16).binds (ps := ["_law_row", "_law_many"]) fun _ _ _ _ _ _ us hl => match us, hl with | [_, _], _ => rfl)⟩), (List.forall_mem_cons.mpr ⟨(fun _ => ⟨f17, _, (fun_mk (st := top 23) l17 c17 k17), PySem.W.mg_of X G a17, ((fun_mk (st := top 23) l17 c17 k17).binds (ps := ["_law_row", "_law_most"]) fun _ _ _ _ _ _ us hl => match us, hl with | [_, _], _ => rfl)⟩), (List.forall_mem_cons.mpr ⟨(fun _ => ⟨f18, _, (fun_mk (st := top 24) l18 c18 k18), PySem.W.mg_of X G a18, ((fun_mk (st := top 24) l18 c18 k18).binds (ps := ["_law_items"]) fun _ _ _ _ _ _ us hl => match us, hl with | [_], _ => rfl)⟩), (List.forall_mem_cons.mpr ⟨(fun _ => ⟨f19, _, (fun_mk (st := top 25) l19 c19 k19), PySem.W.mg_of X G a19, ((fun_mk (st := top 25) l19 c19 k19).binds (ps := ["_law_script"]) fun _ _ _ _ _ _ us hl => match us, hl with | [_], _ => rfl)⟩), List.forall_mem_nil _⟩)⟩)⟩)⟩)⟩)⟩)⟩)⟩)⟩)⟩)⟩)⟩)⟩)⟩)⟩)⟩)⟩)⟩)⟩)⟩)
  · exact (List.forall_mem_cons.mpr ⟨gv0.to X G, (List.forall_mem_cons.mpr ⟨gv1.to X G, (List.forall_mem_cons.mpr ⟨gv2.to X G, (List.forall_mem_cons.mpr ⟨gv3.to X G, (List.forall_mem_cons.mpr ⟨gv4.to X G, (List.forall_mem_cons.mpr ⟨gv5.to X G, (List.forall_mem_cons.mpr ⟨gv6.to X G, List.forall_mem_nil _⟩)⟩)⟩)⟩)⟩)⟩)⟩)
  · exact (List.forall_mem_cons.mpr ⟨PySem.W.mg_none_of X G z0, (List.forall_mem_cons.mpr ⟨PySem.W.mg_none_of X G z1, (List.forall_mem_cons.mpr ⟨PySem.W.mg_none_of X G z2, (List.forall_mem_cons.mpr ⟨PySem.W.mg_none_of X G z3, (List.forall_mem_cons.mpr ⟨PySem.W.mg_none_of X G z4, (List.forall_mem_cons.mpr ⟨PySem.W.mg_none_of X G z5, (List.forall_mem_cons.mpr ⟨PySem.W.mg_none_of X G z6, List.forall_mem_nil _⟩)⟩)⟩)⟩)⟩)⟩)⟩)
  · exact (List.forall_mem_cons.mpr ⟨⟨C0, cn0, PySem.W.mg_of X G cn0, (SlX.SCls.mk cs0 ci0 co0 ca0), fun _ => ⟨f3, ⟨cm0, ma3, mb3, ck0⟩⟩, (List.forall_mem_cons.mpr ⟨⟨p0_0, ⟨sa0_0, sb0_0, sc0_0, sd0_0, se0_0, by decide⟩⟩, (List.forall_mem_cons.mpr ⟨⟨r4, f4, _, d_Negative_width, pa4, pb4, pc4, ⟨rest4, pd4⟩, rfl, (fun_mk (st := topM 11 2) l4 c4 k4), ((fun_mk (st := topM 11 2) l4 c4 k4).binds (ps := ["self"]) fun _ _ _ _ _ _ us hl => match us, hl with | [_], _ => rfl), rfl⟩, (List.forall_mem_cons.mpr ⟨⟨r5, f5, _, d_Negative_height, pa5, pb5, pc5, ⟨rest5, pd5⟩, rfl, (fun_mk (st := topM 11 3) l5 c5 k5), ((fun_mk (st := topM 11 3) l5 c5 k5).binds (ps := ["self"]) fun _ _ _ _ _ _ us hl => match us, hl with | [_], _ => rfl), rfl⟩, (List.forall_mem_cons.mpr ⟨⟨r6, f6, _, d_Negative_densities, pa6, pb6, pc6, ⟨rest6, pd6⟩, rfl, (fun_mk (st := topM 11 4) l6 c6 k6), ((fun_mk (st := topM 11 4) l6 c6 k6).binds (ps := ["self"]) fun _ _ _ _ _ _ us hl => match us, hl with | [_], _ => rfl), rfl⟩, (List.forall_mem_cons.mpr ⟨⟨f3, _, d_Negative___init__, ⟨ma3, mb3, k3⟩, rfl, (fun_mk (st := topM 11 1) l3 c3 k3), ((fun_mk (st := topM 11 1) l3 c3 k3).binds (ps := ["self", "width", "height", "densities"]) fun _ _ _ _ _ _ us hl => match us, hl with | [_, _, _, _], _ => rfl), rfl⟩, (List.forall_mem_cons.mpr ⟨⟨f7, _, d_Negative___len__, ⟨ma7, mb7, k7⟩, rfl, (fun_mk (st := topM 11 5) l7 c7 k7), ((fun_mk (st := topM 11 5) l7 c7 k7).binds (ps := ["self"]) fun _ _ _ _ _ _ us hl => match us, hl with | [_], _ => rfl), rfl⟩, (List.forall_mem_cons.mpr ⟨⟨f8, _, d_Negative___eq__, ⟨ma8, mb8, k8⟩, rfl, (fun_mk (st := topM 11 6) l8 c8 k8), ((fun_mk (st := topM 11 6) l8 c8 k8).binds (ps := ["self", "other"]) fun _ _ _ _ _ _ us hl => match us, hl with | [_, _], _ => rfl), rfl⟩, (List.forall_mem_cons.mpr ⟨⟨nea0, neb0⟩, (List.forall_mem_cons.mpr ⟨(SlX.SIsi.mk sia0 sib0 sic0 sid0), List.forall_mem_nil _⟩)⟩)⟩)⟩)⟩)⟩)⟩)⟩)⟩)⟩, (List.forall_mem_cons.mpr ⟨⟨C1, cn1, PySem.W.mg_of X G cn1, (L2.Cls.mk cs1 ci1 co1 ca1), fun _ => ⟨f11, ⟨cm1, ma11, mb11, ck1⟩⟩, (List.forall_mem_cons.mpr ⟨na1_0, (List.forall_mem_cons.mpr ⟨na1_1, (List.forall_mem_cons.mpr ⟨⟨f11, _, d_Reader___init__, ⟨ma11, mb11, k11⟩, rfl, (fun_mk (st := topM 19 0) l11 c11 k11), ((fun_mk (st := topM 19 0) l11 c11 k11).binds (ps := ["self", "values"]) fun _ _ _ _ _ _ us hl => match us, hl with | [_, _], _ => rfl), rfl⟩, (List.forall_mem_cons.mpr ⟨⟨f12, _, d_Reader_item, ⟨ma12, mb12, k12⟩, rfl, (fun_mk (st := topM 19 1) l12 c12 k12), ((fun_mk (st := topM 19 1) l12 c12 k12).binds (ps := ["self", "low", "high"]) fun _ _ _ _ _ _ us hl => match us, hl with | [_, _, _], _ => rfl), rfl⟩, (List.forall_mem_cons.mpr ⟨⟨f13, _, d_Reader_read_densities, ⟨ma13, mb13, k13⟩, rfl, (fun_mk (st := topM 19 2) l13 c13 k13), ((fun_mk (st := topM 19 2) l13 c13 k13).binds (ps := ["self", "size"]) fun _ _ _ _ _ _ us hl => match us, hl with | [_, _], _ => rfl), rfl⟩, (List.forall_mem_cons.mpr ⟨⟨f14, _, d_Reader_finish, ⟨ma14, mb14, k14⟩, rfl, (fun_mk (st := topM 19 3) l14 c14 k14), ((fun_mk (st := topM 19 3) l14 c14 k14).binds (ps := ["self"]) fun _ _ _ _ _ _ us hl => match us, hl with | [_], _ => rfl), rfl⟩, List.forall_mem_nil _⟩)⟩)⟩)⟩)⟩)⟩)⟩, List.forall_mem_nil _⟩)⟩)
end PI.Law

set_option linter.all false
set_option maxRecDepth 100000
namespace PI.Law
open PySem PI
theorem f_is_number : tx.pg.fs "is_number" = some d_is_number.fn := fs_at (defs := defs) (f := "is_number") (i := 0) (d := d_is_number) (by decide +kernel) rfl
theorem f_are_figures : tx.pg.fs "are_figures" = some d_are_figures.fn := fs_at (defs := defs) (f := "are_figures") (i := 1) (d := d_are_figures) (by decide +kernel) rfl
theorem f_is_size : tx.pg.fs "is_size" = some d_is_size.fn := fs_at (defs := defs) (f := "is_size") (i := 2) (d := d_is_size) (by decide +kernel) rfl
theorem f_Negative___init__ : tx.pg.fs "Negative.__init__" = some d_Negative___init__.fn := fs_at (defs := defs) (f := "Negative.__init__") (i := 3) (d := d_Negative___init__) (by decide +kernel) rfl
theorem f_Negative_width : tx.pg.fs "Negative.width" = some d_Negative_width.fn := fs_at (defs := defs) (f := "Negative.width") (i := 4) (d := d_Negative_width) (by decide +kernel) rfl
theorem f_Negative_height : tx.pg.fs "Negative.height" = some d_Negative_height.fn := fs_at (defs := defs) (f := "Negative.height") (i := 5) (d := d_Negative_height) (by decide +kernel) rfl
theorem f_Negative_densities : tx.pg.fs "Negative.densities" = some d_Negative_densities.fn := fs_at (defs := defs) (f := "Negative.densities") (i := 6) (d := d_Negative_densities) (by decide +kernel) rfl
theorem f_Negative___len__ : tx.pg.fs "Negative.__len__" = some d_Negative___len__.fn := fs_at (defs := defs) (f := "Negative.__len__") (i := 7) (d := d_Negative___len__) (by decide +kernel) rfl
theorem f_Negative___eq__ : tx.pg.fs "Negative.__eq__" = some d_Negative___eq__.fn := fs_at (defs := defs) (f := "Negative.__eq__") (i := 8) (d := d_Negative___eq__) (by decide +kernel) rfl
theorem f_checksum : tx.pg.fs "checksum" = some d_checksum.fn := fs_at (defs := defs) (f := "checksum") (i := 9) (d := d_checksum) (by decide +kernel) rfl
theorem f_encode_negative : tx.pg.fs "encode_negative" = some d_encode_negative.fn := fs_at (defs := defs) (f := "encode_negative") (i := 10) (d := d_encode_negative) (by decide +kernel) rfl
theorem f_Reader___init__ : tx.pg.fs "Reader.__init__" = some d_Reader___init__.fn := fs_at (defs := defs) (f := "Reader.__init__") (i := 11) (d := d_Reader___init__) (by decide +kernel) rfl
theorem f_Reader_item : tx.pg.fs "Reader.item" = some d_Reader_item.fn := fs_at (defs := defs) (f := "Reader.item") (i := 12) (d := d_Reader_item) (by decide +kernel) rfl
theorem f_Reader_read_densities : tx.pg.fs "Reader.read_densities" = some d_Reader_read_densities.fn := fs_at (defs := defs) (f := "Reader.read_densities") (i := 13) (d := d_Reader_read_densities) (by decide +kernel) rfl
theorem f_Reader_finish : tx.pg.fs "Reader.finish" = some d_Reader_finish.fn := fs_at (defs := defs) (f := "Reader.finish") (i := 14) (d := d_Reader_finish) (by decide +kernel) rfl
theorem f_decode_negative : tx.pg.fs "decode_negative" = some d_decode_negative.fn := fs_at (defs := defs) (f := "decode_negative") (i := 15) (d := d_decode_negative) (by decide +kernel) rfl
theorem f_law_taken : tx.pg.fs "_law_taken" = some d_law_taken.fn := fs_at (defs := defs) (f := "_law_taken") (i := 16) (d := d_law_taken) (by decide +kernel) rfl
theorem f_law_negative : tx.pg.fs "_law_negative" = some d_law_negative.fn := fs_at (defs := defs) (f := "_law_negative") (i := 17) (d := d_law_negative) (by decide +kernel) rfl
theorem f_law_checked : tx.pg.fs "_law_checked" = some d_law_checked.fn := fs_at (defs := defs) (f := "_law_checked") (i := 18) (d := d_law_checked) (by decide +kernel) rfl
theorem f_law : tx.pg.fs "law" = some d_law.fn := fs_at (defs := defs) (f := "law") (i := 19) (d := d_law) (by decide +kernel) rfl
end PI.Law

set_option linter.all false
set_option autoImplicit false
set_option maxRecDepth 100000
set_option maxHeartbeats 400000

namespace PI
open PySem
local macro_rules
  | `(tactic| simp_all_arith only [$ts,*]) => `(tactic| simp (disch := first | omega | (simp only [List.length_map, List.length_append, List.length_range, List.length_zip, List.length_cons, List.length_nil, List.length_zipIdx, List.length_replicate, dtx_len, stx_len]; omega)) only [↓w_ok, ↓w_exc, ↓w_lift, ↓w_condT, ↓w_condF, ↓w_slo, ↓w_slv, ↓w_der1v, ↓w_der1s, ↓w_der2vv, ↓w_der2vs, ↓w_der2sv, ↓w_der2ss, ↓w_dersn, ↓w_dersv, ↓w_derss, ↓w_ebsn, ↓w_ebst, ↓w_ebsf, ↓w_eb_glob, ↓w_et_glob, ↓w_ret_glob, ↓w_eb_cst, ↓w_et_cst, ↓w_ret_cst, ↓w_eb_bin, ↓w_et_bin, ↓w_ret_bin, ↓w_eb_neg, ↓w_et_neg, ↓w_ret_neg, ↓w_eb_not, ↓w_ret_not, ↓w_eb_and, ↓w_ret_and, ↓w_eb_or, ↓w_ret_or, ↓w_eb_cmp, ↓w_ret_cmp, ↓w_eb_chain, ↓w_ret_chain, ↓w_eb_ite, ↓w_ret_ite, ↓w_eb_tup, ↓w_et_tup, ↓w_ret_tup, ↓w_eb_lst, ↓w_et_lst, ↓w_ret_lst, ↓w_eb_dsp, ↓w_et_dsp, ↓w_ret_dsp, ↓w_eb_call, ↓w_et_call, ↓w_ret_call, ↓w_eb_prim, ↓w_et_prim, ↓w_ret_prim, ↓w_eb_isi, ↓w_et_isi, ↓w_ret_isi, ↓w_eb_app, ↓w_et_app, ↓w_ret_app, ↓w_eb_ext, ↓w_et_ext, ↓w_ret_ext, ↓w_eb_pop, ↓w_et_pop, ↓w_ret_pop, ↓w_eb_idx, ↓w_et_idx, ↓w_ret_idx, ↓w_eb_slo, ↓w_et_slo, ↓w_ret_slo, ↓w_eb_shi, ↓w_et_shi, ↓w_ret_shi, ↓w_eb_sl2, ↓w_et_sl2, ↓w_ret_sl2, ↓w_eb_sls, ↓w_et_sls, ↓w_ret_sls, ↓w_eb_mnd, ↓w_et_mnd, ↓w_ret_mnd, ↓w_eb_join, ↓w_et_join, ↓w_ret_join, ↓w_eb_attr, ↓w_et_attr, ↓w_ret_attr, ↓w_eb_mkR, ↓w_et_mkR, ↓w_ret_mkR, ↓w_eb_lenX, ↓w_et_lenX, ↓w_ret_lenX, ↓w_eb_mkI, ↓w_et_mkI, ↓w_ret_mkI, ↓w_eb_mcl, ↓w_et_mcl, ↓w_ret_mcl, ↓w_eb_eqR, ↓w_ret_eqR, ↓w_eb_isC, ↓w_et_isC, ↓w_ret_isC, ↓w_eb_callT, ↓w_et_callT, ↓w_ret_callT, ↓w_eb_comp, ↓w_et_comp, ↓w_ret_comp, ↓w_eb_comp2, ↓w_et_comp2, ↓w_ret_comp2, ↓w_eb_cnt, ↓w_et_cnt, ↓w_ret_cnt, ↓w_eb_var, ↓w_ebVv, ↓w_ebVo, ↓w_ev_var, ↓w_evVv, ↓w_evVo, ↓w_et_var, ↓w_etVv, ↓w_etVo, ↓w_ret_var, ↓w_retV, ↓w_ev_glob, ↓w_ev_cst, ↓w_ev_bin, ↓w_ev_neg, ↓w_ev_not, ↓w_et_not, ↓w_boK, ↓w_ev_and, ↓w_ev_or, ↓w_et_and, ↓w_et_or, ↓w_ev_cmp, ↓w_et_cmp, ↓w_chnK, ↓w_chnL, ↓w_et_chain, ↓w_ev_chain, ↓w_ev_ite, ↓w_et_ite, ↓w_ev_tup, ↓w_ev_lst, ↓w_cal, ↓w_calX, ↓w_ev_call, ↓w_ev_prim, ↓w_ev_isi, ↓w_ownK, ↓w_appK, ↓w_extK, ↓w_ev_app, ↓w_ev_ext, ↓w_ev_pop, ↓w_ev_idx, ↓w_ev_slo, ↓w_ev_shi, ↓w_sl2I, ↓w_sl3, ↓w_ev_sl2, ↓w_slsI, ↓w_ss3, ↓w_ev_sls, ↓w_ev_mnd, ↓w_ev_join, ↓w_ev_attr, ↓w_ev_mkR, ↓w_ev_lenX, ↓w_cmpK, ↓w_ev_comp, ↓w_cmp2K, ↓w_ev_comp2, ↓w_itR, ↓w_lstK, ↓w_cntLk, ↓w_ev_cnt, ↓w_splK, ↓w_dspT, ↓w_dspL, ↓w_ev_dsp, ↓w_spn, ↓w_spR, ↓w_spc, ↓w_expr, ↓w_asgV, ↓w_asgL, ↓w_asgK, ↓w_asgT, ↓w_row, ↓w_par, ↓w_par3, ↓w_fillK, ↓w_setI, ↓w_setKo, ↓w_setO, ↓w_setKr, ↓w_setR, ↓w_setR2, ↓w_set, ↓w_augK, ↓w_augV, ↓w_aug, ↓w_if, ↓w_forK, ↓w_for, ↓w_while, ↓w_pass, ↓w_setAt, ↓w_seqN, ↓w_seqR, ↓w_seqB, ↓w_seqC, ↓w_nil, ↓w_cons, ↓w_fb, ↓w_fbK, ↓w_cbE, ↓w_cbK0, ↓w_cbK1, ↓w_cb0, ↓w_cb1, ↓w_ev_callT, ↓w_calT, ↓w_ev_mkI, ↓w_ev_eqR, ↓w_et_eqR, ↓w_eqrT, ↓w_ev_isC, ↓w_ev_mcl, ↓w_mclK, ↓w_mclS, ↓w_mclA, ↓w_mclG0, ↓w_mclG1, ↓w_mclG2, ↓w_mclG3, ↓w_attrRef, ↓w_attrIns, ↓w_insF, ↓w_setLoc, ↓w_setIns, ↓w_setFA, ↓w_augAt, ↓w_augLoc, ↓w_augS, ↓w_augA, ↓w_augFadd, ↓w_augFsub, ↓w_augO, ↓run_mk, ↓exc_mk, ↓runC_mk, ↓excC_mk, ↓retQ_next, ↓retQ_ret, retQ_exc, ↓eachQ_next, ↓eachQ_cont, ↓eachQ_brk, ↓eachQ_ret, vals_nil, vals_cons, frees_nil, frees_cons, asgT_var, asgT_tup, asgTs_nil, asgTs_cons, splP_f, splP_l, splP_t, ↓len_l, ↓len_t, ↓len_n, ↓len_s, negP_int, bin_add, bin_sub, bin_mul, bin_fdiv, bin_mod, bin_pow, bin_cat, bin_catT, bin_catS, bin_rep1, aug_add, aug_sub, aug_mul, aug_catS, cmp_lt, cmp_le, cmp_gt, cmp_ge, cmp_eq, cmp_ne, cmp_eqS, cmp_neS, cmp_eqB, cmp_neB, cmp_isNn, cmp_isNt, cmp_isNi, cmp_isNs, cmp_isNl, cmp_notNs, cmp_notNl, cmp_eqNN, cmp_neNN, cmp_notNn, cmp_notNt, cmp_notNi, cmp_in, cmp_notin, isi_int, isi_bool, isi_str_int, isi_str, isi_tup, isi_lst, prim_int, prim_intB, prim_max, prim_min, prim_sum, prim_all, prim_tupl, prim_tupt, prim_lstl, prim_lstt, prim_srt, prim_srtS, prim_lenS, prim_lenT, lstO_o, lstO_v, idx_l, idx_t, idx_n, idx_s, rowAt_some, idx_r, pv_val, pv_own, tru_bl, tru_int, tru_lst, tru_tup, tru_non, decide_true, decide_false, decT, decF, and_self, not_true_eq_false, not_false_eq_true, in_sign, in_tupI, in_lstI, in_two, its_seq_l, its_seq_t, its_seq_s, its_rng1, its_rng2, its_enm_l, its_enm_t, its_zp_ll, its_zp_tt, its_zp_tl, its_zp_ss, its_zp_ts, its_zp_ls, at_0, at_1, at_2, at_3, ix_row1, ix_row2, ix_row3, filterMap_bif, List.getElem?_cons_zero, List.getElem?_cons_succ, List.set_cons_zero, List.set_cons_succ, Option.map_some, Option.map_none, Option.bind_some, Option.bind_none, wipeL, Bool.not_true, Bool.not_false, if_true, if_false, Bool.true_or, Bool.or_true, Bool.and_true, Bool.true_and, Bool.false_and, Bool.and_false, Bool.or_false, Bool.false_or, Bool.false_eq_true, reduceCtorEq, ↓reduceIte, cond_true, cond_false, beq_self_eq_true, Bool.not_not, Bool.true_beq, Bool.false_beq, List.length_nil, List.length_cons, List.length_map, List.length_range, List.length_append, List.length_replicate, Nat.zero_add, Nat.reduceAdd, Int.reduceNeg, Int.reduceToNat, Int.reducePow, Int.reduceAdd, Int.reduceSub, Int.reduceMul, Int.reduceLT, Int.reduceLE, Int.toNat_natCast, List.map_cons, List.map_nil, List.append_nil, List.nil_append, List.cons_append, Option.getD_some, List.map_map, Int.zero_add, List.replicate_succ, List.replicate_zero, Nat.reduceSub, and_self, and_true, true_and, $ts,*])
local macro_rules
  | `(tactic| simp_all_arith) => `(tactic| simp (disch := first | omega | (simp only [List.length_map, List.length_append, List.length_range, List.length_zip, List.length_cons, List.length_nil, List.length_zipIdx, List.length_replicate, dtx_len, stx_len]; omega)) only [↓w_ok, ↓w_exc, ↓w_lift, ↓w_condT, ↓w_condF, ↓w_slo, ↓w_slv, ↓w_der1v, ↓w_der1s, ↓w_der2vv, ↓w_der2vs, ↓w_der2sv, ↓w_der2ss, ↓w_dersn, ↓w_dersv, ↓w_derss, ↓w_ebsn, ↓w_ebst, ↓w_ebsf, ↓w_eb_glob, ↓w_et_glob, ↓w_ret_glob, ↓w_eb_cst, ↓w_et_cst, ↓w_ret_cst, ↓w_eb_bin, ↓w_et_bin, ↓w_ret_bin, ↓w_eb_neg, ↓w_et_neg, ↓w_ret_neg, ↓w_eb_not, ↓w_ret_not, ↓w_eb_and, ↓w_ret_and, ↓w_eb_or, ↓w_ret_or, ↓w_eb_cmp, ↓w_ret_cmp, ↓w_eb_chain, ↓w_ret_chain, ↓w_eb_ite, ↓w_ret_ite, ↓w_eb_tup, ↓w_et_tup, ↓w_ret_tup, ↓w_eb_lst, ↓w_et_lst, ↓w_ret_lst, ↓w_eb_dsp, ↓w_et_dsp, ↓w_ret_dsp, ↓w_eb_call, ↓w_et_call, ↓w_ret_call, ↓w_eb_prim, ↓w_et_prim, ↓w_ret_prim, ↓w_eb_isi, ↓w_et_isi, ↓w_ret_isi, ↓w_eb_app, ↓w_et_app, ↓w_ret_app, ↓w_eb_ext, ↓w_et_ext, ↓w_ret_ext, ↓w_eb_pop, ↓w_et_pop, ↓w_ret_pop, ↓w_eb_idx, ↓w_et_idx, ↓w_ret_idx, ↓w_eb_slo, ↓w_et_slo, ↓w_ret_slo, ↓w_eb_shi, ↓w_et_shi, ↓w_ret_shi, ↓w_eb_sl2, ↓w_et_sl2, ↓w_ret_sl2, ↓w_eb_sls, ↓w_et_sls, ↓w_ret_sls, ↓w_eb_mnd, ↓w_et_mnd, ↓w_ret_mnd, ↓w_eb_join, ↓w_et_join, ↓w_ret_join, ↓w_eb_attr, ↓w_et_attr, ↓w_ret_attr, ↓w_eb_mkR, ↓w_et_mkR, ↓w_ret_mkR, ↓w_eb_lenX, ↓w_et_lenX, ↓w_ret_lenX, ↓w_eb_mkI, ↓w_et_mkI, ↓w_ret_mkI, ↓w_eb_mcl, ↓w_et_mcl, ↓w_ret_mcl, ↓w_eb_eqR, ↓w_ret_eqR, ↓w_eb_isC, ↓w_et_isC, ↓w_ret_isC, ↓w_eb_callT, ↓w_et_callT, ↓w_ret_callT, ↓w_eb_comp, ↓w_et_comp, ↓w_ret_comp, ↓w_eb_comp2, ↓w_et_comp2, ↓w_ret_comp2, ↓w_eb_cnt, ↓w_et_cnt, ↓w_ret_cnt, ↓w_eb_var, ↓w_ebVv, ↓w_ebVo, ↓w_ev_var, ↓w_evVv, ↓w_evVo, ↓w_et_var, ↓w_etVv, ↓w_etVo, ↓w_ret_var, ↓w_retV, ↓w_ev_glob, ↓w_ev_cst, ↓w_ev_bin, ↓w_ev_neg, ↓w_ev_not, ↓w_et_not, ↓w_boK, ↓w_ev_and, ↓w_ev_or, ↓w_et_and, ↓w_et_or, ↓w_ev_cmp, ↓w_et_cmp, ↓w_chnK, ↓w_chnL, ↓w_et_chain, ↓w_ev_chain, ↓w_ev_ite, ↓w_et_ite, ↓w_ev_tup, ↓w_ev_lst, ↓w_cal, ↓w_calX, ↓w_ev_call, ↓w_ev_prim, ↓w_ev_isi, ↓w_ownK, ↓w_appK, ↓w_extK, ↓w_ev_app, ↓w_ev_ext, ↓w_ev_pop, ↓w_ev_idx, ↓w_ev_slo, ↓w_ev_shi, ↓w_sl2I, ↓w_sl3, ↓w_ev_sl2, ↓w_slsI, ↓w_ss3, ↓w_ev_sls, ↓w_ev_mnd, ↓w_ev_join, ↓w_ev_attr, ↓w_ev_mkR, ↓w_ev_lenX, ↓w_cmpK, ↓w_ev_comp, ↓w_cmp2K, ↓w_ev_comp2, ↓w_itR, ↓w_lstK, ↓w_cntLk, ↓w_ev_cnt, ↓w_splK, ↓w_dspT, ↓w_dspL, ↓w_ev_dsp, ↓w_spn, ↓w_spR, ↓w_spc, ↓w_expr, ↓w_asgV, ↓w_asgL, ↓w_asgK, ↓w_asgT, ↓w_row, ↓w_par, ↓w_par3, ↓w_fillK, ↓w_setI, ↓w_setKo, ↓w_setO, ↓w_setKr, ↓w_setR, ↓w_setR2, ↓w_set, ↓w_augK, ↓w_augV, ↓w_aug, ↓w_if, ↓w_forK, ↓w_for, ↓w_while, ↓w_pass, ↓w_setAt, ↓w_seqN, ↓w_seqR, ↓w_seqB, ↓w_seqC, ↓w_nil, ↓w_cons, ↓w_fb, ↓w_fbK, ↓w_cbE, ↓w_cbK0, ↓w_cbK1, ↓w_cb0, ↓w_cb1, ↓w_ev_callT, ↓w_calT, ↓w_ev_mkI, ↓w_ev_eqR, ↓w_et_eqR, ↓w_eqrT, ↓w_ev_isC, ↓w_ev_mcl, ↓w_mclK, ↓w_mclS, ↓w_mclA, ↓w_mclG0, ↓w_mclG1, ↓w_mclG2, ↓w_mclG3, ↓w_attrRef, ↓w_attrIns, ↓w_insF, ↓w_setLoc, ↓w_setIns, ↓w_setFA, ↓w_augAt, ↓w_augLoc, ↓w_augS, ↓w_augA, ↓w_augFadd, ↓w_augFsub, ↓w_augO, ↓run_mk, ↓exc_mk, ↓runC_mk, ↓excC_mk, ↓retQ_next, ↓retQ_ret, retQ_exc, ↓eachQ_next, ↓eachQ_cont, ↓eachQ_brk, ↓eachQ_ret, vals_nil, vals_cons, frees_nil, frees_cons, asgT_var, asgT_tup, asgTs_nil, asgTs_cons, splP_f, splP_l, splP_t, ↓len_l, ↓len_t, ↓len_n, ↓len_s, negP_int, bin_add, bin_sub, bin_mul, bin_fdiv, bin_mod, bin_pow, bin_cat, bin_catT, bin_catS, bin_rep1, aug_add, aug_sub, aug_mul, aug_catS, cmp_lt, cmp_le, cmp_gt, cmp_ge, cmp_eq, cmp_ne, cmp_eqS, cmp_neS, cmp_eqB, cmp_neB, cmp_isNn, cmp_isNt, cmp_isNi, cmp_isNs, cmp_isNl, cmp_notNs, cmp_notNl, cmp_eqNN, cmp_neNN, cmp_notNn, cmp_notNt, cmp_notNi, cmp_in, cmp_notin, isi_int, isi_bool, isi_str_int, isi_str, isi_tup, isi_lst, prim_int, prim_intB, prim_max, prim_min, prim_sum, prim_all, prim_tupl, prim_tupt, prim_lstl, prim_lstt, prim_srt, prim_srtS, prim_lenS, prim_lenT, lstO_o, lstO_v, idx_l, idx_t, idx_n, idx_s, rowAt_some, idx_r, pv_val, pv_own, tru_bl, tru_int, tru_lst, tru_tup, tru_non, decide_true, decide_false, decT, decF, and_self, not_true_eq_false, not_false_eq_true, in_sign, in_tupI, in_lstI, in_two, its_seq_l, its_seq_t, its_seq_s, its_rng1, its_rng2, its_enm_l, its_enm_t, its_zp_ll, its_zp_tt, its_zp_tl, its_zp_ss, its_zp_ts, its_zp_ls, at_0, at_1, at_2, at_3, ix_row1, ix_row2, ix_row3, filterMap_bif, List.getElem?_cons_zero, List.getElem?_cons_succ, List.set_cons_zero, List.set_cons_succ, Option.map_some, Option.map_none, Option.bind_some, Option.bind_none, wipeL, Bool.not_true, Bool.not_false, if_true, if_false, Bool.true_or, Bool.or_true, Bool.and_true, Bool.true_and, Bool.false_and, Bool.and_false, Bool.or_false, Bool.false_or, Bool.false_eq_true, reduceCtorEq, ↓reduceIte, cond_true, cond_false, beq_self_eq_true, Bool.not_not, Bool.true_beq, Bool.false_beq, List.length_nil, List.length_cons, List.length_map, List.length_range, List.length_append, List.length_replicate, Nat.zero_add, Nat.reduceAdd, Int.reduceNeg, Int.reduceToNat, Int.reducePow, Int.reduceAdd, Int.reduceSub, Int.reduceMul, Int.reduceLT, Int.reduceLE, Int.toNat_natCast, List.map_cons, List.map_nil, List.append_nil, List.nil_append, List.cons_append, Option.getD_some, List.map_map, Int.zero_add, List.replicate_succ, List.replicate_zero, Nat.reduceSub, and_self, and_true, true_and])
local macro_rules
  | `(tactic| simp_arith only [$ts,*]) => `(tactic| simp (disch := first | omega | (simp only [List.length_map, List.length_append, List.length_range, List.length_zip, List.length_cons, List.length_nil, List.length_zipIdx, List.length_replicate, dtx_len, stx_len]; omega)) only [↓w_ok, ↓w_exc, ↓w_lift, ↓w_condT, ↓w_condF, ↓w_slo, ↓w_slv, ↓w_der1v, ↓w_der1s, ↓w_der2vv, ↓w_der2vs, ↓w_der2sv, ↓w_der2ss, ↓w_dersn, ↓w_dersv, ↓w_derss, ↓w_ebsn, ↓w_ebst, ↓w_ebsf, ↓w_eb_glob, ↓w_et_glob, ↓w_ret_glob, ↓w_eb_cst, ↓w_et_cst, ↓w_ret_cst, ↓w_eb_bin, ↓w_et_bin, ↓w_ret_bin, ↓w_eb_neg, ↓w_et_neg, ↓w_ret_neg, ↓w_eb_not, ↓w_ret_not, ↓w_eb_and, ↓w_ret_and, ↓w_eb_or, ↓w_ret_or, ↓w_eb_cmp, ↓w_ret_cmp, ↓w_eb_chain, ↓w_ret_chain, ↓w_eb_ite, ↓w_ret_ite, ↓w_eb_tup, ↓w_et_tup, ↓w_ret_tup, ↓w_eb_lst, ↓w_et_lst, ↓w_ret_lst, ↓w_eb_dsp, ↓w_et_dsp, ↓w_ret_dsp, ↓w_eb_call, ↓w_et_call, ↓w_ret_call, ↓w_eb_prim, ↓w_et_prim, ↓w_ret_prim, ↓w_eb_isi, ↓w_et_isi, ↓w_ret_isi, ↓w_eb_app, ↓w_et_app, ↓w_ret_app, ↓w_eb_ext, ↓w_et_ext, ↓w_ret_ext, ↓w_eb_pop, ↓w_et_pop, ↓w_ret_pop, ↓w_eb_idx, ↓w_et_idx, ↓w_ret_idx, ↓w_eb_slo, ↓w_et_slo, ↓w_ret_slo, ↓w_eb_shi, ↓w_et_shi, ↓w_ret_shi, ↓w_eb_sl2, ↓w_et_sl2, ↓w_ret_sl2, ↓w_eb_sls, ↓w_et_sls, ↓w_ret_sls, ↓w_eb_mnd, ↓w_et_mnd, ↓w_ret_mnd, ↓w_eb_join, ↓w_et_join, ↓w_ret_join, ↓w_eb_attr, ↓w_et_attr, ↓w_ret_attr, ↓w_eb_mkR, ↓w_et_mkR, ↓w_ret_mkR, ↓w_eb_lenX, ↓w_et_lenX, ↓w_ret_lenX, ↓w_eb_mkI, ↓w_et_mkI, ↓w_ret_mkI, ↓w_eb_mcl, ↓w_et_mcl, ↓w_ret_mcl, ↓w_eb_eqR, ↓w_ret_eqR, ↓w_eb_isC, ↓w_et_isC, ↓w_ret_isC, ↓w_eb_callT, ↓w_et_callT, ↓w_ret_callT, ↓w_eb_comp, ↓w_et_comp, ↓w_ret_comp, ↓w_eb_comp2, ↓w_et_comp2, ↓w_ret_comp2, ↓w_eb_cnt, ↓w_et_cnt, ↓w_ret_cnt, ↓w_eb_var, ↓w_ebVv, ↓w_ebVo, ↓w_ev_var, ↓w_evVv, ↓w_evVo, ↓w_et_var, ↓w_etVv, ↓w_etVo, ↓w_ret_var, ↓w_retV, ↓w_ev_glob, ↓w_ev_cst, ↓w_ev_bin, ↓w_ev_neg, ↓w_ev_not, ↓w_et_not, ↓w_boK, ↓w_ev_and, ↓w_ev_or, ↓w_et_and, ↓w_et_or, ↓w_ev_cmp, ↓w_et_cmp, ↓w_chnK, ↓w_chnL, ↓w_et_chain, ↓w_ev_chain, ↓w_ev_ite, ↓w_et_ite, ↓w_ev_tup, ↓w_ev_lst, ↓w_cal, ↓w_calX, ↓w_ev_call, ↓w_ev_prim, ↓w_ev_isi, ↓w_ownK, ↓w_appK, ↓w_extK, ↓w_ev_app, ↓w_ev_ext, ↓w_ev_pop, ↓w_ev_idx, ↓w_ev_slo, ↓w_ev_shi, ↓w_sl2I, ↓w_sl3, ↓w_ev_sl2, ↓w_slsI, ↓w_ss3, ↓w_ev_sls, ↓w_ev_mnd, ↓w_ev_join, ↓w_ev_attr, ↓w_ev_mkR, ↓w_ev_lenX, ↓w_cmpK, ↓w_ev_comp, ↓w_cmp2K, ↓w_ev_comp2, ↓w_itR, ↓w_lstK, ↓w_cntLk, ↓w_ev_cnt, ↓w_splK, ↓w_dspT, ↓w_dspL, ↓w_ev_dsp, ↓w_spn, ↓w_spR, ↓w_spc, ↓w_expr, ↓w_asgV, ↓w_asgL, ↓w_asgK, ↓w_asgT, ↓w_row, ↓w_par, ↓w_par3, ↓w_fillK, ↓w_setI, ↓w_setKo, ↓w_setO, ↓w_setKr, ↓w_setR, ↓w_setR2, ↓w_set, ↓w_augK, ↓w_augV, ↓w_aug, ↓w_if, ↓w_forK, ↓w_for, ↓w_while, ↓w_pass, ↓w_setAt, ↓w_seqN, ↓w_seqR, ↓w_seqB, ↓w_seqC, ↓w_nil, ↓w_cons, ↓w_fb, ↓w_fbK, ↓w_cbE, ↓w_cbK0, ↓w_cbK1, ↓w_cb0, ↓w_cb1, ↓w_ev_callT, ↓w_calT, ↓w_ev_mkI, ↓w_ev_eqR, ↓w_et_eqR, ↓w_eqrT, ↓w_ev_isC, ↓w_ev_mcl, ↓w_mclK, ↓w_mclS, ↓w_mclA, ↓w_mclG0, ↓w_mclG1, ↓w_mclG2, ↓w_mclG3, ↓w_attrRef, ↓w_attrIns, ↓w_insF, ↓w_setLoc, ↓w_setIns, ↓w_setFA, ↓w_augAt, ↓w_augLoc, ↓w_augS, ↓w_augA, ↓w_augFadd, ↓w_augFsub, ↓w_augO, ↓run_mk, ↓exc_mk, ↓runC_mk, ↓excC_mk, ↓retQ_next, ↓retQ_ret, retQ_exc, ↓eachQ_next, ↓eachQ_cont, ↓eachQ_brk, ↓eachQ_ret, vals_nil, vals_cons, frees_nil, frees_cons, asgT_var, asgT_tup, asgTs_nil, asgTs_cons, splP_f, splP_l, splP_t, ↓len_l, ↓len_t, ↓len_n, ↓len_s, negP_int, bin_add, bin_sub, bin_mul, bin_fdiv, bin_mod, bin_pow, bin_cat, bin_catT, bin_catS, bin_rep1, aug_add, aug_sub, aug_mul, aug_catS, cmp_lt, cmp_le, cmp_gt, cmp_ge, cmp_eq, cmp_ne, cmp_eqS, cmp_neS, cmp_eqB, cmp_neB, cmp_isNn, cmp_isNt, cmp_isNi, cmp_isNs, cmp_isNl, cmp_notNs, cmp_notNl, cmp_eqNN, cmp_neNN, cmp_notNn, cmp_notNt, cmp_notNi, cmp_in, cmp_notin, isi_int, isi_bool, isi_str_int, isi_str, isi_tup, isi_lst, prim_int, prim_intB, prim_max, prim_min, prim_sum, prim_all, prim_tupl, prim_tupt, prim_lstl, prim_lstt, prim_srt, prim_srtS, prim_lenS, prim_lenT, lstO_o, lstO_v, idx_l, idx_t, idx_n, idx_s, rowAt_some, idx_r, pv_val, pv_own, tru_bl, tru_int, tru_lst, tru_tup, tru_non, decide_true, decide_false, decT, decF, and_self, not_true_eq_false, not_false_eq_true, in_sign, in_tupI, in_lstI, in_two, its_seq_l, its_seq_t, its_seq_s, its_rng1, its_rng2, its_enm_l, its_enm_t, its_zp_ll, its_zp_tt, its_zp_tl, its_zp_ss, its_zp_ts, its_zp_ls, at_0, at_1, at_2, at_3, at_nat, ix_row1, ix_row2, ix_row3, filterMap_bif, List.getElem?_cons_zero, List.getElem?_cons_succ, List.set_cons_zero, List.set_cons_succ, Option.map_some, Option.map_none, Option.bind_some, Option.bind_none, wipeL, Bool.not_true, Bool.not_false, if_true, if_false, Bool.true_or, Bool.or_true, Bool.and_true, Bool.true_and, Bool.false_and, Bool.and_false, Bool.or_false, Bool.false_or, Bool.false_eq_true, reduceCtorEq, ↓reduceIte, cond_true, cond_false, beq_self_eq_true, Bool.not_not, Bool.true_beq, Bool.false_beq, List.length_nil, List.length_cons, List.length_map, List.length_range, List.length_append, List.length_replicate, Nat.zero_add, Nat.reduceAdd, Int.reduceNeg, Int.reduceToNat, Int.reducePow, Int.reduceAdd, Int.reduceSub, Int.reduceMul, Int.reduceLT, Int.reduceLE, Int.toNat_natCast, List.map_cons, List.map_nil, List.append_nil, List.nil_append, List.cons_append, Option.getD_some, List.map_map, Int.zero_add, List.replicate_succ, List.replicate_zero, Nat.reduceSub, and_self, and_true, true_and, $ts,*])
local macro_rules
  | `(tactic| simp_arith) => `(tactic| simp (disch := first | omega | (simp only [List.length_map, List.length_append, List.length_range, List.length_zip, List.length_cons, List.length_nil, List.length_zipIdx, List.length_replicate, dtx_len, stx_len]; omega)) only [↓w_ok, ↓w_exc, ↓w_lift, ↓w_condT, ↓w_condF, ↓w_slo, ↓w_slv, ↓w_der1v, ↓w_der1s, ↓w_der2vv, ↓w_der2vs, ↓w_der2sv, ↓w_der2ss, ↓w_dersn, ↓w_dersv, ↓w_derss, ↓w_ebsn, ↓w_ebst, ↓w_ebsf, ↓w_eb_glob, ↓w_et_glob, ↓w_ret_glob, ↓w_eb_cst, ↓w_et_cst, ↓w_ret_cst, ↓w_eb_bin, ↓w_et_bin, ↓w_ret_bin, ↓w_eb_neg, ↓w_et_neg, ↓w_ret_neg, ↓w_eb_not, ↓w_ret_not, ↓w_eb_and, ↓w_ret_and, ↓w_eb_or, ↓w_ret_or, ↓w_eb_cmp, ↓w_ret_cmp, ↓w_eb_chain, ↓w_ret_chain, ↓w_eb_ite, ↓w_ret_ite, ↓w_eb_tup, ↓w_et_tup, ↓w_ret_tup, ↓w_eb_lst, ↓w_et_lst, ↓w_ret_lst, ↓w_eb_dsp, ↓w_et_dsp, ↓w_ret_dsp, ↓w_eb_call, ↓w_et_call, ↓w_ret_call, ↓w_eb_prim, ↓w_et_prim, ↓w_ret_prim, ↓w_eb_isi, ↓w_et_isi, ↓w_ret_isi, ↓w_eb_app, ↓w_et_app, ↓w_ret_app, ↓w_eb_ext, ↓w_et_ext, ↓w_ret_ext, ↓w_eb_pop, ↓w_et_pop, ↓w_ret_pop, ↓w_eb_idx, ↓w_et_idx, ↓w_ret_idx, ↓w_eb_slo, ↓w_et_slo, ↓w_ret_slo, ↓w_eb_shi, ↓w_et_shi, ↓w_ret_shi, ↓w_eb_sl2, ↓w_et_sl2, ↓w_ret_sl2, ↓w_eb_sls, ↓w_et_sls, ↓w_ret_sls, ↓w_eb_mnd, ↓w_et_mnd, ↓w_ret_mnd, ↓w_eb_join, ↓w_et_join, ↓w_ret_join, ↓w_eb_attr, ↓w_et_attr, ↓w_ret_attr, ↓w_eb_mkR, ↓w_et_mkR, ↓w_ret_mkR, ↓w_eb_lenX, ↓w_et_lenX, ↓w_ret_lenX, ↓w_eb_mkI, ↓w_et_mkI, ↓w_ret_mkI, ↓w_eb_mcl, ↓w_et_mcl, ↓w_ret_mcl, ↓w_eb_eqR, ↓w_ret_eqR, ↓w_eb_isC, ↓w_et_isC, ↓w_ret_isC, ↓w_eb_callT, ↓w_et_callT, ↓w_ret_callT, ↓w_eb_comp, ↓w_et_comp, ↓w_ret_comp, ↓w_eb_comp2, ↓w_et_comp2, ↓w_ret_comp2, ↓w_eb_cnt, ↓w_et_cnt, ↓w_ret_cnt, ↓w_eb_var, ↓w_ebVv, ↓w_ebVo, ↓w_ev_var, ↓w_evVv, ↓w_evVo, ↓w_et_var, ↓w_etVv, ↓w_etVo, ↓w_ret_var, ↓w_retV, ↓w_ev_glob, ↓w_ev_cst, ↓w_ev_bin, ↓w_ev_neg, ↓w_ev_not, ↓w_et_not, ↓w_boK, ↓w_ev_and, ↓w_ev_or, ↓w_et_and, ↓w_et_or, ↓w_ev_cmp, ↓w_et_cmp, ↓w_chnK, ↓w_chnL, ↓w_et_chain, ↓w_ev_chain, ↓w_ev_ite, ↓w_et_ite, ↓w_ev_tup, ↓w_ev_lst, ↓w_cal, ↓w_calX, ↓w_ev_call, ↓w_ev_prim, ↓w_ev_isi, ↓w_ownK, ↓w_appK, ↓w_extK, ↓w_ev_app, ↓w_ev_ext, ↓w_ev_pop, ↓w_ev_idx, ↓w_ev_slo, ↓w_ev_shi, ↓w_sl2I, ↓w_sl3, ↓w_ev_sl2, ↓w_slsI, ↓w_ss3, ↓w_ev_sls, ↓w_ev_mnd, ↓w_ev_join, ↓w_ev_attr, ↓w_ev_mkR, ↓w_ev_lenX, ↓w_cmpK, ↓w_ev_comp, ↓w_cmp2K, ↓w_ev_comp2, ↓w_itR, ↓w_lstK, ↓w_cntLk, ↓w_ev_cnt, ↓w_splK, ↓w_dspT, ↓w_dspL, ↓w_ev_dsp, ↓w_spn, ↓w_spR, ↓w_spc, ↓w_expr, ↓w_asgV, ↓w_asgL, ↓w_asgK, ↓w_asgT, ↓w_row, ↓w_par, ↓w_par3, ↓w_fillK, ↓w_setI, ↓w_setKo, ↓w_setO, ↓w_setKr, ↓w_setR, ↓w_setR2, ↓w_set, ↓w_augK, ↓w_augV, ↓w_aug, ↓w_if, ↓w_forK, ↓w_for, ↓w_while, ↓w_pass, ↓w_setAt, ↓w_seqN, ↓w_seqR, ↓w_seqB, ↓w_seqC, ↓w_nil, ↓w_cons, ↓w_fb, ↓w_fbK, ↓w_cbE, ↓w_cbK0, ↓w_cbK1, ↓w_cb0, ↓w_cb1, ↓w_ev_callT, ↓w_calT, ↓w_ev_mkI, ↓w_ev_eqR, ↓w_et_eqR, ↓w_eqrT, ↓w_ev_isC, ↓w_ev_mcl, ↓w_mclK, ↓w_mclS, ↓w_mclA, ↓w_mclG0, ↓w_mclG1, ↓w_mclG2, ↓w_mclG3, ↓w_attrRef, ↓w_attrIns, ↓w_insF, ↓w_setLoc, ↓w_setIns, ↓w_setFA, ↓w_augAt, ↓w_augLoc, ↓w_augS, ↓w_augA, ↓w_augFadd, ↓w_augFsub, ↓w_augO, ↓run_mk, ↓exc_mk, ↓runC_mk, ↓excC_mk, ↓retQ_next, ↓retQ_ret, retQ_exc, ↓eachQ_next, ↓eachQ_cont, ↓eachQ_brk, ↓eachQ_ret, vals_nil, vals_cons, frees_nil, frees_cons, asgT_var, asgT_tup, asgTs_nil, asgTs_cons, splP_f, splP_l, splP_t, ↓len_l, ↓len_t, ↓len_n, ↓len_s, negP_int, bin_add, bin_sub, bin_mul, bin_fdiv, bin_mod, bin_pow, bin_cat, bin_catT, bin_catS, bin_rep1, aug_add, aug_sub, aug_mul, aug_catS, cmp_lt, cmp_le, cmp_gt, cmp_ge, cmp_eq, cmp_ne, cmp_eqS, cmp_neS, cmp_eqB, cmp_neB, cmp_isNn, cmp_isNt, cmp_isNi, cmp_isNs, cmp_isNl, cmp_notNs, cmp_notNl, cmp_eqNN, cmp_neNN, cmp_notNn, cmp_notNt, cmp_notNi, cmp_in, cmp_notin, isi_int, isi_bool, isi_str_int, isi_str, isi_tup, isi_lst, prim_int, prim_intB, prim_max, prim_min, prim_sum, prim_all, prim_tupl, prim_tupt, prim_lstl, prim_lstt, prim_srt, prim_srtS, prim_lenS, prim_lenT, lstO_o, lstO_v, idx_l, idx_t, idx_n, idx_s, rowAt_some, idx_r, pv_val, pv_own, tru_bl, tru_int, tru_lst, tru_tup, tru_non, decide_true, decide_false, decT, decF, and_self, not_true_eq_false, not_false_eq_true, in_sign, in_tupI, in_lstI, in_two, its_seq_l, its_seq_t, its_seq_s, its_rng1, its_rng2, its_enm_l, its_enm_t, its_zp_ll, its_zp_tt, its_zp_tl, its_zp_ss, its_zp_ts, its_zp_ls, at_0, at_1, at_2, at_3, at_nat, ix_row1, ix_row2, ix_row3, filterMap_bif, List.getElem?_cons_zero, List.getElem?_cons_succ, List.set_cons_zero, List.set_cons_succ, Option.map_some, Option.map_none, Option.bind_some, Option.bind_none, wipeL, Bool.not_true, Bool.not_false, if_true, if_false, Bool.true_or, Bool.or_true, Bool.and_true, Bool.true_and, Bool.false_and, Bool.and_false, Bool.or_false, Bool.false_or, Bool.false_eq_true, reduceCtorEq, ↓reduceIte, cond_true, cond_false, beq_self_eq_true, Bool.not_not, Bool.true_beq, Bool.false_beq, List.length_nil, List.length_cons, List.length_map, List.length_range, List.length_append, List.length_replicate, Nat.zero_add, Nat.reduceAdd, Int.reduceNeg, Int.reduceToNat, Int.reducePow, Int.reduceAdd, Int.reduceSub, Int.reduceMul, Int.reduceLT, Int.reduceLE, Int.toNat_natCast, List.map_cons, List.map_nil, List.append_nil, List.nil_append, List.cons_append, Option.getD_some, List.map_map, Int.zero_add, List.replicate_succ, List.replicate_zero, Nat.reduceSub, and_self, and_true, true_and])
/-! ### values of the program -/
abbrev tupI (L : List Int) : PV := .tup (L.map .int)
abbrev lstI (L : List Int) : PV := .lst (L.map .int)
def neg (w h : Int) (D : List Nat) : PV := .rcd "Negative" [.tup [.int w, .int h, .str (dtx D)]]
structure NegOk (w h : Int) (D : List Nat) : Prop where
  w1 : 1 ≤ w
  w4 : w ≤ 4
  h1 : 1 ≤ h
  h4 : h ≤ 4
  c9 : w * h ≤ 9
  len : (D.length : Int) = w * h
  d4 : ∀ d ∈ D, d ≤ 4
theorem NegOk.le {w h : Int} {D : List Nat} (o : NegOk w h D) : D.length ≤ 9 := by have := o.len; have := o.c9; omega
section
variable {P : Pg} {n : Nat} {st : Sto}
theorem is_number_ok (hf : P.fs "is_number" = some B.is_number) (v a b : Int) : callP P (n + 1) "is_number" [.int v, .int a, .int b] st = .ok (.val (.bl (decide (a ≤ v ∧ v ≤ b)))) st := by
  apply WpC.eq
  refine w_fn hf rfl ?_; simp_arith only [B.is_number, B.b_is_number]
  refine w_split (fun h => ?_) fun h => ?_
  · simp_arith
    rw [decide_eq_true_eq] at h
    simp [h]
  · simp_arith
    rw [decide_eq_false_iff_not] at h
    simp [h]
theorem check_number_ok (hf : P.fs "is_number" = some B.is_number) (hg : P.fs "check_number" = some B.check_number) {v a b : Int} (h : a ≤ v ∧ v ≤ b) : callP P (n + 2) "check_number" [.int v, .int a, .int b] st = .ok (.val .non) st := by
  apply WpC.eq
  refine w_fn hg rfl ?_; simp_arith only [B.check_number, B.b_check_number, is_number_ok hf, h]
  all_goals (first | exact ⟨rfl, rfl⟩ | exact rfl | trivial)
theorem are_figures_ok (hf : P.fs "are_figures" = some B.are_figures) (k : Int) (z fg : Str) (hz : z.length ≤ 16777216) (h1 : (z.length : Int) = k) (h2 : ∀ c ∈ z.cps.toList, c ∈ fg.cps.toList) : callP P (n + 1) "are_figures" [.int k, .str z, .str fg] st = .ok (.val (.bl true)) st := by
  apply WpC.eq
  refine w_fn hf rfl ?_; simp_arith only [B.are_figures, B.b_are_figures, h1]
  apply w_compM
  focus
    intro a ha
    simp_arith
    first | exact ⟨rfl, rfl⟩ | exact rfl
  · exact hz
  simp_arith
  have : (z.cps.toList.all fun a => decide (a ∈ fg.cps.toList)) = true := List.all_eq_true.mpr fun c hc => decide_eq_true (h2 c hc)
  rw [this]
theorem is_size_ok (hn : P.fs "is_number" = some B.is_number) (hf : P.fs "is_size" = some B.is_size) (g1 : P.gl "MAX_SIDE" = some (.int 4)) (g2 : P.gl "MAX_CELLS" = some (.int 9)) {w h : Int} (h1 : 1 ≤ w ∧ w ≤ 4) (h2 : 1 ≤ h ∧ h ≤ 4) (h3 : w * h ≤ 9) :
    callP P (n + 2) "is_size" [.int w, .int h] st = .ok (.val (.bl true)) st := by
  apply WpC.eq
  refine w_fn hf rfl ?_; simp_arith only [B.is_size, B.b_is_size, is_number_ok hn, g1, g2, h1, h2, h3]
  all_goals (first | exact ⟨rfl, rfl⟩ | exact rfl | trivial)
theorem check_size_ok (hn : P.fs "is_number" = some B.is_number) (hf : P.fs "is_size" = some B.is_size) (hc : P.fs "check_size" = some B.check_size) (g1 : P.gl "MAX_SIDE" = some (.int 4)) (g2 : P.gl "MAX_CELLS" = some (.int 9)) {w h : Int} (h1 : 1 ≤ w ∧ w ≤ 4) (h2 : 1 ≤ h ∧ h ≤ 4) (h3 : w * h ≤ 9) :
    callP P (n + 3) "check_size" [.int w, .int h] st = .ok (.val .non) st := by
  apply WpC.eq
  refine w_fn hc rfl ?_; simp_arith only [B.check_size, B.b_check_size, is_size_ok hn hf g1 g2 h1 h2 h3]
  all_goals (first | exact ⟨rfl, rfl⟩ | exact rfl | trivial)
/-- what the text has of Negative -/
structure HNeg (P : Pg) : Prop where
  nb : P.fs "is_number" = some B.is_number
  fg : P.fs "are_figures" = some B.are_figures
  sz : P.fs "is_size" = some B.is_size
  ms : P.gl "MAX_SIDE" = some (.int 4)
  mc : P.gl "MAX_CELLS" = some (.int 9)
  ini : (P.fs "Negative.__init__" = some B.Negative___init___1 ∧ P.gl "FIGURES" = some (.str "01234")) ∨ (P.fs "Negative.__init__" = some B.Negative___init___2 ∧ P.gl "FIGURES_negatives" = some (.str "01234"))
  fw : P.fs "Negative.width" = some B.Negative_width
  fh : P.fs "Negative.height" = some B.Negative_height
  fd : P.fs "Negative.densities" = some B.Negative_densities
  fl : P.fs "Negative.__len__" = some B.Negative___len__
  cp : P.ca "Negative" "parts" = some (.slot 0)
  ci : P.ca "Negative" "__init__" = some (.meth "Negative.__init__" 4)
  cw : P.ca "Negative" "width" = some (.prop "Negative.width")
  ch : P.ca "Negative" "height" = some (.prop "Negative.height")
  cd : P.ca "Negative" "densities" = some (.prop "Negative.densities")
  cl : P.ca "Negative" "__len__" = some (.meth "Negative.__len__" 1)
theorem attr_parts (hc : P.ca "Negative" "parts" = some (.slot 0)) (w h : Int) (D : List Nat) (s : Ps) (q : Kn SV) : @Wp _ (attrP ⟨callP P n, P.gl, P.ca⟩ "parts" (neg w h D) s) q = q.run (.val (.tup [.int w, .int h, .str (dtx D)])) s := by
  have : attrP ⟨callP P n, P.gl, P.ca⟩ "parts" (neg w h D) s = .ok (.val (.tup [.int w, .int h, .str (dtx D)])) s := by
    show attrR ⟨callP P n, P.gl, P.ca⟩ "parts" "Negative" _ _ s = _
    unfold attrR
    show (match P.ca "Negative" "parts" with
      | some (.slot i) => liftO (((([PV.tup [.int w, .int h, .str (dtx D)]] : List PV).map some)[i]?).join.map SV.val) s
      | some (.prop g) => propP (callP P n g [neg w h D] s.sto) s
      | _ => .stuck) = _
    rw [hc]
    rfl
  rw [this, w_ok]
theorem width_ok (H : HNeg P) (w h : Int) (D : List Nat) : callP P (n + 1) "Negative.width" [neg w h D] st = .ok (.val (.int w)) st := by
  apply WpC.eq
  refine w_fn H.fw rfl ?_; simp_arith only [B.Negative_width, B.b_Negative_width, attr_parts H.cp]
  all_goals (first | exact ⟨rfl, rfl⟩ | exact rfl | trivial)
theorem height_ok (H : HNeg P) (w h : Int) (D : List Nat) : callP P (n + 1) "Negative.height" [neg w h D] st = .ok (.val (.int h)) st := by
  apply WpC.eq
  refine w_fn H.fh rfl ?_; simp_arith only [B.Negative_height, B.b_Negative_height, attr_parts H.cp]
  all_goals (first | exact ⟨rfl, rfl⟩ | exact rfl | trivial)
theorem densities_ok (H : HNeg P) (w h : Int) (D : List Nat) : callP P (n + 1) "Negative.densities" [neg w h D] st = .ok (.val (.str (dtx D))) st := by
  apply WpC.eq
  refine w_fn H.fd rfl ?_; simp_arith only [B.Negative_densities, B.b_Negative_densities, attr_parts H.cp]
  all_goals (first | exact ⟨rfl, rfl⟩ | exact rfl | trivial)
theorem len_ok (H : HNeg P) {w h : Int} {D : List Nat} (hD : D.length ≤ 9) : callP P (n + 1) "Negative.__len__" [neg w h D] st = .ok (.val (.int D.length)) st := by
  have hl : (dtx D).length ≤ 16777216 := by rw [dtx_len]; omega
  apply WpC.eq
  refine w_fn H.fl rfl ?_; simp_arith only [B.Negative___len__, B.b_Negative___len__, attr_parts H.cp, dtx_len]
  all_goals (first | exact ⟨rfl, rfl⟩ | exact rfl | trivial)
theorem prop_w {f g : Str} {v : SV} {w h : Int} {D : List Nat} (hc : P.ca "Negative" f = some (.prop g)) (s : Ps) (q : Kn SV) (e : callP P n g [neg w h D] s.sto = .ok v s.sto) : @Wp _ (attrP ⟨callP P n, P.gl, P.ca⟩ f (neg w h D) s) q = q.run v s := by
  have : attrP ⟨callP P n, P.gl, P.ca⟩ f (neg w h D) s = .ok v s := by
    show attrR ⟨callP P n, P.gl, P.ca⟩ f "Negative" _ _ s = _
    unfold attrR
    show (match P.ca "Negative" f with
      | some (.slot i) => liftO (((([PV.tup [.int w, .int h, .str (dtx D)]] : List PV).map some)[i]?).join.map SV.val) s
      | some (.prop g) => propP (callP P n g [neg w h D] s.sto) s
      | _ => .stuck) = _
    rw [hc]
    show propP (callP P n g [neg w h D] s.sto) s = _
    rw [e]
    rfl
  rw [this, w_ok]
theorem w_width (H : HNeg P) (w h : Int) (D : List Nat) (s : Ps) (q : Kn SV) : @Wp _ (attrP ⟨callP P (n + 1), P.gl, P.ca⟩ "width" (neg w h D) s) q = q.run (.val (.int w)) s := prop_w H.cw s q (width_ok H w h D)
theorem w_height (H : HNeg P) (w h : Int) (D : List Nat) (s : Ps) (q : Kn SV) : @Wp _ (attrP ⟨callP P (n + 1), P.gl, P.ca⟩ "height" (neg w h D) s) q = q.run (.val (.int h)) s := prop_w H.ch s q (height_ok H w h D)
theorem w_dens (H : HNeg P) (w h : Int) (D : List Nat) (s : Ps) (q : Kn SV) : @Wp _ (attrP ⟨callP P (n + 1), P.gl, P.ca⟩ "densities" (neg w h D) s) q = q.run (.val (.str (dtx D))) s := prop_w H.cd s q (densities_ok H w h D)
theorem w_nlen (H : HNeg P) {w h : Int} {D : List Nat} (hD : D.length ≤ 9) (s : Ps) (q : Kn SV) : @Wp _ (lenP ⟨callP P (n + 1), P.gl, P.ca⟩ (neg w h D) s) q = q.run (.val (.int D.length)) s := by
  have : lenP ⟨callP P (n + 1), P.gl, P.ca⟩ (neg w h D) s = .ok (.val (.int D.length)) s := by
    show (match P.ca "Negative" "__len__" with
      | some (.meth g 1) => lenK (callP P (n + 1) g [neg w h D] s.sto) s
      | _ => .stuck) = _
    rw [H.cl]
    show lenK (callP P (n + 1) "Negative.__len__" [neg w h D] s.sto) s = _
    rw [len_ok H hD]
    unfold lenK
    simp only
    rw [if_pos ⟨by omega, by omega⟩]
  rw [this, w_ok]
theorem fig_cps : (Str.ofString "01234").cps.toList = [48, 49, 50, 51, 52] := by decide +kernel
theorem w_setAt0 (hc : P.ca "Negative" "parts" = some (.slot 0)) (x : PV) (l : Loc) (q : Kn Fl) : @Wp _ (setAt ⟨callP P n, P.gl, P.ca⟩ 0 "parts" x ⟨some (.val (.ref 0)) :: l, [.obj "Negative" [], .aux false]⟩) q = q.run .next ⟨some (.val (.ref 0)) :: l, [.obj "Negative" [some x], .aux true]⟩ := by
  have : setAt ⟨callP P n, P.gl, P.ca⟩ 0 "parts" x ⟨some (.val (.ref 0)) :: l, [.obj "Negative" [], .aux false]⟩ = .ok .next ⟨some (.val (.ref 0)) :: l, [.obj "Negative" [some x], .aux true]⟩ := by
    show (match P.ca "Negative" "parts" with
      | some (.slot j) => if !(([] : List (Option PV)).isEmpty || false) then R.stuck else R.ok Fl.next ⟨some (.val (.ref 0)) :: l, (([.obj "Negative" [], .aux false] : Sto).set 0 (.obj "Negative" (putF j x []))).set (0 + 1) (.aux true)⟩
      | _ => R.stuck) = _
    rw [hc]
    rfl
  rw [this, w_ok]
theorem init_ok (H : HNeg P) {w h : Int} {D : List Nat} (o : NegOk w h D) : callP P (n + 3) "Negative.__init__" [.ref 0, .int w, .int h, .str (dtx D)] [.obj "Negative" [], .aux false] = .ok (.val .non) [.obj "Negative" [some (.tup [.int w, .int h, .str (dtx D)])], .aux true] := by
  have h1 : 1 ≤ w ∧ w ≤ 4 := ⟨o.w1, o.w4⟩
  have h2 : 1 ≤ h ∧ h ≤ 4 := ⟨o.h1, o.h4⟩
  have hz : (dtx D).length ≤ 16777216 := by rw [dtx_len]; have := o.le; omega
  have hd : ∀ c ∈ (dtx D).cps.toList, c ∈ (Str.ofString "01234").cps.toList := fun c hc => by
    rw [dtx_cps] at hc
    obtain ⟨d, hd, rfl⟩ := List.mem_map.mp hc
    have := o.d4 d hd
    rw [fig_cps]
    simp
    omega
  have hk : ((dtx D).length : Int) = w * h := by rw [dtx_len]; exact o.len
  have o1 := o.w1
  have o2 := o.w4
  apply WpC.eq
  rcases H.ini with ⟨hi, hg⟩ | ⟨hi, hg⟩
  · refine w_fn hi rfl ?_; simp_arith only [B.Negative___init___1, B.b_Negative___init___1, is_number_ok H.nb, is_size_ok H.nb H.sz H.ms H.mc h1 h2 o.c9, are_figures_ok H.fg (w * h) (dtx D) _ hz hk hd, H.ms, hg, h1, w_setAt0 H.cp]
    all_goals (first | exact ⟨rfl, rfl⟩ | exact rfl | trivial)
  · refine w_fn hi rfl ?_; simp_arith only [B.Negative___init___2, B.b_Negative___init___2, is_number_ok H.nb, is_size_ok H.nb H.sz H.ms H.mc h1 h2 o.c9, are_figures_ok H.fg (w * h) (dtx D) _ hz hk hd, H.ms, hg, h1, w_setAt0 H.cp]
    all_goals (first | exact ⟨rfl, rfl⟩ | exact rfl | trivial)
theorem w_mkneg (H : HNeg P) {w h : Int} {D : List Nat} (o : NegOk w h D) (s : Ps) (q : Kn SV) : @Wp _ (mkP ⟨callP P (n + 3), P.gl, P.ca⟩ "Negative" [.int w, .int h, .str (dtx D)] s) q = q.run (.val (neg w h D)) s := by
  have : mkP ⟨callP P (n + 3), P.gl, P.ca⟩ "Negative" [.int w, .int h, .str (dtx D)] s = .ok (.val (neg w h D)) s := by
    show (match P.ca "Negative" "__init__" with
      | some (.meth g ar) => if ar = 4 ∧ noRefs [.int w, .int h, .str (dtx D)] = true then mkK "Negative" (callP P (n + 3) g [.ref 0, .int w, .int h, .str (dtx D)] [.obj "Negative" [], .aux false]) s else .stuck
      | _ => .stuck) = _
    rw [H.ci]
    show (if 4 = 4 ∧ noRefs [.int w, .int h, .str (dtx D)] = true then mkK "Negative" (callP P (n + 3) "Negative.__init__" [.ref 0, .int w, .int h, .str (dtx D)] [.obj "Negative" [], .aux false]) s else .stuck) = _
    rw [if_pos ⟨rfl, rfl⟩, init_ok H o]
    rfl
  rw [this, w_ok]
end

set_option linter.all false
set_option autoImplicit false
set_option maxRecDepth 100000
set_option maxHeartbeats 400000

/-! ### the script's row -/
def IsRow (ns : List Int) (o : SO) : Prop := ∃ i s t : Int, o = .row [.scr ns, .int i, .int s, .int t] ∧ 0 ≤ i
theorem isRow0 (ns : List Int) : IsRow ns (.row [.scr ns, .int 0, .int 0, .int 0]) := ⟨0, 0, 0, rfl, by omega⟩
section
variable {P : Pg} {n : Nat} {ns : List Int}
theorem nat_of {r m : Int} (h : 0 ≤ r) (h' : r < m) : ∃ k : Nat, r = (k : Int) ∧ (k : Int) < m := ⟨r.toNat, by omega, by omega⟩
theorem taken1 (hf : P.fs "_law_taken" = some B.law_taken_1) {o : SO} (ho : IsRow ns o) {m : Int} (hm : 0 < m ∧ m < 18446744073709551616) :
    @WpC (callP P (n + 1) "_law_taken" [.ref 0, .int m] [o]) ⟨fun v st => ∃ (r : Nat) (o' : SO), v = .val (.int r) ∧ st = [o'] ∧ (r : Int) < m ∧ IsRow ns o', noX⟩ := by
  obtain ⟨i, s, t, rfl, hi⟩ := ho
  have fin : ∀ (x : Int) (o' : SO), IsRow ns o' → ∃ (r : Nat) (o2 : SO), SV.val (.int (x % m)) = .val (.int r) ∧ [o'] = [o2] ∧ (r : Int) < m ∧ IsRow ns o2 := fun x o' h => by
    obtain ⟨k, e, h2⟩ := nat_of (Int.emod_nonneg x (by omega)) (Int.emod_lt_of_pos x hm.1)
    exact ⟨k, o', by rw [e], rfl, h2, h⟩
  have h1 := hm.1
  have h2 := hm.2
  refine w_fn hf rfl ?_; simp_arith only [B.law_taken_1, B.b_law_taken_1]
  refine w_split (fun h => ?_) fun h => ?_
  · simp_arith
    exact fin _ _ ⟨i, s, t / m, rfl, hi⟩
  simp_arith
  refine w_split (fun h => ?_) fun h => ?_
  · simp_arith
    exact fin _ _ ⟨i + 1, _, t, rfl, by omega⟩
  have hil : i + 1 ≤ ns.length := by have := of_decide_eq_false h; omega
  have e : L2.atI ns (i + 1 - 1) = some (ns[i.toNat]'(by omega)) := by
    rw [show i + 1 - 1 = i by omega, at_pos _ _ (by omega)]
    simp
  simp_arith only [e]
  refine w_split (fun h => ?_) fun h => ?_
  · simp_arith
    exact fin _ _ ⟨i + 1, _, _, rfl, by omega⟩
  · simp_arith
    exact fin _ _ ⟨i + 1, _, _, rfl, by omega⟩
theorem taken2 (hf : P.fs "_law_taken" = some B.law_taken_2) {o : SO} (ho : IsRow ns o) {m : Int} (hm : 0 < m ∧ m < 18446744073709551616) :
    @WpC (callP P (n + 1) "_law_taken" [.ref 0, .int m] [o]) ⟨fun v st => ∃ (r : Nat) (o' : SO), v = .val (.int r) ∧ st = [o'] ∧ (r : Int) < m ∧ IsRow ns o', noX⟩ := by
  obtain ⟨i, s, t, rfl, hi⟩ := ho
  have fin : ∀ (x : Int) (o' : SO), IsRow ns o' → ∃ (r : Nat) (o2 : SO), SV.val (.int (x % m)) = .val (.int r) ∧ [o'] = [o2] ∧ (r : Int) < m ∧ IsRow ns o2 := fun x o' h => by
    obtain ⟨k, e, h2⟩ := nat_of (Int.emod_nonneg x (by omega)) (Int.emod_lt_of_pos x hm.1)
    exact ⟨k, o', by rw [e], rfl, h2, h⟩
  have h1 := hm.1
  have h2 := hm.2
  refine w_fn hf rfl ?_; simp_arith only [B.law_taken_2, B.b_law_taken_2]
  refine w_split (fun h => ?_) fun h => ?_
  · simp_arith
    exact fin _ _ ⟨i, s, t / m, rfl, hi⟩
  simp_arith
  refine w_split (fun h => ?_) fun h => ?_
  · simp_arith
    exact fin _ _ ⟨i + 1, _, t, rfl, by omega⟩
  have hil : i + 1 ≤ ns.length := by have := of_decide_eq_false h; omega
  have e : L2.atI ns (i + 1 - 1) = some (ns[i.toNat]'(by omega)) := by
    rw [show i + 1 - 1 = i by omega, at_pos _ _ (by omega)]
    simp
  simp_arith only [e]
  refine w_split (fun h => ?_) fun h => ?_
  · simp_arith
    exact fin _ _ ⟨i + 1, _, _, rfl, by omega⟩
  · simp_arith
    exact fin _ _ ⟨i + 1, _, _, rfl, by omega⟩
/-- the next number is drawn -/
theorem w_draw (hf : P.fs "_law_taken" = some B.law_taken_1 ∨ P.fs "_law_taken" = some B.law_taken_2) {o : SO} (ho : IsRow ns o) {m : Int} {l : Loc} {q : Kn SV} (hm : 0 < m ∧ m < 18446744073709551616) (k : ∀ (r : Nat) (o' : SO), (r : Int) < m → IsRow ns o' → q.run (.val (.int r)) ⟨l, [o']⟩) :
    @Wp _ (calP (callP P (n + 1) "_law_taken" [.ref 0, .int m] [o]) ⟨l, [o]⟩) q := by
  refine w_calW ⟨l, [o]⟩ ?_
  have h : @WpC (callP P (n + 1) "_law_taken" [.ref 0, .int m] [o]) ⟨fun v st => ∃ (r : Nat) (o' : SO), v = .val (.int r) ∧ st = [o'] ∧ (r : Int) < m ∧ IsRow ns o', noX⟩ := hf.elim (fun h => taken1 h ho hm) fun h => taken2 h ho hm
  refine h.imp (fun v st z => ?_) fun _ _ _ z => z.elim
  obtain ⟨r, o', rfl, rfl, h1, h2⟩ := z
  exact k r o' h1 h2
end

set_option linter.all false
set_option autoImplicit false
set_option maxRecDepth 100000
set_option maxHeartbeats 400000

/-! ### figures and texts -/
theorem str_fig : ∀ n : Nat, n ≤ 9 → primP .str [.int (n : Int)] = some (.val (.str ⟨#[48 + n]⟩))
  | 0, _ => rfl | 1, _ => rfl | 2, _ => rfl | 3, _ => rfl | 4, _ => rfl | 5, _ => rfl | 6, _ => rfl | 7, _ => rfl | 8, _ => rfl | 9, _ => rfl
  | n + 10, h => by omega
theorem intT_fig : ∀ n : Fin 10, PySem.intText? ⟨#[48 + n.val]⟩ = some (n.val : Int) := by decide +kernel
theorem int_fig (n : Nat) (h : n ≤ 9) : primP .int [.str ⟨#[48 + n]⟩] = some (.val (.int (n : Int))) := by
  have e := intT_fig ⟨n, by omega⟩
  show (match PySem.intText? ⟨#[48 + n]⟩ with
    | some i => if (⟨#[48 + n]⟩ : Str).length ≤ 640 then some (SV.val (.int i)) else none
    | none => none) = _
  rw [show PySem.intText? ⟨#[48 + n]⟩ = some (n : Int) from e]
  rfl
theorem glue_fold (sep : Array Nat) : ∀ (xs : List Str) (a : Array Nat), (xs.foldl (fun acc p => acc ++ sep ++ p.cps) a).toList = a.toList ++ xs.flatMap fun y => sep.toList ++ y.cps.toList
  | [], a => by simp
  | x :: xs, a => by
    rw [List.foldl_cons, glue_fold sep xs, List.flatMap_cons]
    simp
theorem glue_cons (sep x : Str) (xs : List Str) : Txt.join sep (x :: xs) = stx (x.cps.toList ++ xs.flatMap fun y => sep.cps.toList ++ y.cps.toList) := by
  show (⟨xs.foldl (fun acc p => acc ++ sep.cps ++ p.cps) x.cps⟩ : Str) = _
  unfold stx
  congr 1
  apply Array.toList_inj.mp
  rw [glue_fold]
theorem glue_nil (sep : Str) : Txt.join sep [] = stx [] := (rfl)
theorem empty_cps : (Str.ofString "").cps.toList = [] := by decide +kernel
theorem glue_all : ∀ xs : List Str, Txt.join "" xs = stx (xs.flatMap fun y => y.cps.toList)
  | [] => rfl
  | x :: xs => by
    rw [glue_cons, List.flatMap_cons]
    simp only [empty_cps, List.nil_append]
theorem flat_one {α : Type} (c : α → Nat) : ∀ L : List α, ((L.map fun a => (⟨#[c a]⟩ : Str)).flatMap fun y => y.cps.toList) = L.map c
  | [] => rfl
  | a :: L => by
    rw [List.map_cons, List.flatMap_cons, flat_one c L]; rfl
theorem sum_one {α : Type} (c : α → Nat) : ∀ L : List α, ((L.map fun a => (⟨#[c a]⟩ : Str)).map (·.length)).sum = L.length
  | [] => rfl
  | a :: L => by
    rw [List.map_cons, List.map_cons, List.sum_cons, sum_one c L, List.length_cons]
    show 1 + L.length = _
    omega
/-- signs put together -/
theorem join_one {α : Type} (c : α → Nat) (L : List α) (h : L.length ≤ 16777216) : joinP "" (.lst (L.map fun a => PV.str ⟨#[c a]⟩)) = some (.val (.str (stx (L.map c)))) := by
  show joinL "" (L.map fun a => PV.str ⟨#[c a]⟩) = _
  unfold joinL
  rw [unStrs_map]
  have e : (Str.ofString "").length = 0 := by decide +kernel
  simp only
  rw [sum_one, e, if_pos (by omega), glue_all, flat_one]
theorem join_fig {α : Type} (g : α → Nat) (L : List α) (h : L.length ≤ 16777216) : joinP "" (.lst (L.map fun a => PV.str ⟨#[48 + g a]⟩)) = some (.val (.str (dtx (L.map g)))) := by
  rw [join_one (fun a => 48 + g a) L h]
  unfold dtx stx
  rw [List.map_map]
  rfl
theorem slo_map {α : Type} (f : α → PV) (L : List α) : sloP (.tup (L.map f)) (.int 1) = some (.val (.tup (L.tail.map f))) := by
  show some (SV.val (.tup (cutP (L.map f) (some 1) none))) = _
  congr 3
  unfold cutP
  have h1 : HT.sIx (L.map f).length 0 (some 1) = min 1 (L.map f).length := HT.sIx_nat _ _ 1
  rw [h1, HT.sIx_none]
  cases L with
  | nil => rfl
  | cons a L =>
    simp only [List.map_cons, List.length_cons, List.tail_cons]
    rw [show min 1 ((L.map f).length + 1) = 1 by omega, List.drop_succ_cons, List.drop_zero, List.take_of_length_le (by omega)]
/-! ### steps -/
def tone (S : List Int) (l : Int) : Nat := (S.filter fun x => decide (x ≤ l)).length
structure StepsOk (S : List Int) : Prop where
  l1 : 1 ≤ S.length
  l5 : S.length ≤ 5
  rng : ∀ x ∈ S, 1 ≤ x ∧ x ≤ 9999
  asc : S.Pairwise (· < ·)
theorem tone_le (S : List Int) (l : Int) : tone S l ≤ S.length := List.length_filter_le _ _
theorem asc_all : ∀ {S : List Int}, S.Pairwise (· < ·) → ((S.zip S.tail).all fun p => decide (p.1 < p.2)) = true
  | [], _ => rfl
  | [a], _ => rfl
  | a :: b :: S, h => by
    have h1 := List.pairwise_cons.mp h
    show (decide (a < b) && (((b :: S).zip S).all fun p => decide (p.1 < p.2))) = true
    rw [decide_eq_true (h1.1 b (by simp)), Bool.true_and]
    exact asc_all h1.2
section
variable {P : Pg} {n : Nat} {st : Sto}
theorem tone_of_ok (hf : P.fs "tone_of" = some B.tone_of) (S : List Int) (l : Int) (hl : S.length ≤ 16777216) : callP P (n + 1) "tone_of" [tupI S, .int l] st = .ok (.val (.int (tone S l))) st := by
  apply WpC.eq
  refine w_fn hf rfl ?_; simp_arith only [B.tone_of, B.b_tone_of]
  apply w_compF
  focus
    intro a ha
    simp_arith
    apply w_filt
    focus
      intro hb
      simp_arith
      first | exact ⟨rfl, rfl⟩ | exact rfl
    exact rfl
  · exact hl
  simp_arith
  all_goals (first | exact ⟨rfl, rfl⟩ | exact rfl | trivial)
theorem are_steps_ok (hn : P.fs "is_number" = some B.is_number) (hf : P.fs "are_steps" = some B.are_steps) (g1 : P.gl "MAX_STEPS" = some (.int 5)) (g2 : P.gl "MAX_LIGHT" = some (.int 9999)) {S : List Int} (h : StepsOk S) : callP P (n + 2) "are_steps" [tupI S] st = .ok (.val (.bl true)) st := by
  have h1 := h.l1
  have h5 := h.l5
  apply WpC.eq
  refine w_fn hf rfl ?_; simp_arith only [B.are_steps, B.b_are_steps, g1, g2]
  apply w_compM
  focus
    intro a ha
    simp_arith only [is_number_ok hn, g2]
    first | exact ⟨rfl, rfl⟩ | exact rfl
  · omega
  have e : (S.all fun a => decide (1 ≤ a ∧ a ≤ 9999)) = true := List.all_eq_true.mpr fun x hx => decide_eq_true (h.rng x hx)
  simp_arith only [e, slo_map]
  apply w_compM
  focus
    intro a ha
    simp_arith
    first | exact ⟨rfl, rfl⟩ | exact rfl
  · simp; omega
  simp_arith
  rw [asc_all h.asc]
theorem check_steps_ok (hn : P.fs "is_number" = some B.is_number) (hf : P.fs "are_steps" = some B.are_steps) (hc : P.fs "check_steps" = some B.check_steps) (g1 : P.gl "MAX_STEPS" = some (.int 5)) (g2 : P.gl "MAX_LIGHT" = some (.int 9999)) {S : List Int} (h : StepsOk S) :
    callP P (n + 3) "check_steps" [tupI S] st = .ok (.val .non) st := by
  apply WpC.eq
  refine w_fn hc rfl ?_; simp_arith only [B.check_steps, B.b_check_steps, are_steps_ok hn hf g1 g2 h]
  all_goals (first | exact ⟨rfl, rfl⟩ | exact rfl | trivial)
theorem are_cells_ok (hn : P.fs "is_number" = some B.is_number) (hf : P.fs "are_cells" = some B.are_cells) {k : Int} {C : List Int} (hl : C.length ≤ 16777216) (h1 : ∀ x ∈ C, 0 ≤ x ∧ x < k) (h2 : C.Pairwise (· < ·)) : callP P (n + 2) "are_cells" [.int k, tupI C] st = .ok (.val (.bl true)) st := by
  apply WpC.eq
  refine w_fn hf rfl ?_; simp_arith only [B.are_cells, B.b_are_cells]
  apply w_compM
  focus
    intro a ha
    simp_arith only [is_number_ok hn]
    first | exact ⟨rfl, rfl⟩ | exact rfl
  · exact hl
  have e : (C.all fun a => decide (0 ≤ a ∧ a ≤ k - 1)) = true := List.all_eq_true.mpr fun x hx => decide_eq_true (by have := h1 x hx; omega)
  simp_arith only [e, slo_map]
  apply w_compM
  focus
    intro a ha
    simp_arith
    first | exact ⟨rfl, rfl⟩ | exact rfl
  · simp; omega
  simp_arith
  rw [asc_all h2]
end

set_option linter.all false
set_option autoImplicit false
set_option maxRecDepth 100000
set_option maxHeartbeats 400000

theorem fig_at {r : Nat} (h : r < 5) : (Str.ofString "01234").cps.toList[r]? = some (48 + r) := by
  rw [fig_cps]
  match r, h with
  | 0, _ => rfl
  | 1, _ => rfl
  | 2, _ => rfl
  | 3, _ => rfl
  | 4, _ => rfl
theorem idx_fig {st : Sto} {r : Nat} (h : r < 5) : idxP st (.str "01234") (.int (r : Int)) = some (.str ⟨#[48 + r]⟩) := by
  have e : (Str.ofString "01234").length = 5 := by decide +kernel
  rw [idx_s st _ _ (by rw [e]; omega), at_nat, fig_at h]
  rfl
theorem mul_bd {w h a b : Int} (h1 : 1 ≤ w) (h2 : w ≤ a) (h3 : 1 ≤ h) (h4 : h ≤ b) : 1 ≤ w * h ∧ w * h ≤ a * b := by
  have e1 : 1 * 1 ≤ w * h := Int.mul_le_mul h1 h3 (by omega) (by omega)
  exact ⟨by simpa using e1, Int.mul_le_mul h2 h4 (by omega) (by omega)⟩
abbrev Drw (P : Pg) : Prop := P.fs "_law_taken" = some B.law_taken_1 ∨ P.fs "_law_taken" = some B.law_taken_2
section
variable {P : Pg} {n : Nat} {ns : List Int}
theorem law_negative_c (H : HNeg P) (hd : Drw P) (hf : P.fs "_law_negative" = some B.law_negative_2) {o : SO} (ho : IsRow ns o) {m : Int} (hm : 1 ≤ m ∧ m ≤ 3) :
    @WpC (callP P (n + 4) "_law_negative" [.ref 0, .int m] [o]) ⟨fun v st => ∃ (w h : Int) (D : List Nat) (o' : SO), v = .val (neg w h D) ∧ st = [o'] ∧ IsRow ns o' ∧ NegOk w h D ∧ w ≤ 3 ∧ h ≤ m, noX⟩ := by
  refine w_fn hf rfl ?_; simp_arith only [B.law_negative_2, B.b_law_negative_2]
  refine w_draw hd ho (by omega) fun r1 o1 hr1 ho1 => ?_
  simp_arith
  refine w_draw hd ho1 (by omega) fun r2 o2 hr2 ho2 => ?_
  obtain ⟨w, hw⟩ : ∃ w : Int, w = 1 + r1 := ⟨_, rfl⟩
  obtain ⟨h, hh⟩ : ∃ h : Int, h = 1 + r2 := ⟨_, rfl⟩
  have b1 : 1 ≤ w ∧ w ≤ 3 := by omega
  have b2 : 1 ≤ h ∧ h ≤ m := by omega
  obtain ⟨b3, b4⟩ := mul_bd b1.1 b1.2 b2.1 b2.2
  have b5 : w * h ≤ 9 := by omega
  simp_arith only [← hw, ← hh]
  refine w_compI (β := List Nat × SO) (J := fun pre b => b.1.length = pre.length ∧ (∀ d ∈ b.1, d ≤ 4) ∧ IsRow ns b.2) (fun b => [b.2]) (fun b => b.1.map fun d => PV.str ⟨#[48 + d]⟩) ([], o2) ?_ ⟨rfl, by simp, ho2⟩ rfl rfl (fun pre a post b e hb => ?_) fun b hb => ?_
  · rw [List.length_range]; omega
  · simp_arith
    refine w_draw hd hb.2.2 (by omega) fun r o3 hr ho3 => ?_
    simp_arith only [idx_fig (show r < 5 by omega)]
    refine ⟨(b.1 ++ [r], o3), ⟨by simp [hb.1], fun d hd => ?_, ho3⟩, rfl, by simp⟩
    rcases List.mem_append.mp hd with h | h
    · exact hb.2.1 d h
    · have : d = r := by simpa using h
      omega
  · obtain ⟨D, o3⟩ := b
    obtain ⟨c1, c2, c3⟩ := hb
    have c1 : D.length = (w * h).toNat := by simpa using c1
    have ok : NegOk w h D := ⟨b1.1, by omega, b2.1, by omega, b5, by omega, c2⟩
    have hj := join_fig (fun d => d) D (by omega)
    simp_arith only [hj, List.map_id', w_mkneg H ok]
    exact ⟨w, h, D, o3, rfl, rfl, c3, ok, b1.2, b2.2⟩
theorem law_steps_c (hd : Drw P) (hf : P.fs "_law_steps" = some B.law_steps) {o : SO} (ho : IsRow ns o) :
    @WpC (callP P (n + 2) "_law_steps" [.ref 0] [o]) ⟨fun v st => ∃ (S : List Int) (o' : SO), v = .val (tupI S) ∧ st = [o'] ∧ IsRow ns o' ∧ StepsOk S ∧ ∀ x ∈ S, x ≤ 1000, noX⟩ := by
  refine w_fn hf rfl ?_; simp_arith only [B.law_steps, B.b_law_steps]
  refine w_draw hd ho (by omega) fun r1 o1 hr1 ho1 => ?_
  simp_arith
  refine w_each (β := List Int × Int × SO) (J := fun pre b => b.1.length = pre.length ∧ (∀ x ∈ b.1, 1 ≤ x ∧ x ≤ b.2.1) ∧ b.1.Pairwise (· < ·) ∧ 0 ≤ b.2.1 ∧ b.2.1 ≤ 200 * pre.length ∧ IsRow ns b.2.2) (fun b => [(1, .own (b.1.map .int)), (2, .val (.int b.2.1))]) (fun b => [b.2.2]) [3] ([], 0, o1) ⟨rfl, by simp, List.Pairwise.nil, by simp, by simp, ho1⟩ ?_ rfl (fun pre a post b x e hb => ?_) fun b x hb => ?_
  · simp_arith only [agr_cons, agr_nil]
    simp
  · obtain ⟨S, t, o2⟩ := b
    obtain ⟨c1, c2, c3, c4, c5, c6⟩ := hb
    dsimp only at c1 c2 c3 c4 c5 c6
    have hp : pre.length < (1 + (r1 : Int)).toNat := by
      have := congrArg List.length e
      simp at this
      omega
    simp_arith
    refine w_draw hd c6 (by omega) fun r o3 hr ho3 => ?_
    obtain ⟨y, hy, hy1, hy2⟩ : ∃ y : Int, L2.atI [PV.int 8, PV.int 60, PV.int 200] (r : Int) = some (.int y) ∧ 0 < y ∧ y ≤ 200 := by
      rw [at_nat]
      match r, hr with
      | 0, _ => exact ⟨8, rfl, by omega, by omega⟩
      | 1, _ => exact ⟨60, rfl, by omega, by omega⟩
      | 2, _ => exact ⟨200, rfl, by omega, by omega⟩
      | r + 3, hr => omega
    simp_arith only [hy]
    refine w_draw hd ho3 (by omega) fun r3 o4 hr3 ho4 => ?_
    simp_arith
    refine ⟨(S ++ [t + 1 + r3], t + 1 + r3, o4), ⟨by simp [c1], fun x hx => ?_, ?_, by dsimp only; omega, ?_, ho4⟩, ?_, rfl⟩
    · dsimp only at hx ⊢
      rcases List.mem_append.mp hx with h | h
      · have := c2 x h
        omega
      · have : x = t + 1 + r3 := by simpa using h
        omega
    · dsimp only
      rw [List.pairwise_append]
      refine ⟨c3, by simp, fun x hx y hy => ?_⟩
      have h1 := c2 x hx
      have h2 : y = t + 1 + r3 := by simpa using hy
      omega
    · dsimp only
      omega
    · simp_arith only [agr_cons, agr_nil]
      simp
  · obtain ⟨S, t, o2⟩ := b
    obtain ⟨c1, c2, c3, c4, c5, c6⟩ := hb
    dsimp only at c1 c2 c3 c4 c5 c6
    have c1 : S.length = (1 + (r1 : Int)).toNat := by simpa using c1
    simp_arith
    refine ⟨S, o2, rfl, rfl, c6, ⟨by omega, by omega, fun x hx => ?_, c3⟩, fun x hx => ?_⟩
    · have := c2 x hx
      simp at c5
      omega
    · have := c2 x hx
      simp at c5
      omega
end

set_option linter.all false
set_option autoImplicit false
set_option maxRecDepth 100000
set_option maxHeartbeats 1000000

/-! ### deeds -/
inductive Dd where
  | ex (t : Int) (C : List Int)
  | dr (t p : Int)
  | fl
def Dd.enc : Dd → PV
  | .ex t C => .tup [.str "expose", .int t, tupI C]
  | .dr t p => .tup [.str "draw", .int t, .int p]
  | .fl => .tup [.str "flip"]
def Dd.isFl : Dd → Bool
  | .fl => true
  | _ => false
/-- a deed of a negative of N cells -/
def Dd.Ok (N : Nat) : Dd → Prop
  | .ex t C => 1 ≤ t ∧ t ≤ 99 ∧ (∀ x ∈ C, 0 ≤ x ∧ x < (N : Int)) ∧ C.Pairwise (· < ·)
  | .dr t p => 1 ≤ t ∧ t ≤ 99 ∧ 1 ≤ p ∧ p ≤ 99
  | .fl => True
def Dd.ticks (w : Int) (k : Nat) : Dd → Int
  | .ex t C => if (k : Int) ∈ C then 0 else t
  | .dr t p => max 0 (t - p * ((k : Int) % w))
  | .fl => 0
def wt (d : Nat) : Int := match d with
  | 0 => 16 | 1 => 8 | 2 => 4 | 3 => 2 | _ => 1
theorem wt_bd (d : Nat) : 1 ≤ wt d ∧ wt d ≤ 16 := by
  match d with
  | 0 => exact ⟨by decide, by decide⟩
  | 1 => exact ⟨by decide, by decide⟩
  | 2 => exact ⟨by decide, by decide⟩
  | 3 => exact ⟨by decide, by decide⟩
  | d + 4 => exact ⟨by simp [wt], by simp [wt]⟩
theorem wt_at {d : Nat} (h : d ≤ 4) : L2.atI [PV.int 16, PV.int 8, PV.int 4, PV.int 2, PV.int 1] (d : Int) = some (.int (wt d)) := by
  rw [at_nat]
  match d, h with
  | 0, _ => rfl
  | 1, _ => rfl
  | 2, _ => rfl
  | 3, _ => rfl
  | 4, _ => rfl
/-- the cell that lies there when the negative is turned over -/
def mir (w : Int) (k : Nat) : Nat := ((k : Int) + w - 1 - 2 * ((k : Int) % w)).toNat
def plc (w : Int) (ov : Bool) (k : Nat) : Nat := if ov then mir w k else k
theorem mir_bd {w h : Int} {k : Nat} (hw : 1 ≤ w) (hk : (k : Int) < w * h) : (mir w k : Int) = (k : Int) + w - 1 - 2 * ((k : Int) % w) ∧ (mir w k : Int) < w * h := by
  have h1 := Int.emod_nonneg (k : Int) (show w ≠ 0 by omega)
  have h2 := Int.emod_lt_of_pos (k : Int) (show 0 < w by omega)
  have h3 := Int.mul_ediv_add_emod (k : Int) w
  have hq : (k : Int) / w < h := Int.ediv_lt_of_lt_mul (by omega) (by rw [Int.mul_comm]; exact hk)
  have hq0 : 0 ≤ (k : Int) / w := Int.ediv_nonneg (by omega) (by omega)
  have h4 : w * ((k : Int) / w + 1) ≤ w * h := Int.mul_le_mul_of_nonneg_left (by omega) (by omega)
  have h5 : w * ((k : Int) / w + 1) = w * ((k : Int) / w) + w := by rw [Int.mul_add, Int.mul_one]
  have h6 : 0 ≤ w * ((k : Int) / w) := Int.mul_nonneg (by omega) hq0
  have e : (mir w k : Int) = (k : Int) + w - 1 - 2 * ((k : Int) % w) := by
    unfold mir
    omega
  exact ⟨e, by omega⟩
def den1 (D : List Nat) (k : Nat) : Nat := D.getD k 0
/-- light of a cell, and how the negative lies, behind deeds -/
def lgt (w : Int) (D : List Nat) (k : Nat) : List Dd → Bool → Int
  | [], _ => 0
  | d :: R, ov => d.ticks w k * wt (den1 D (plc w (ov != d.isFl) k)) + lgt w D k R (ov != d.isFl)
def ovr : List Dd → Bool → Bool
  | [], ov => ov
  | d :: R, ov => ovr R (ov != d.isFl)
theorem lgt_app (w : Int) (D : List Nat) (k : Nat) : ∀ (R R' : List Dd) (ov : Bool), lgt w D k (R ++ R') ov = lgt w D k R ov + lgt w D k R' (ovr R ov)
  | [], R', ov => by simp [lgt, ovr]
  | d :: R, R', ov => by
    show _ + lgt w D k (R ++ R') _ = _ + lgt w D k R _ + lgt w D k R' _
    rw [lgt_app w D k R R', ovr]
    omega
theorem ovr_app : ∀ (R R' : List Dd) (ov : Bool), ovr (R ++ R') ov = ovr R' (ovr R ov)
  | [], R', ov => rfl
  | d :: R, R', ov => by show ovr (R ++ R') _ = _; rw [ovr_app R R']; rfl
section
variable {P : Pg} {n : Nat} {st : Sto}
theorem isFl_eq (d : Dd) : (match d.enc with | .tup (x :: _) => x | _ => .non) = .str (match d with | .ex _ _ => "expose" | .dr _ _ => "draw" | .fl => "flip") := by cases d <;> rfl
theorem s_ex_fl : decide (Str.ofString "expose" = Str.ofString "flip") = false := by decide +kernel
theorem s_dr_fl : decide (Str.ofString "draw" = Str.ofString "flip") = false := by decide +kernel
theorem s_dr_ex : decide (Str.ofString "draw" = Str.ofString "expose") = false := by decide +kernel
theorem s_ex_dr : decide (Str.ofString "expose" = Str.ofString "draw") = false := by decide +kernel
theorem s_fl_ex : decide (Str.ofString "flip" = Str.ofString "expose") = false := by decide +kernel
theorem s_fl_dr : decide (Str.ofString "flip" = Str.ofString "draw") = false := by decide +kernel
theorem open_ok (H : HNeg P) (hf : P.fs "_law_open" = some B.law_open) {w h : Int} {D : List Nat} (o : NegOk w h D) {d : Dd} (hd : d.Ok D.length) :
    callP P (n + 2) "_law_open" [neg w h D, d.enc] st = .ok (.own ((List.range D.length).map fun (k : Nat) => PV.int (d.ticks w k))) st := by
  have hD := o.le
  have o1 := o.w1
  apply WpC.eq
  cases d with
  | ex t C =>
    obtain ⟨h1, h2, h3, h4⟩ := hd
    unfold Dd.enc
    refine w_fn hf rfl ?_; simp_arith only [B.law_open, B.b_law_open, s_ex_fl, w_nlen H hD]
    apply w_compM
    focus
      intro a ha
      simp_arith
      first | exact ⟨rfl, rfl⟩ | exact rfl
    · rw [List.length_range]; omega
    simp_arith
    congr 2
    funext k
    show PV.int _ = PV.int _
    congr 1
    show t * (if (!decide ((k : Int) ∈ C)) = true then 1 else 0) = if (k : Int) ∈ C then 0 else t
    by_cases hk : (k : Int) ∈ C <;> simp [hk]
  | dr t p =>
    obtain ⟨h1, h2, h3, h4⟩ := hd
    unfold Dd.enc
    refine w_fn hf rfl ?_; simp_arith only [B.law_open, B.b_law_open, s_dr_fl, s_dr_ex, w_nlen H hD]
    apply w_compM
    focus
      intro a ha
      simp_arith only [w_width H]
      first | exact ⟨rfl, rfl⟩ | exact rfl
    · rw [List.length_range]; omega
    simp_arith
    all_goals (first | exact ⟨rfl, rfl⟩ | exact rfl | trivial)
  | fl =>
    unfold Dd.enc
    refine w_fn hf rfl ?_; simp_arith only [B.law_open, B.b_law_open, w_nlen H hD]
    congr 1
    apply List.ext_getElem
    · simp
    · intro i h1 h2
      simp [Dd.ticks]
def Dd.nm : Dd → Str
  | .ex _ _ => "expose"
  | .dr _ _ => "draw"
  | .fl => "flip"
theorem idx_dd0 (st : Sto) (d : Dd) : idxP st d.enc (.int 0) = some (.str d.nm) := by cases d <;> rfl
theorem nm_fl (d : Dd) : decide (d.nm = Str.ofString "flip") = d.isFl := by
  cases d with
  | ex t C => exact s_ex_fl
  | dr t p => exact s_dr_fl
  | fl => exact decide_eq_true rfl
theorem range_split {N a : Nat} {pre post : List Nat} (e : List.range N = pre ++ a :: post) : a = pre.length ∧ a < N := by
  have h1 : (List.range N)[pre.length]? = some a := by rw [e]; simp
  have h2 : pre.length < N := by
    have := congrArg List.length e
    simp at this
    omega
  rw [List.getElem?_range h2] at h1
  have := Option.some.inj h1
  omega
theorem den_at {D : List Nat} {k : Nat} (h : k < D.length) : D[k]? = some (den1 D k) := by
  unfold den1
  rw [List.getD_eq_getElem?_getD, List.getElem?_eq_getElem h]
  rfl
theorem den_le {w h : Int} {D : List Nat} (o : NegOk w h D) {k : Nat} (hk : k < D.length) : den1 D k ≤ 4 := by
  have := den_at hk
  exact o.d4 _ (List.mem_of_getElem? this)
theorem dens_idx {w h : Int} {D : List Nat} (o : NegOk w h D) (st : Sto) {k : Nat} (hk : k < D.length) : idxP st (.str (dtx D)) (.int (k : Int)) = some (.str ⟨#[48 + den1 D k]⟩) := by
  have := o.le
  rw [idx_s st _ _ (by rw [dtx_len]; omega), at_nat, dtx_cps, List.getElem?_map, den_at hk]
  rfl
/-- up to j changed -/
def upto (N : Nat) (F g : Nat → Int) (j : Nat) : List PV := (List.range N).map fun (k : Nat) => PV.int (if k < j then F k + g k else F k)
theorem upto_len (N : Nat) (F g : Nat → Int) (j : Nat) : (upto N F g j).length = N := by simp [upto]
theorem upto_at {N : Nat} {F g : Nat → Int} {j : Nat} (h : j < N) : (upto N F g j)[j]? = some (.int (F j)) := by
  unfold upto
  rw [List.getElem?_map, List.getElem?_range h]
  simp
theorem upto_set {N : Nat} {F g : Nat → Int} {j : Nat} (h : j < N) : (upto N F g j).set j (.int (F j + g j)) = upto N F g (j + 1) := by
  apply List.ext_getElem?
  intro i
  by_cases hi : i < N
  · by_cases hij : j = i
    · subst hij
      rw [List.getElem?_set_self (by rw [upto_len]; exact hi)]
      unfold upto
      rw [List.getElem?_map, List.getElem?_range hi]
      simp
    · rw [List.getElem?_set_ne hij]
      unfold upto
      rw [List.getElem?_map, List.getElem?_map, List.getElem?_range hi]
      simp only [Option.map_some]
      by_cases h1 : i < j
      · rw [if_pos h1, if_pos (by omega)]
      · rw [if_neg h1, if_neg (by omega)]
  · rw [List.getElem?_eq_none (by rw [List.length_set, upto_len]; omega), List.getElem?_eq_none (by rw [upto_len]; omega)]
theorem upto_zero (N : Nat) (F g : Nat → Int) : upto N F g 0 = (List.range N).map fun (k : Nat) => PV.int (F k) := by
  unfold upto
  congr 1
theorem upto_all (N : Nat) (F g : Nat → Int) : upto N F g N = (List.range N).map fun (k : Nat) => PV.int (F k + g k) := by
  unfold upto
  apply List.map_congr_left
  intro k hk
  rw [if_pos (List.mem_range.mp hk)]
theorem rep_zero (N : Nat) : List.replicate N (PV.int 0) = (List.range N).map fun (_ : Nat) => PV.int 0 := by
  apply List.ext_getElem
  · simp
  · intro i h1 h2
    simp
theorem lights_ok (H : HNeg P) (ho : P.fs "_law_open" = some B.law_open) (hf : P.fs "_law_lights" = some B.law_lights) {w h : Int} {D : List Nat} (o : NegOk w h D) {R : List Dd} (hR : ∀ d ∈ R, d.Ok D.length) :
    callP P (n + 3) "_law_lights" [neg w h D, .tup (R.map Dd.enc)] st = .ok (.val (.tup [.lst ((List.range D.length).map fun (k : Nat) => PV.int (lgt w D k R false)), .bl (ovr R false)])) st := by
  have hD := o.le
  have o1 := o.w1
  have o4 := o.w4
  have oN := o.len
  apply WpC.eq
  refine w_fn hf rfl ?_; simp_arith only [B.law_lights, B.b_law_lights, w_nlen H hD, w_width H]
  refine w_eachD (fun pre => [(2, .own ((List.range D.length).map fun (k : Nat) => PV.int (lgt w D k pre false))), (3, .val (.bl (ovr pre false)))]) [5, 6, 7, 8, 9] ?_ (fun pre a post x e => ?_) fun x => ?_
  · simp_arith only [agr_cons, agr_nil, rep_zero]
    simp [lgt, ovr]
  · have ha := hR a (by rw [e]; simp)
    obtain ⟨b, hb⟩ : ∃ b, b = !(ovr pre false == a.isFl) := ⟨_, rfl⟩
    simp_arith only [idx_dd0, nm_fl, open_ok H ho o ha, w_nlen H hD, ← hb]
    refine w_eachD (fun (pre2 : List Nat) => [(2, .own (upto D.length (fun k => lgt w D k pre false) (fun k => a.ticks w k * wt (den1 D (plc w b k))) pre2.length))]) [7, 8, 9] ?_ (fun pre2 c post2 y e2 => ?_) fun y => ?_
    · simp_arith only [agr_cons, agr_nil, upto_zero]
      simp
    · obtain ⟨e3, e4⟩ := range_split e2
      obtain ⟨m1, m2⟩ := mir_bd (w := w) (h := h) (k := c) o1 (by omega)
      have m3 : mir w c < D.length := by omega
      rw [← e3]
      have hu := upto_at (N := D.length) (F := fun k => lgt w D k pre false) (g := fun k => a.ticks w k * wt (den1 D (plc w b k))) e4
      have hs := upto_set (N := D.length) (F := fun k => lgt w D k pre false) (g := fun k => a.ticks w k * wt (den1 D (plc w b k))) e4
      have tk : -18446744073709551616 < wt (den1 D (plc w b c)) ∧ wt (den1 D (plc w b c)) < 18446744073709551616 := by have := wt_bd (den1 D (plc w b c)); omega
      cases b with
      | true =>
        have hp : plc w true c = mir w c := rfl
        rw [hp] at tk
        simp_arith only [w_dens H, ← m1, dens_idx o st m3, int_fig _ (show den1 D (mir w c) ≤ 9 by have := den_le o m3; omega), wt_at (den_le o m3), hu, List.getElem?_map, at_range e4, upto_len, ix_nat _ _ e4]
        rw [hp] at hs
        rw [hs]
        simp [agr_cons, agr_nil, e3]
      | false =>
        have hp : plc w false c = c := rfl
        rw [hp] at tk
        simp_arith only [w_dens H, dens_idx o st e4, int_fig _ (show den1 D c ≤ 9 by have := den_le o e4; omega), wt_at (den_le o e4), hu, List.getElem?_map, at_range e4, upto_len, ix_nat _ _ e4]
        rw [hp] at hs
        rw [hs]
        simp [agr_cons, agr_nil, e3]
    · rw [List.length_range, upto_all]
      simp_arith
      simp only [agr_cons, agr_nil, ovr_app, lgt_app]
      simp [hb, ovr, lgt]
      exact ⟨fun _ _ => rfl, rfl⟩
  · simp_arith
    all_goals (first | exact ⟨rfl, rfl⟩ | exact rfl | trivial)
end

set_option linter.all false
set_option autoImplicit false
set_option maxRecDepth 100000
set_option maxHeartbeats 1000000

/-! ### data compared with itself -/
mutual
theorem eqv_self : ∀ (n : Nat) (a : PV), shal n a = true → eqv a a = true
  | _, .non, _ => by simp [eqv]
  | _, .bl b, _ => by simp [eqv]
  | _, .int i, _ => by simp [eqv]
  | _, .str z, _ => by simp [eqv]
  | n + 1, .tup xs, h => by
    rw [shal] at h
    rw [eqv]
    exact eqvAll_self n xs h
  | n + 1, .lst xs, h => by
    rw [shal] at h
    rw [eqv]
    exact eqvAll_self n xs h
  | 0, .tup xs, h => by simp [shal] at h
  | 0, .lst xs, h => by simp [shal] at h
  | n, .scr _, h => by cases n <;> simp [shal] at h
  | n, .ref _, h => by cases n <;> simp [shal] at h
  | n, .rcd _ _, h => by cases n <;> simp [shal] at h
theorem eqvAll_self : ∀ (n : Nat) (xs : List PV), shalAll n xs = true → eqvAll xs xs = true
  | _, [], _ => by simp [eqvAll]
  | n, x :: xs, h => by
    rw [shalAll, Bool.and_eq_true] at h
    rw [eqvAll, eqv_self n x h.1, eqvAll_self n xs h.2]
    rfl
end
theorem cmp_neSelfT {xs : List PV} (h : shal 60 (.tup xs) = true) : cmpP .NotEq (.tup xs) (.tup xs) = some false := by
  show (if shal 60 (.tup xs) && shal 60 (.tup xs) then some (!eqv (.tup xs) (.tup xs)) else none) = _
  rw [h, eqv_self 60 _ h]
  rfl
theorem cmp_neSelfL {xs : List PV} (h : shal 60 (.lst xs) = true) : cmpP .NotEq (.lst xs) (.lst xs) = some false := by
  show (if shal 60 (.lst xs) && shal 60 (.lst xs) then some (!eqv (.lst xs) (.lst xs)) else none) = _
  rw [h, eqv_self 60 _ h]
  rfl
theorem cmp_eqSelfT {xs : List PV} (h : shal 60 (.tup xs) = true) : cmpP .Eq (.tup xs) (.tup xs) = some true := by
  show (if shal 60 (.tup xs) && shal 60 (.tup xs) then some (eqv (.tup xs) (.tup xs)) else none) = _
  rw [h, eqv_self 60 _ h]
  rfl
theorem shalAll_map {α : Type} (n : Nat) (f : α → PV) (h : ∀ a, shal n (f a) = true) : ∀ L : List α, shalAll n (L.map f) = true
  | [] => by rw [List.map_nil, shalAll]
  | a :: L => by rw [List.map_cons, shalAll, h a, shalAll_map n f h L]; rfl
theorem shal_int (n : Nat) (i : Int) : shal n (.int i) = true := by cases n <;> simp [shal]
theorem shal_ex (n : Nat) (t : Int) (C : List Int) : shal (n + 2) (Dd.enc (.ex t C)) = true := by
  show shal (n + 2) (.tup [.str "expose", .int t, .tup (C.map .int)]) = true
  rw [shal, shalAll, shalAll, shalAll, shalAll, shal_int]
  have e1 : shal (n + 1) (.str "expose") = true := by
    rw [shal]
    decide +kernel
  have e2 : shal (n + 1) (.tup (C.map .int)) = true := by
    rw [shal]
    exact shalAll_map n PV.int (shal_int n) C
  rw [e1, e2]
  rfl

set_option linter.all false
set_option autoImplicit false
set_option maxRecDepth 100000
set_option maxHeartbeats 400000

/-! ### the least of rows of whole numbers -/
theorem toDatas_ints : ∀ L : List Int, toDatas (L.map .int) = L.map PyData.int
  | [] => by simp [toDatas]
  | a :: L => by
    rw [List.map_cons, toDatas, toDatas_ints L, toData, List.map_cons]
theorem eqvAll_ints : ∀ A B : List Int, eqvAll (A.map .int) (B.map .int) = decide (A = B)
  | [], [] => by simp [eqvAll]
  | [], _ :: _ => by simp [eqvAll]
  | _ :: _, [] => by simp [eqvAll]
  | a :: A, b :: B => by
    rw [List.map_cons, List.map_cons, eqvAll, eqvAll_ints A B, eqv]
    by_cases h : a = b <;> by_cases h' : A = B <;> simp [h, h']
theorem shalAll_ints (n : Nat) : ∀ L : List Int, shalAll n (L.map .int) = true
  | [] => by rw [List.map_nil, shalAll]
  | a :: L => by
    rw [List.map_cons, shalAll, shalAll_ints n L]
    cases n <;> simp [shal]
theorem shal_tupI (n : Nat) (L : List Int) : shal (n + 1) (.tup (L.map .int)) = true := by
  rw [shal, shalAll_ints]
theorem cmp_eqT (A B : List Int) : cmpP .Eq (.tup (A.map .int)) (.tup (B.map .int)) = some (decide (A = B)) := by
  show (if shal 60 _ && shal 60 _ then some (eqv (.tup (A.map .int)) (.tup (B.map .int))) else none) = _
  rw [shal_tupI, shal_tupI, eqv, eqvAll_ints]
  rfl
theorem cmp_neT (A B : List Int) : cmpP .NotEq (.tup (A.map .int)) (.tup (B.map .int)) = some (!decide (A = B)) := by
  show (if shal 60 _ && shal 60 _ then some (!eqv (.tup (A.map .int)) (.tup (B.map .int))) else none) = _
  rw [shal_tupI, shal_tupI, eqv, eqvAll_ints]
  rfl
theorem shal_mono1 (n : Nat) (L : List Int) : shal (n + 2) (.tup [.int 0, .tup (L.map .int)]) = true := by
  rw [shal, shalAll, shalAll, shalAll, shal_tupI]
  simp [shal]
theorem ltP_rows (A B : List Int) : ltP (.tup (A.map .int)) (.tup (B.map .int)) = decide (A < B) := by
  unfold ltP
  rw [toData, toData, toDatas_ints, toDatas_ints, PySem.W.dataLt_tuple]
  exact PySem.W.dataLt_ints A B
theorem alike_rows (A B : List Int) : PySem.W.alike (toData (.tup (A.map .int))) (toData (.tup (B.map .int))) = true := by
  rw [toData, toData, toDatas_ints, toDatas_ints, PySem.W.alike]
  exact PySem.W.alike_ints A B
theorem dEqv_ints (A B : List Int) : PyData.eqv (.tuple (A.map .int)) (.tuple (B.map .int)) = decide (A = B) := by
  rw [PyData.eqv]
  induction A generalizing B with
  | nil => cases B <;> simp [PyData.eqvAll]
  | cons a A ih =>
    cases B with
    | nil => simp [PyData.eqvAll]
    | cons b B =>
      rw [List.map_cons, List.map_cons, PyData.eqvAll, ih, PyData.eqv]
      by_cases h : a = b <;> by_cases h' : A = B <;> simp [h, h']
abbrev prI (x : Int) (A : List Int) : PV := .tup [.int x, .tup (A.map .int)]
theorem toData_pr (x : Int) (A : List Int) : toData (prI x A) = .tuple [.int x, .tuple (A.map .int)] := by
  rw [toData, toDatas, toDatas, toDatas, toData, toData, toDatas_ints]
def ltPr (x : Int) (A : List Int) (y : Int) (B : List Int) : Prop := x < y ∨ (x = y ∧ A < B)
instance (x : Int) (A : List Int) (y : Int) (B : List Int) : Decidable (ltPr x A y B) := by unfold ltPr; infer_instance
theorem list_irr : ∀ A : List Int, ¬ A < A := fun A => List.lt_irrefl A
theorem ltP_prs (x y : Int) (A B : List Int) : ltP (prI x A) (prI y B) = decide (ltPr x A y B) := by
  unfold ltP
  have h := alike_rows A B
  rw [toData, toData, toDatas_ints, toDatas_ints] at h
  rw [toData_pr, toData_pr, PySem.W.dataLt_pair (by simp [PySem.W.alike]) h, dEqv_ints, PySem.W.dataLt_int]
  have h2 := ltP_rows A B
  unfold ltP at h2
  rw [toData, toData, toDatas_ints, toDatas_ints] at h2
  rw [h2]
  unfold ltPr
  simp only [PyData.eqv, beq_iff_eq]
  by_cases h1 : x = y
  · subst h1
    by_cases h3 : A = B
    · subst h3
      simp [list_irr]
    · simp [h3]
  · simp [h1]
theorem alike_prs (x y : Int) (A B : List Int) : PySem.W.alike (toData (prI x A)) (toData (prI y B)) = true := by
  have h := alike_rows A B
  rw [toData, toData, toDatas_ints, toDatas_ints] at h
  rw [toData_pr, toData_pr, PySem.W.alike, PySem.W.alikeAll, PySem.W.alikeAll, h]
  simp [PySem.W.alike, PySem.W.alikeAll]
theorem okD_rows (L : List (List Int)) : okD (L.map fun A => PV.tup (A.map .int)) = true := by
  unfold okD
  rw [Bool.and_eq_true]
  constructor
  · rw [List.all_map]
    refine List.all_eq_true.mpr fun A _ => ?_
    show (shal 60 (.tup (A.map .int)) && notNon (.tup (A.map .int))) = true
    rw [shal_tupI]; rfl
  · rw [List.all_map]
    refine List.all_eq_true.mpr fun A _ => ?_
    show ((L.map fun A => PV.tup (A.map .int)).all fun b => PySem.W.alike (toData (.tup (A.map .int))) (toData b)) = true
    rw [List.all_map]
    refine List.all_eq_true.mpr fun B _ => ?_
    exact alike_rows A B
theorem okD_prs {α : Type} (x : α → Int) (f : α → List Int) (L : List α) : okD (L.map fun a => prI (x a) (f a)) = true := by
  unfold okD
  rw [Bool.and_eq_true]
  constructor
  · rw [List.all_map]
    refine List.all_eq_true.mpr fun A _ => ?_
    show (shal 60 (prI (x A) (f A)) && true) = true
    rw [shal, shalAll, shalAll, shalAll, shal_tupI]
    simp [shal]
  · rw [List.all_map]
    refine List.all_eq_true.mpr fun A _ => ?_
    show ((L.map fun a => prI (x a) (f a)).all fun b => PySem.W.alike (toData (prI (x A) (f A))) (toData b)) = true
    rw [List.all_map]
    refine List.all_eq_true.mpr fun B _ => ?_
    exact alike_prs _ _ _ _
/-- the least by a walk -/
theorem fold_min {α : Type} (f : α → PV) (lt : α → α → Bool) (h : ∀ a b, ltP (f a) (f b) = lt a b) (ir : ∀ a, lt a a = false) (tr : ∀ a b c, lt a b = true → lt b c = true → lt a c = true) (nt : ∀ a b c, lt a b = false → lt b c = false → lt a c = false) :
    ∀ (L : List α) (x : α), ∃ m, m ∈ x :: L ∧ (L.map f).foldl (fun a y => if ltP y a then y else a) (f x) = f m ∧ ∀ y ∈ x :: L, lt y m = false
  | [], x => ⟨x, by simp, rfl, by simp [ir]⟩
  | y :: L, x => by
    rw [List.map_cons, List.foldl_cons, h]
    by_cases hb : lt y x = true
    · obtain ⟨m, h1, h2, h3⟩ := fold_min f lt h ir tr nt L y
      refine ⟨m, by rcases List.mem_cons.mp h1 with e | e <;> simp [e], by rw [if_pos hb]; exact h2, fun z hz => ?_⟩
      rcases List.mem_cons.mp hz with e | e
      · subst e
        cases hm : lt z m with
        | false => rfl
        | true => exact absurd (tr _ _ _ hb hm) (by rw [h3 y (by simp)]; decide)
      · exact h3 z e
    · obtain ⟨m, h1, h2, h3⟩ := fold_min f lt h ir tr nt L x
      refine ⟨m, by rcases List.mem_cons.mp h1 with e | e <;> simp [e], by rw [if_neg hb]; exact h2, fun z hz => ?_⟩
      rcases List.mem_cons.mp hz with e | e
      · exact h3 z (by simp [e])
      · rcases List.mem_cons.mp e with e | e
        · subst e
          exact nt _ _ _ (by simpa using hb) (h3 x (by simp))
        · exact h3 z (by simp [e])
theorem lst_nt {a b c : List Int} (h1 : ¬ a < b) (h2 : ¬ b < c) : ¬ a < c := by
  have h1 : b ≤ a := h1
  have h2 : c ≤ b := h2
  have : c ≤ a := List.le_trans h2 h1
  exact this
theorem lst_eq {a b : List Int} (h1 : ¬ a < b) (h2 : ¬ b < a) : a = b := by
  have h1 : b ≤ a := h1
  have h2 : a ≤ b := h2
  exact List.le_antisymm h2 h1
theorem prim_minL (xs : List PV) : primP .minL [.lst xs] = minPV xs := rfl
theorem prim_maxL (xs : List PV) : primP .maxL [.lst xs] = maxPV xs := rfl
theorem unInts_tup {α : Type} (f : α → List PV) (a : α) (L : List α) : unInts ((a :: L).map fun a => PV.tup (f a)) = none := rfl
/-- the least of rows -/
theorem min_rows (L : List (List Int)) (h : L ≠ []) : ∃ m, m ∈ L ∧ primP .minL [.lst (L.map fun A => PV.tup (A.map .int))] = some (.val (.tup (m.map .int))) ∧ ∀ y ∈ L, ¬ y < m := by
  cases L with
  | nil => exact absurd rfl h
  | cons x L =>
    obtain ⟨m, h1, h2, h3⟩ := fold_min (fun A : List Int => PV.tup (A.map .int)) (fun a b => decide (a < b)) (fun a b => ltP_rows a b) (fun a => by simp [list_irr]) (fun a b c h1 h2 => by
      have h1 := of_decide_eq_true h1
      have h2 := of_decide_eq_true h2
      exact decide_eq_true (List.lt_trans h1 h2)) (fun a b c h1 h2 => decide_eq_false (lst_nt (of_decide_eq_false h1) (of_decide_eq_false h2))) L x
    refine ⟨m, h1, ?_, fun y hy => of_decide_eq_false (h3 y hy)⟩
    rw [prim_minL]
    unfold minPV
    rw [unInts_tup]
    show (minDP _).map SV.val = _
    unfold minDP
    have e := okD_rows (x :: L)
    rw [List.map_cons] at e ⊢
    simp only
    rw [if_pos e, h2]
    rfl
theorem min_prs {α : Type} (x : α → Int) (f : α → List Int) (L : List α) (h : L ≠ []) : ∃ m, m ∈ L ∧ primP .minL [.lst (L.map fun a => prI (x a) (f a))] = some (.val (prI (x m) (f m))) ∧ ∀ y ∈ L, ¬ ltPr (x y) (f y) (x m) (f m) := by
  cases L with
  | nil => exact absurd rfl h
  | cons z L =>
    obtain ⟨m, h1, h2, h3⟩ := fold_min (fun a : α => prI (x a) (f a)) (fun a b => decide (ltPr (x a) (f a) (x b) (f b))) (fun a b => ltP_prs _ _ _ _) (fun a => by simp [ltPr, list_irr]) (fun a b c h1 h2 => by
      have h1 := of_decide_eq_true h1
      have h2 := of_decide_eq_true h2
      refine decide_eq_true ?_
      unfold ltPr at *
      rcases h1 with h1 | ⟨h1, h1'⟩ <;> rcases h2 with h2 | ⟨h2, h2'⟩
      · exact .inl (by omega)
      · exact .inl (by omega)
      · exact .inl (by omega)
      · exact .inr ⟨by omega, List.lt_trans h1' h2'⟩) (fun a b c h1 h2 => by
      have h1 := of_decide_eq_false h1
      have h2 := of_decide_eq_false h2
      refine decide_eq_false fun h => ?_
      unfold ltPr at *
      have g1 : ¬ x a < x b := fun h => h1 (.inl h)
      have g2 : ¬ x b < x c := fun h => h2 (.inl h)
      rcases h with h | ⟨h, h'⟩
      · omega
      · have e1 : x a = x b := by omega
        have e2 : x b = x c := by omega
        exact lst_nt (fun q => h1 (.inr ⟨e1, q⟩)) (fun q => h2 (.inr ⟨e2, q⟩)) h') L z
    refine ⟨m, h1, ?_, fun y hy => of_decide_eq_false (h3 y hy)⟩
    rw [prim_minL]
    unfold minPV
    have e0 : unInts ((z :: L).map fun a => prI (x a) (f a)) = none := rfl
    rw [e0]
    show (minDP _).map SV.val = _
    unfold minDP
    have e := okD_prs x f (z :: L)
    rw [List.map_cons] at e ⊢
    simp only
    rw [if_pos e, h2]
    rfl
theorem maxI_ge : ∀ L : List Int, ∀ y ∈ L, ∃ m, maxI L = some m ∧ m ∈ L ∧ ∀ z ∈ L, z ≤ m
  | [], y, h => by simp at h
  | x :: L, y, h => by
    rw [maxI]
    cases L with
    | nil => exact ⟨x, rfl, by simp, by simp⟩
    | cons w L =>
      obtain ⟨m, h1, h2, h3⟩ := maxI_ge (w :: L) w (by simp)
      rw [h1]
      by_cases hx : m ≤ x
      · refine ⟨x, by simp [hx], by simp, fun z hz => ?_⟩
        rcases List.mem_cons.mp hz with e | e
        · omega
        · have := h3 z e; omega
      · refine ⟨m, by simp [hx], by simp [List.mem_cons.mp h2], fun z hz => ?_⟩
        rcases List.mem_cons.mp hz with e | e
        · omega
        · exact h3 z e
theorem max_ints {α : Type} (f : α → Int) (L : List α) (h : L ≠ []) : ∃ m, m ∈ L ∧ primP .maxL [.lst (L.map fun a => PV.int (f a))] = some (.val (.int (f m))) ∧ ∀ y ∈ L, f y ≤ f m := by
  cases L with
  | nil => exact absurd rfl h
  | cons x L =>
    obtain ⟨m, h1, h2, h3⟩ := maxI_ge ((x :: L).map f) (f x) (by simp)
    obtain ⟨a, ha, rfl⟩ := List.mem_map.mp h2
    refine ⟨a, ha, ?_, fun y hy => h3 _ (List.mem_map_of_mem hy)⟩
    rw [prim_maxL]
    unfold maxPV
    rw [unInts_map]
    show Option.map _ (maxI ((x :: L).map f)) = _
    rw [h1]
    rfl

set_option linter.all false
set_option autoImplicit false
set_option maxRecDepth 100000
set_option maxHeartbeats 1000000

/-! ### codes -/
def chk (L : List Int) : Int := L.foldl (fun a v => (19 * a + v) % 223) 11
theorem chk_snoc (L : List Int) (v : Int) : chk (L ++ [v]) = (19 * chk L + v) % 223 := by simp [chk]
def dI (D : List Nat) : List Int := D.map fun (d : Nat) => (d : Int)
def itL (w h : Int) (D : List Nat) : List Int := 107 :: w :: h :: dI D
def rdF (L : List Int) (i : Int) : List (Str × PV) := [("data", .lst (L.map .int)), ("spot", .int i)]
theorem rdF_data (L : List Int) (i : Int) : (rdF L i).lookup ("data" : Str) = some (.lst (L.map .int)) := by rfl
theorem rdF_spot (L : List Int) (i : Int) : (rdF L i).lookup ("spot" : Str) = some (.int i) := by rfl
theorem rdF_put (L : List Int) (i j : Int) : putI "spot" (.int j) (rdF L i) = rdF L j := by
  unfold rdF putI
  rw [if_neg (by decide +kernel), putI, if_pos rfl]
theorem rdF_new (L : List Int) : putI "spot" (.int 0) (putI "data" (.lst (L.map .int)) []) = rdF L 0 := by
  show (if ("data" : Str) = "spot" then _ else _) = _
  rw [if_neg (by decide +kernel)]
  rfl
theorem rdF_len (L : List Int) (i : Int) : (rdF L i).length < 1000 := by simp [rdF]
theorem rdF_it (L : List Int) (i : Int) : (rdF L i).lookup ("item" : Str) = none := by rfl
theorem rdF_rd (L : List Int) (i : Int) : (rdF L i).lookup ("read_densities" : Str) = none := by rfl
theorem rdF_fi (L : List Int) (i : Int) : (rdF L i).lookup ("finish" : Str) = none := by rfl
structure HRd (P : Pg) : Prop where
  nb : P.fs "is_number" = some B.is_number
  ini : P.fs "Reader.__init__" = some B.Reader___init__
  it : P.fs "Reader.item" = some B.Reader_item
  rd : P.fs "Reader.read_densities" = some B.Reader_read_densities
  fi : P.fs "Reader.finish" = some B.Reader_finish
  ck : P.fs "checksum" = some B.checksum
  g1 : P.gl "CHECK_START" = some (.int 11)
  g2 : P.gl "CHECK_TIMES" = some (.int 19)
  g3 : P.gl "CHECK_REST" = some (.int 223)
  g4 : P.gl "FIRST" = some (.int 107)
  g5 : P.gl "FIGURES" = some (.str "01234")
  ai : P.ca "Reader" "__init__" = some (.methI "Reader.__init__" 2)
  ad : P.ca "Reader" "data" = some .fld
  as : P.ca "Reader" "spot" = some .fld
  at_ : P.ca "Reader" "item" = some (.methI "Reader.item" 3)
  ar : P.ca "Reader" "read_densities" = some (.methI "Reader.read_densities" 2)
  af : P.ca "Reader" "finish" = some (.methI "Reader.finish" 1)
section
variable {P : Pg} {n : Nat} {st : Sto} {ns : List Int}
theorem checksum_ok (H : HRd P) (L : List Int) : callP P (n + 1) "checksum" [.lst (L.map .int)] st = .ok (.val (.int (chk L))) st := by
  apply WpC.eq
  refine w_fn H.ck rfl ?_; simp_arith only [B.checksum, B.b_checksum, H.g1]
  refine w_eachD (fun (pre : List Int) => [(1, .val (.int (chk pre)))]) [2] ?_ (fun pre a post x e => ?_) fun x => ?_
  · simp_arith only [agr_cons, agr_nil]
    simp [chk]
  · simp_arith only [H.g2, H.g3]
    simp only [agr_cons, agr_nil]
    simp [chk_snoc]
  · simp_arith
    all_goals (first | exact ⟨rfl, rfl⟩ | exact rfl | trivial)
theorem checked_ok (hf : P.fs "_law_checked" = some B.law_checked) {L : List Int} (hL : L.length ≤ 1000) : callP P (n + 1) "_law_checked" [.lst (L.map .int)] st = .ok (.own ((L ++ [chk L]).map .int)) st := by
  apply WpC.eq
  refine w_fn hf rfl ?_; simp_arith only [B.law_checked, B.b_law_checked]
  refine w_eachD (fun (pre : List Int) => [(1, .val (.int (chk pre)))]) [2] ?_ (fun pre a post x e => ?_) fun x => ?_
  · simp_arith only [agr_cons, agr_nil]
    simp [chk]
  · simp_arith
    simp only [agr_cons, agr_nil]
    simp [chk_snoc]
  · simp_arith
    simp only [List.map_append, List.map_cons, List.map_nil]
    all_goals (first | exact ⟨rfl, rfl⟩ | exact rfl | trivial)
theorem encode_ok (N : HNeg P) (H : HRd P) (hf : P.fs "encode_negative" = some B.encode_negative) {w h : Int} {D : List Nat} (o : NegOk w h D) : callP P (n + 2) "encode_negative" [neg w h D] st = .ok (.own ((itL w h D ++ [chk (itL w h D)]).map .int)) st := by
  have hD := o.le
  apply WpC.eq
  refine w_fn hf rfl ?_; simp_arith only [B.encode_negative, B.b_encode_negative, H.g4, w_width N, w_height N, w_dens N, dtx_cps]
  refine w_compM (L := D) (enc := fun d => PV.str ⟨#[48 + d]⟩) (g := fun (d : Nat) => PV.int (d : Int)) (fun d hd => ?_) (by omega) ?_
  · have := o.d4 d hd
    simp_arith only [int_fig d (by omega)]
  have e1 : PV.int 107 :: PV.int w :: PV.int h :: (D.map fun (d : Nat) => PV.int (d : Int)) = (itL w h D).map .int := by simp [itL, dI]
  have hl : (itL w h D).length ≤ 20 := by simp [itL, dI]; omega
  simp_arith only [e1, checksum_ok H]
  have e2 : (itL w h D).map PV.int ++ [PV.int (chk (itL w h D))] = (itL w h D ++ [chk (itL w h D)]).map .int := by simp
  simp_arith only [e2]
  all_goals (first | exact ⟨rfl, rfl⟩ | exact rfl | trivial)
theorem mkI_w1 {c g : Str} {a : PV} {s : Ps} {q : Kn SV} (h : P.ca c "__init__" = some (.methI g 2)) : @Wp _ (mkIP ⟨callP P n, P.gl, P.ca⟩ c [a] s) q = @Wp _ (mkIK s.sto.length (callP P n g [.ref s.sto.length, a] (s.sto ++ [SO.ins c []])) s) q := by
  have e : mkIP ⟨callP P n, P.gl, P.ca⟩ c [a] s = mkIK s.sto.length (callP P n g [.ref s.sto.length, a] (s.sto ++ [SO.ins c []])) s := by
    show (match P.ca c "__init__" with
      | some (.methI g ar) => if ar = [a].length + 1 then mkIK s.sto.length (callP P n g [.ref s.sto.length, a] (s.sto ++ [SO.ins c []])) s else .stuck
      | _ => .stuck) = _
    rw [h]
    exact if_pos rfl
  rw [e]
theorem i_mkIK {k : Nat} {st : Sto} {s : Ps} {q : Kn SV} : @Wp _ (mkIK k (.ok (.val .non) st) s) q = q.run (.val (.ref k)) { s with sto := st } := w_ok _ _ q
theorem rinit_ok (H : HRd P) (o : SO) (L : List Int) : callP P (n + 1) "Reader.__init__" [.ref 1, .lst (L.map .int)] [o, SO.ins "Reader" []] = .ok (.val .non) [o, .ins "Reader" (rdF L 0)] := by
  have hl : (putI "data" (.lst (L.map .int)) []).length < 1000 := by simp [putI]
  apply WpC.eq
  refine w_fn H.ini rfl ?_; simp_arith only [B.Reader___init__, B.b_Reader___init__, i_setRef, H.ad, H.as, rdF_new]
  all_goals (first | exact ⟨rfl, rfl⟩ | exact rfl | trivial)
theorem item_ok (H : HRd P) (o : SO) {L : List Int} {i : Nat} {v lo hi : Int} (hi' : L[i]? = some v) (hlo : lo ≤ v) (hhi : v ≤ hi) : callP P (n + 2) "Reader.item" [.ref 1, .int lo, .int hi] [o, .ins "Reader" (rdF L (i : Int))] = .ok (.val (.int v)) [o, .ins "Reader" (rdF L ((i : Int) + 1))] := by
  have hl : i < L.length := (List.getElem?_eq_some_iff.mp hi').1
  have h1 : L2.atI (L.map PV.int) (i : Int) = some (.int v) := by rw [at_nat, List.getElem?_map, hi']; rfl
  have h2 : ((i : Int) + 1 - 1) = (i : Int) := by omega
  have hf := rdF_len L (i : Int)
  apply WpC.eq
  refine w_fn H.it rfl ?_; simp_all_arith only [B.Reader_item, B.b_Reader_item, H.ad, H.as, rdF_data, rdF_spot, rdF_put, rdF_len, is_number_ok H.nb, h1, h2]
  all_goals (first | exact ⟨rfl, rfl⟩ | exact rfl | trivial)
theorem fig44 {d : Nat} (h : d ≤ 4) (st : Sto) : idxP st (.str "01234") (.int (d : Int)) = some (.str ⟨#[48 + d]⟩) := by
  have : ∀ d : Fin 5, L2.atI (Str.ofString "01234").cps.toList (d.val : Int) = some (48 + d.val) := by decide +kernel
  rw [idx_s st _ _ (by decide +kernel), this ⟨d, by omega⟩]
  rfl
theorem len5 : (Str.ofString "01234").length = 5 := by decide +kernel
theorem stx_dens {D : List Nat} {N : Nat} (h : D.length = N) : stx ((List.range N).map fun k => 48 + den1 D k) = dtx D := by
  subst h
  unfold dtx
  show (⟨_⟩ : Str) = ⟨_⟩
  congr 2
  apply List.ext_getElem
  · simp
  · intro i h1 h2
    rw [List.getElem_map, List.getElem_map, List.getElem_range]
    unfold den1
    rw [List.getD_eq_getElem?_getD, List.getElem?_eq_getElem (by simpa using h2)]
    rfl
theorem it_at {w h : Int} {D : List Nat} (c : Int) {k : Nat} (hk : k < D.length) : (itL w h D ++ [c])[3 + k]? = some (den1 D k : Int) := by
  have hl : (itL w h D).length = 3 + D.length := by simp [itL, dI]; omega
  rw [List.getElem?_append_left (by omega)]
  unfold itL
  rw [show 3 + k = k + 1 + 1 + 1 by omega, List.getElem?_cons_succ, List.getElem?_cons_succ, List.getElem?_cons_succ]
  unfold dI
  rw [List.getElem?_map]
  unfold den1
  rw [List.getD_eq_getElem?_getD, List.getElem?_eq_getElem hk]
  rfl
theorem readd_ok (H : HRd P) (o : SO) {w h : Int} {D : List Nat} (ok : NegOk w h D) (c : Int) : callP P (n + 3) "Reader.read_densities" [.ref 1, .int (w * h)] [o, .ins "Reader" (rdF (itL w h D ++ [c]) 3)] = .ok (.val (.str (dtx D))) [o, .ins "Reader" (rdF (itL w h D ++ [c]) (3 + (D.length : Int)))] := by
  have hN := ok.len
  have hD := ok.le
  apply WpC.eq
  refine w_fn H.rd rfl ?_; simp_arith only [B.Reader_read_densities, B.b_Reader_read_densities, ← hN]
  refine w_compI (L := List.range D.length) (J := fun pre b => b = pre) (fun pre => [o, SO.ins "Reader" (rdF (itL w h D ++ [c]) (3 + (pre.length : Int)))]) (fun pre => pre.map fun (k : Nat) => PV.str ⟨#[48 + den1 D k]⟩) [] (by rw [List.length_range]; omega) rfl rfl rfl (fun pre a post b e hb => ?_) fun b hb => ?_
  · subst hb
    obtain ⟨e1, e2⟩ := range_split e
    have hd4 := den_le ok (show a < D.length by omega)
    have hit := fun lo hi => item_ok (n := n) (v := (den1 D a : Int)) (lo := lo) (hi := hi) H o (L := itL w h D ++ [c]) (i := 3 + a) (it_at c (by omega))
    rw [show ((3 + a : Nat) : Int) = 3 + (a : Int) by omega] at hit
    have l5 := len5
    have e3 : 3 + (a : Int) + 1 = 3 + (((b ++ [a]).length : Nat) : Int) := by rw [List.length_append, List.length_singleton]; omega
    rw [← e1]
    simp_all_arith only [H.g5, H.at_, rdF_it, len5, hit, fig44 hd4]
    refine ⟨_, rfl, ?_, ?_⟩
    · rw [e3]
    · simp [← e1]
  · subst hb
    have hj := join_one (fun k => 48 + den1 D k) (List.range D.length) (by rw [List.length_range]; omega)
    rw [stx_dens rfl] at hj
    simp_arith only [hj, List.length_range]
    all_goals (first | exact ⟨rfl, rfl⟩ | exact rfl | trivial)
theorem chk_rng (L : List Int) (h : L ≠ []) : 0 ≤ chk L ∧ chk L < 223 := by
  obtain ⟨A, z, rfl⟩ : ∃ A z, L = A ++ [z] := ⟨L.dropLast, L.getLast h, (List.dropLast_concat_getLast h).symm⟩
  rw [chk_snoc]
  omega
theorem shi_l (L : List PV) {i : Nat} (hi : i ≤ L.length) : shiP (.lst L) (.int (i : Int)) = some (.own (L.take i)) := by
  show some (SV.own (cutP L none (some (i : Int)))) = _
  congr 2
  unfold cutP
  rw [HT.sIx_none, List.drop_zero]
  have e : HT.sIx L.length L.length (some (i : Int)) = i := by
    unfold HT.sIx
    simp only
    rw [if_neg (by omega)]
    omega
  rw [e]
  rfl
theorem finish_ok (H : HRd P) (o : SO) (L : List Int) : callP P (n + 3) "Reader.finish" [.ref 1] [o, .ins "Reader" (rdF (L ++ [chk L]) (L.length : Int))] = .ok (.val .non) [o, .ins "Reader" (rdF (L ++ [chk L]) ((L.length : Int) + 1))] := by
  have hc := shi_l ((L ++ [chk L]).map PV.int) (i := L.length) (by simp)
  have e1 : ((L ++ [chk L]).map PV.int).take L.length = L.map PV.int := by
    rw [List.map_append, List.take_left' (by simp)]
  rw [e1] at hc
  have hit := item_ok (n := n) (v := chk L) (lo := chk L) (hi := chk L) H o (L := L ++ [chk L]) (i := L.length) (by simp) (by omega) (by omega)
  have hl : (L ++ [chk L]).length = L.length + 1 := by simp
  apply WpC.eq
  refine w_fn H.fi rfl ?_; simp_arith only [B.Reader_finish, B.b_Reader_finish, H.ad, H.as, H.at_, rdF_data, rdF_spot, rdF_it, hc, checksum_ok H, hit, hl]
  all_goals (first | exact ⟨rfl, rfl⟩ | exact rfl | trivial)
theorem decode_ok (N : HNeg P) (H : HRd P) (hf : P.fs "decode_negative" = some B.decode_negative) {w h : Int} {D : List Nat} (ok : NegOk w h D) (o : SO) :
    callP P (n + 5) "decode_negative" [.lst ((itL w h D ++ [chk (itL w h D)]).map .int)] [o] = .ok (.val (neg w h D)) [o, .ins "Reader" (rdF (itL w h D ++ [chk (itL w h D)]) ((itL w h D).length + 1))] := by
  generalize hc : chk (itL w h D) = c
  have i0 := item_ok (n := n + 2) (v := 107) (lo := 107) (hi := 107) H o (L := itL w h D ++ [c]) (i := 0) rfl (by omega) (by omega)
  have i1 := item_ok (n := n + 2) (v := w) (lo := 1) (hi := 4) H o (L := itL w h D ++ [c]) (i := 1) rfl ok.w1 ok.w4
  have i2 := item_ok (n := n + 2) (v := h) (lo := 1) (hi := 4) H o (L := itL w h D ++ [c]) (i := 2) rfl ok.h1 ok.h4
  have rd := readd_ok (n := n + 1) H o ok c
  have fi := finish_ok (n := n + 1) H o (itL w h D)
  have el : ((itL w h D).length : Int) = 3 + (D.length : Int) := by simp [itL, dI]; omega
  rw [hc, el] at fi
  have o1 := ok.w1
  have o4 := ok.w4
  apply WpC.eq
  rw [show ((0 : Nat) : Int) = 0 from rfl, show (0 : Int) + 1 = 1 from rfl] at i0
  rw [show ((1 : Nat) : Int) = 1 from rfl, show (1 : Int) + 1 = 2 from rfl] at i1
  rw [show ((2 : Nat) : Int) = 2 from rfl, show (2 : Int) + 1 = 3 from rfl] at i2
  rw [el]
  refine w_fn hf rfl ?_; simp_arith only [B.decode_negative, B.b_decode_negative, mkI_w1 H.ai, rinit_ok H, i_mkIK, H.at_, H.ar, H.af, rdF_it, rdF_rd, rdF_fi, H.g4, N.ms, i0, i1, i2, rd, fi, w_mkneg N ok]
  all_goals (first | exact ⟨rfl, rfl⟩ | exact rfl | trivial)
theorem cmp_ne44 (A : List Int) : cmpP .NotEq (.lst (A.map .int)) (.lst (A.map .int)) = some false := by
  show (if shal 60 _ && shal 60 _ then some (!eqv (.lst (A.map .int)) (.lst (A.map .int))) else none) = _
  have e : ∀ A : List Int, shal 60 (.lst (A.map .int)) = true := fun A => by rw [shal, shalAll_ints]
  rw [e, eqv, eqvAll_ints]
  simp
theorem isC_neg (w h : Int) (D : List Nat) (s : Ps) (q : Kn SV) : @Wp _ (isCP "Negative" (neg w h D) s) q = q.run (.val (.bl true)) s := by
  have e : isCP "Negative" (neg w h D) s = .ok (.val (.bl true)) s := by
    show (if ("Negative" : Str) = "Negative" then R.ok (SV.val (.bl true)) s else .stuck) = _
    rw [if_pos rfl]
  rw [e, w_ok]
theorem shal_dt (n : Nat) {D : List Nat} (h : ∀ d ∈ D, d ≤ 4) : shal n (.str (dtx D)) = true := by
  have e : PyData.strOk (dtx D) = true := by
    unfold dtx PyData.strOk
    rw [← Array.all_toList]
    refine List.all_eq_true.mpr fun c hc => ?_
    obtain ⟨d, hd, rfl⟩ := List.mem_map.mp (show c ∈ D.map (48 + ·) by simpa using hc)
    have := h d hd
    exact decide_eq_true (by omega)
  cases n <;> (rw [shal]; exact e)
theorem eq_ok (N : HNeg P) (hf : P.fs "Negative.__eq__" = some B.Negative___eq__) {w h : Int} {D : List Nat} (ok : NegOk w h D) : callP P (n + 2) "Negative.__eq__" [neg w h D, neg w h D] st = .ok (.val (.bl true)) st := by
  have hs : cmpP .Eq (.tup [.int w, .int h, .str (dtx D)]) (.tup [.int w, .int h, .str (dtx D)]) = some true := by
    have e : shal 60 (.tup [.int w, .int h, .str (dtx D)]) = true := by
      rw [shal, shalAll, shalAll, shalAll, shalAll, shal_dt 59 ok.d4]
      simp [shal]
    exact cmp_eqSelfT e
  apply WpC.eq
  refine w_fn hf rfl ?_; simp_arith only [B.Negative___eq__, B.b_Negative___eq__, isC_neg, attr_parts N.cp, w_width N, w_height N, w_dens N, hs]
  all_goals (first | exact ⟨rfl, rfl⟩ | exact rfl | trivial)
theorem eqr_w (N : HNeg P) (hf : P.fs "Negative.__eq__" = some B.Negative___eq__) (ha : P.ca "Negative" "__eq__" = some (.meth "Negative.__eq__" 2)) (hn : P.ca "Negative" "__ne__" = some .neO) {w h : Int} {D : List Nat} (ok : NegOk w h D) (s : Ps) (q : Kn SV) :
    @Wp _ (eqrP ⟨callP P (n + 2), P.gl, P.ca⟩ true (neg w h D) (neg w h D) s) q = q.run (.val (.bl false)) s := by
  have e : eqrP ⟨callP P (n + 2), P.gl, P.ca⟩ true (neg w h D) (neg w h D) s = .ok (.val (.bl false)) s := by
    show (if ("Negative" : Str) = "Negative" then eqrC ⟨callP P (n + 2), P.gl, P.ca⟩ true "Negative" (neg w h D) (neg w h D) s else .stuck) = _
    rw [if_pos rfl]
    unfold eqrC
    show (match P.ca "Negative" "__eq__" with
      | some (.meth g ar) => if ar = 2 ∧ (true = false ∨ PI.isNeO (P.ca "Negative" "__ne__") = true) then eqrK true (callP P (n + 2) g [neg w h D, neg w h D] s.sto) s else .stuck
      | _ => .stuck) = _
    rw [ha, hn]
    show (if 2 = 2 ∧ (true = false ∨ PI.isNeO (some .neO) = true) then eqrK true (callP P (n + 2) "Negative.__eq__" [neg w h D, neg w h D] s.sto) s else .stuck) = _
    rw [if_pos ⟨rfl, .inr rfl⟩, eq_ok N hf ok]
    rfl
  rw [e, w_ok]
theorem trim_neg {ns : List Int} {o : SO} (ho : IsRow ns o) (w h : Int) (D : List Nat) (st : Sto) : trimS 1 (.val (neg w h D)) (o :: st) = [o] := by
  obtain ⟨i, s, t, rfl, _⟩ := ho
  rfl
structure HK44 (P : Pg) : Prop where
  ne : HNeg P
  rd : HRd P
  dr : Drw P
  en : P.fs "encode_negative" = some B.encode_negative
  de : P.fs "decode_negative" = some B.decode_negative
  ng : P.fs "_law_negative" = some B.law_negative_2
  ck : P.fs "_law_checked" = some B.law_checked
  eq : P.fs "Negative.__eq__" = some B.Negative___eq__
  ae : P.ca "Negative" "__eq__" = some (.meth "Negative.__eq__" 2)
  an : P.ca "Negative" "__ne__" = some .neO
theorem big_str : Str.ofString "01234321" = dtx [0, 1, 2, 3, 4, 3, 2, 1] := by decide +kernel
theorem law_k44 (H : HK44 P) (hf : P.fs "law" = some B.law_12) : @WpC (callP P (n + 12) "law" [.scr ns] []) ⟨fun v st => v = .val (.bl true), noX⟩ := by
  refine w_fn hf rfl ?_; simp_arith only [B.law_12, B.b_law_12]
  refine w_each (β := SO) (J := fun _ b => IsRow ns b) (fun _ => []) (fun b => [b]) [2, 3, 4] (.row [.scr ns, .int 0, .int 0, .int 0]) (isRow0 ns) ?_ rfl (fun pre a post b x e hb => ?_) fun b x hb => ?_
  · simp_arith only [agr_cons, agr_nil]
    simp
  · simp_arith
    refine w_calW _ ((law_negative_c H.ne H.dr H.ng hb (by omega)).imp (fun v st z => ?_) fun _ _ _ z => z.elim)
    obtain ⟨w, h, D, o1, rfl, rfl, ho1, ok, hw3, hh2⟩ := z
    simp_arith
    refine w_draw H.dr ho1 (by omega) fun r1 o2 hr1 ho2 => ?_
    simp_arith
    refine Wp.imp (q := ⟨fun v s => ∃ (w h : Int) (D : List Nat) (x3 : Option SV), v = .val (neg w h D) ∧ s = ⟨[some (SV.val (PV.scr ns)), some (SV.val (PV.ref 0)), some (SV.val (PV.int ↑a)), x3, x 4, none], [o2]⟩ ∧ NegOk w h D, noX⟩) ?_ (fun v s z => ?_) fun _ _ _ z => z.elim
    · refine w_split (fun h1 => ?_) fun h1 => ?_
      · have ok8 : NegOk 4 2 [0, 1, 2, 3, 4, 3, 2, 1] := ⟨by omega, by omega, by omega, by omega, by omega, rfl, by decide⟩
        simp_arith only [big_str, w_mkneg H.ne ok8]
        exact ⟨4, 2, _, _, rfl, rfl, ok8⟩
      · simp_arith
        exact ⟨w, h, D, _, rfl, rfl, ok⟩
    clear ok hw3 hh2
    obtain ⟨w, h, D, x3, rfl, rfl, ok⟩ := z
    have hD := ok.le
    simp_arith only [w_width H.ne, w_height H.ne, w_dens H.ne, dtx_cps]
    refine w_compM (L := D) (enc := fun d => PV.str ⟨#[48 + d]⟩) (g := fun (d : Nat) => PV.int (d : Int)) (fun d hd => ?_) (by omega) ?_
    · have := ok.d4 d hd
      simp_arith only [int_fig d (by omega)]
    have e1 : PV.int 107 :: PV.int w :: PV.int h :: (D.map fun (d : Nat) => PV.int (d : Int)) = (itL w h D).map .int := by simp [itL, dI]
    have hl : (itL w h D).length ≤ 20 := by simp [itL, dI]; omega
    simp_arith only [e1, encode_ok H.ne H.rd H.en ok, checked_ok H.ck (show (itL w h D).length ≤ 1000 by omega), cmp_ne44, decode_ok H.ne H.rd H.de ok, trim_neg ho2, eqr_w H.ne H.eq H.ae H.an ok]
    refine ⟨o2, ho2, ?_, rfl⟩
    simp only [agr_cons, agr_nil]
    simp
  · simp_arith
end

end PI
set_option linter.all false
set_option maxRecDepth 100000
namespace PI.Law
open PySem PI
theorem pure_law : ∀ ns : List Int, ns.length ≤ 63 → (∀ z ∈ ns, Builtin.Int.intBits z ≤ 1048576) → ∃ st, callP tx.pg 41 "law" [.scr ns] [] = .ok (.val (.bl true)) st := by
  intro ns _ _
  have N : HNeg tx.pg := ⟨f_is_number, f_are_figures, f_is_size, rfl, rfl, .inl ⟨f_Negative___init__, rfl⟩, f_Negative_width, f_Negative_height, f_Negative_densities, f_Negative___len__, rfl, rfl, rfl, rfl, rfl, rfl⟩
  have R : HRd tx.pg := ⟨f_is_number, f_Reader___init__, f_Reader_item, f_Reader_read_densities, f_Reader_finish, f_checksum, rfl, rfl, rfl, rfl, rfl, rfl, rfl, rfl, rfl, rfl, rfl⟩
  have H : HK44 tx.pg := ⟨N, R, .inr f_law_taken, f_encode_negative, f_decode_negative, f_law_negative, f_law_checked, f_Negative___eq__, rfl, rfl⟩
  have h := law_k44 (P := tx.pg) (n := 29) (ns := ns) H f_law
  cases h with
  | ok v st e z => exact ⟨st, by rw [e]; rw [show v = _ from z]⟩
  | exc c fs s e z => exact z.elim
end PI.Law


open PySem PySem.W PyProof.Rows in
set_option maxRecDepth 100000 in
set_option maxHeartbeats 0 in
theorem PySem.Challenge.cw_maskedprints_k44_codes_there_and_back_holds : PySem.Challenge.rw_maskedprints_k44_codes_there_and_back.Holds := by
  w_on; o_law; k_head; (case hw => w_witness2)
  k_fill
  refine PI.walk_law (l := PySem.Challenge.rw_maskedprints_k44_codes_there_and_back) (k := 40) (x := "_law_script") (T := PI.Law.tx) (dl := PI.Law.d_law) rfl rfl ⟨rfl, by decide, by decide⟩ (fun w h Y => PySem.W.kIn_of Y) PI.Law.checked PI.Law.found rfl rfl (fun _ _ _ _ _ _ _ => rfl) ?HF PI.Law.pure_law
  case HF =>
    intro w mg h KX G
    refine' PI.Law.head KX G ?a0 ?l0 ?c0 ?k0 ?a1 ?l1 ?c1 ?k1 ?a2 ?l2 ?c2 ?k2 ?a9 ?l9 ?c9 ?k9 ?a10 ?l10 ?c10 ?k10 ?a15 ?l15 ?c15 ?k15 ?a16 ?l16 ?c16 ?k16 ?a17 ?l17 ?c17 ?k17 ?a18 ?l18 ?c18 ?k18 ?a19 ?l19 ?c19 ?k19 ?cn0 ?cs0 ?ci0 ?co0 ?ca0 ?cm0 ?ck0 ?sa0_0 ?sb0_0 ?sc0_0 ?sd0_0 ?se0_0 ?nea0 ?neb0 ?sia0 ?sib0 ?sic0 ?sid0 ?pa4 ?pb4 ?pc4 ?pd4 ?l4 ?c4 ?k4 ?pa5 ?pb5 ?pc5 ?pd5 ?l5 ?c5 ?k5 ?pa6 ?pb6 ?pc6 ?pd6 ?l6 ?c6 ?k6 ?ma3 ?mb3 ?l3 ?c3 ?k3 ?ma7 ?mb7 ?l7 ?c7 ?k7 ?ma8 ?mb8 ?l8 ?c8 ?k8 ?cn1 ?cs1 ?ci1 ?co1 ?ca1 ?cm1 ?ck1 ?na1_0 ?na1_1 ?ma11 ?mb11 ?l11 ?c11 ?k11 ?ma12 ?mb12 ?l12 ?c12 ?k12 ?ma13 ?mb13 ?l13 ?c13 ?k13 ?ma14 ?mb14 ?l14 ?c14 ?k14 ?gv0 ?gv1 ?gv2 ?gv3 ?gv4 ?gv5 ?gv6 ?z0 ?z1 ?z2 ?z3 ?z4 ?z5 ?z6
    (case a0 => k_is)
    (case l0 => k_is)
    (case c0 => k_is)
    (case k0 => k_is)
    (case a1 => k_is)
    (case l1 => k_is)
    (case c1 => k_is)
    (case k1 => k_is)
    (case a2 => k_is)
    (case l2 => k_is)
    (case c2 => k_is)
    (case k2 => k_is)
    (case a9 => k_is)
    (case l9 => k_is)
    (case c9 => k_is)
    (case k9 => k_is)
    (case a10 => k_is)
    (case l10 => k_is)
    (case c10 => k_is)
    (case k10 => k_is)
    (case a15 => k_is)
    (case l15 => k_is)
    (case c15 => k_is)
    (case k15 => k_is)
    (case a16 => k_is)
    (case l16 => k_is)
    (case c16 => k_is)
    (case k16 => k_is)
    (case a17 => k_is)
    (case l17 => k_is)
    (case c17 => k_is)
    (case k17 => k_is)
    (case a18 => k_is)
    (case l18 => k_is)
    (case c18 => k_is)
    (case k18 => k_is)
    (case a19 => k_is)
    (case l19 => k_is)
    (case c19 => k_is)
    (case k19 => k_is)
    (case cn0 => k_is)
    (case cs0 => k_is)
    (case ci0 => k_is)
    (case co0 => k_is)
    (case ca0 => k_is)
    (case cm0 => k_is)
    (case ck0 => k_is)
    (case sa0_0 => k_is)
    (case sb0_0 => k_is)
    (case sc0_0 => k_is)
    (case sd0_0 => k_is)
    (case se0_0 => k_is)
    (case nea0 => k_is)
    (case neb0 => k_is)
    (case sia0 => k_is)
    (case sib0 => k_is)
    (case sic0 => k_is)
    (case sid0 => k_is)
    (case pa4 => k_is)
    (case pb4 => k_is)
    (case pc4 => k_is)
    (case pd4 => k_is)
    (case l4 => k_is)
    (case c4 => k_is)
    (case k4 => k_is)
    (case pa5 => k_is)
    (case pb5 => k_is)
    (case pc5 => k_is)
    (case pd5 => k_is)
    (case l5 => k_is)
    (case c5 => k_is)
    (case k5 => k_is)
    (case pa6 => k_is)
    (case pb6 => k_is)
    (case pc6 => k_is)
    (case pd6 => k_is)
    (case l6 => k_is)
    (case c6 => k_is)
    (case k6 => k_is)
    (case ma3 => k_is)
    (case mb3 => k_is)
    (case l3 => k_is)
    (case c3 => k_is)
    (case k3 => k_is)
    (case ma7 => k_is)
    (case mb7 => k_is)
    (case l7 => k_is)
    (case c7 => k_is)
    (case k7 => k_is)
    (case ma8 => k_is)
    (case mb8 => k_is)
    (case l8 => k_is)
    (case c8 => k_is)
    (case k8 => k_is)
    (case cn1 => k_is)
    (case cs1 => k_is)
    (case ci1 => k_is)
    (case co1 => k_is)
    (case ca1 => k_is)
    (case cm1 => k_is)
    (case ck1 => k_is)
    (case na1_0 => k_is)
    (case na1_1 => k_is)
    (case ma11 => k_is)
    (case mb11 => k_is)
    (case l11 => k_is)
    (case c11 => k_is)
    (case k11 => k_is)
    (case ma12 => k_is)
    (case mb12 => k_is)
    (case l12 => k_is)
    (case c12 => k_is)
    (case k12 => k_is)
    (case ma13 => k_is)
    (case mb13 => k_is)
    (case l13 => k_is)
    (case c13 => k_is)
    (case k13 => k_is)
    (case ma14 => k_is)
    (case mb14 => k_is)
    (case l14 => k_is)
    (case c14 => k_is)
    (case k14 => k_is)
    (case gv0 => exact PI.hg_int (by k_is))
    (case gv1 => exact PI.hg_int (by k_is))
    (case gv2 => exact PI.hg_int (by k_is))
    (case gv3 => exact PI.hg_str (by k_is))
    (case gv4 => exact PI.hg_int (by k_is))
    (case gv5 => exact PI.hg_int (by k_is))
    (case gv6 => exact PI.hg_int (by k_is))
    (case z0 => k_is)
    (case z1 => k_is)
    (case z2 => k_is)
    (case z3 => k_is)
    (case z4 => k_is)
    (case z5 => k_is)
    (case z6 => k_is)
