import PyProof.Rows.All
import Wide.All
import OpenK.AllK
import Wide.FinOn
import HandS.Zip
import KE.GoesEnum
import HandS.Dict
import KE.KDictPairs
import HandS.ForMost
import HandS.ForExc
import HandS.Style
import HandS.Wide
import HandS.Deep
import HandS.IsInst
import HandS.Conv
import HandS.TupAny
import HandS.TupMul
import HandS.TupSets
import HandS.TupLen
import KE.SortData
import KE.DataMinMax
import KE.DatumOrd
import HandS.Strs
import HandS.ExcValue
import HandS.HeadHook1
import HandS.HeadHook2
import KE.KStateDown
import HandS.Head0
import HandS.Head1
import HandS.Head2
import HandS.HeadEnd
import HandS.SetFor
import HandS.ExcIs
import PyProof.StrBlock2
import HandS.Lambda
import HandS.HotCalls
import HandS.CallRecv
import HandS.HeadWalk
import PySem.Challenge.RW_lightsteps_k26_errors
set_option Elab.async false
set_option linter.all false
set_option maxRecDepth 100000
set_option maxHeartbeats 1000000
namespace Bv
open PySem PySem.Spec PyProof.Rows L2
/-- three tuples of one length, walked together -/
def Itz3 (K : PySem.W.Frag) (a b c : Addr) : It :=
  ⟨fun i H => ∃ (xs ys zs : List V) (x y z : V), SqT K H a xs ∧ SqT K H b ys ∧ SqT K H c zs ∧ xs[i]? = some x ∧ ys[i]? = some y ∧ zs[i]? = some z,
    fun i H v H' => ∃ T x y z, v = .ref T ∧ H T = none ∧ H' = upd H T (.tup [x, y, z]) ∧ (∀ xs, SqT K H a xs → xs[i]? = some x) ∧ (∀ ys, SqT K H b ys → ys[i]? = some y) ∧ ∀ zs, SqT K H c zs → zs[i]? = some z,
    fun i H => ∃ xs ys zs : List V, SqT K H a xs ∧ SqT K H b ys ∧ SqT K H c zs ∧ xs.length = i ∧ ys.length = i ∧ zs.length = i⟩
theorem turn_zip3 {P : Program} {w : World} {K : PySem.W.Frag} {elts : List Expr} {kk : Nat} {tpos : Pos} {a b c z TI TO i1 i2 i3 : Addr} (S : ZipSep3 z TI TO i1 i2 i3 [i1, a] [i2, b] [i3, c]) (n1 : a ≠ i1) (n2 : b ≠ i2) (n3 : c ≠ i3) :
    Turn P w K (.Tuple elts kk tpos) (Itz3 K a b c) [z, TI, TO, i1, i2, i3] z (fun i h => IsZip h z TI TO .none ∧ IsTupOf3 h TI (.ref i1) (.ref i2) (.ref i3) ∧ (∃ x y u, IsTupOf3 h TO x y u) ∧ h.IsTupleIter i1 a i ∧ h.IsTupleIter i2 b i ∧ h.IsTupleIter i3 c i) where
  mem := by simp
  obj := fun i h st c hc => by
    obtain ⟨hz, hTI, ⟨x, y, u, hTO⟩, ⟨o1, e1, _, d1⟩, ⟨o2, e2, _, d2⟩, ⟨o3, e3, _, d3⟩⟩ := st
    have e' : c = z ∨ c = TI ∨ c = TO ∨ c = i1 ∨ c = i2 ∨ c = i3 := by simpa using hc
    rcases e' with q | q | q | q | q | q
    · rw [q]; exact ⟨_, hz, fun v q => nomatch q⟩
    · rw [q]; exact ⟨_, hTI, fun v q => nomatch q⟩
    · rw [q]; exact ⟨_, hTO, fun v q => nomatch q⟩
    · rw [q]; exact ⟨o1, e1, fun v q => by rw [d1] at q; cases q⟩
    · rw [q]; exact ⟨o2, e2, fun v q => by rw [d2] at q; cases q⟩
    · rw [q]; exact ⟨o3, e3, fun v q => by rw [d3] at q; cases q⟩
  keep := fun i h h' st k => by
    obtain ⟨hz, hTI, ⟨x, y, u, hTO⟩, h1, h2, h3⟩ := st
    exact ⟨k z (by simp) _ hz, k TI (by simp) _ hTI, ⟨x, y, u, k TO (by simp) _ hTO⟩, h1.at fun o q => k i1 (by simp) o q, h2.at fun o q => k i2 (by simp) o q, h3.at fun o q => k i3 (by simp) o q⟩
  item := by
    intro X hP hw hK hc i pins s σ H E I hf st hg
    subst hP hw hK
    obtain ⟨hz, hTI, ⟨x0, y0, u0, hTO⟩, h1, h2, h3⟩ := st
    obtain ⟨xs, ys, zs, x, y, v, hqx, hqy, hqz, hx, hy, hv⟩ := hg
    obtain ⟨its, rv, p, _⟩ := I.tuple hqx
    obtain ⟨its2, rv2, p2, _⟩ := I.tuple hqy
    obtain ⟨its3, rv3, p3, _⟩ := I.tuple hqz
    obtain ⟨u, hu, ru⟩ := rv.get hx
    obtain ⟨u2, hu2, ru2⟩ := rv2.get hy
    obtain ⟨u3, hu3, ru3⟩ := rv3.get hv
    have W := WalksT.zipD3 (prog := X.prog) (w := X.w) (A := X.A) S (Draws.tuple (A := X.A.in1) (show X.A.in1.handled = none from I.ok.hd hc) i1 a n1 its.toArray) (Draws.tuple (A := X.A.in1) (show X.A.in1.handled = none from I.ok.hd hc) i2 b n2 its2.toArray) (Draws.tuple (A := X.A.in1) (show X.A.in1.handled = none from I.ok.hd hc) i3 c n3 its3.toArray)
    have lt1 : i < its.length := (List.getElem?_eq_some_iff.mp hu).1
    have lt2 : i < its2.length := (List.getElem?_eq_some_iff.mp hu2).1
    have lt3 : i < its3.length := (List.getElem?_eq_some_iff.mp hu3).1
    refine W.item i s _ E (by simp; omega) ⟨hz, hTI, ⟨x0, y0, u0, hTO⟩, ⟨h1, p⟩, ⟨h2, p2⟩, ⟨h3, p3⟩⟩ fun T vals h' tk hPt hle hT hMid hk => ?_
    have hap := W.apart i T h' hMid
    refine ⟨_, rfl, W.go elts kk tpos i T { s with heap := h', toks := tk } _ E hMid fun h'' hSt hk2 => ?_⟩
    obtain ⟨x1, x2, x3, e1, e2, e3, rfl⟩ := hPt
    have q1 : x1 = u := by
      have : its[i]? = some x1 := by simpa using e1
      rw [hu] at this; exact (Option.some.inj this).symm
    have q2 : x2 = u2 := by
      have : its2[i]? = some x2 := by simpa using e2
      rw [hu2] at this; exact (Option.some.inj this).symm
    have q3 : x3 = u3 := by
      have : its3[i]? = some x3 := by simpa using e3
      rw [hu3] at this; exact (Option.some.inj this).symm
    subst q1 q2 q3
    have hT2 : h''.IsTuple T #[x1, x2, x3] := hT.at fun o q => hk2 _ _ hap q
    have new : ObjOk X.prog X.w (upd H T (.tup [x, y, v])) h'' T (.tup [x, y, v]) :=
      ⟨by show 3 ≤ sizeLine; decide, [x1, x2, x3], .cons ru (.cons ru2 (.cons ru3 .nil)), hT2⟩
    have hf' : ∀ d ∈ [z, TO, i1, i2, i3], FpOk X pins H d := fun d hd => hf d (by
      have e' : d = z ∨ d = TO ∨ d = i1 ∨ d = i2 ∨ d = i3 := by simpa using hd
      rcases e' with q | q | q | q | q <;> simp [q])
    have I1 : Inv X pins σ (upd H T (.tup [x, y, v])) { s with heap := h'', toks := tk } :=
      I.turnedNew (t' := tk) (ch := [z, TO, i1, i2, i3]) (fun d o hb q => hk2 d o hb (hk d o hb q)) hf' hle new
    obtain ⟨z', TI', ⟨_, _, _, TO'⟩, ⟨h1', _⟩, ⟨h2', _⟩, ⟨h3', _⟩⟩ := hSt
    refine ⟨.ref T, _, I1, rfl, ⟨T, x, y, v, rfl, I.hok.fresh hle, rfl, fun l hl => by rw [I.tuple_inj hl hqx]; exact hx, fun l hl => by rw [I.tuple_inj hl hqy]; exact hy, fun l hl => by rw [I.tuple_inj hl hqz]; exact hv⟩, ⟨z', TI', ⟨_, _, _, TO'⟩, h1', h2', h3'⟩, fun d hcm => ?_⟩
    have hlt : d < s.heap.objs.size := by
      have e' : d = z ∨ d = TI ∨ d = TO ∨ d = i1 ∨ d = i2 ∨ d = i3 := by simpa using hcm
      rcases e' with q | q | q | q | q | q
      · rw [q]; exact Heap.lt_size hz
      · rw [q]; exact Heap.lt_size hTI
      · rw [q]; exact Heap.lt_size hTO
      · rw [q]; obtain ⟨_, e1, _⟩ := h1; exact Heap.lt_size e1
      · rw [q]; obtain ⟨_, e2, _⟩ := h2; exact Heap.lt_size e2
      · rw [q]; obtain ⟨_, e3, _⟩ := h3; exact Heap.lt_size e3
    rw [upd_ne (Nat.ne_of_lt (Nat.lt_of_lt_of_le hlt hle))]
    exact (hf d hcm).1
  done := by
    intro X hP hw hK hc i pins s σ H E I hf st hg
    subst hP hw hK
    obtain ⟨hz, hTI, ⟨x0, y0, u0, hTO⟩, h1, h2, h3⟩ := st
    obtain ⟨xs, ys, zs, hqx, hqy, hqz, l1, l2, l3⟩ := hg
    obtain ⟨its, rv, p, _⟩ := I.tuple hqx
    obtain ⟨its2, rv2, p2, _⟩ := I.tuple hqy
    obtain ⟨its3, rv3, p3, _⟩ := I.tuple hqz
    have m1 := rv.length
    have m2 := rv2.length
    have m3 := rv3.length
    have W := WalksT.zipD3 (prog := X.prog) (w := X.w) (A := X.A) S (Draws.tuple (A := X.A.in1) (show X.A.in1.handled = none from I.ok.hd hc) i1 a n1 its.toArray) (Draws.tuple (A := X.A.in1) (show X.A.in1.handled = none from I.ok.hd hc) i2 b n2 its2.toArray) (Draws.tuple (A := X.A.in1) (show X.A.in1.handled = none from I.ok.hd hc) i3 c n3 its3.toArray)
    have hn : min (min its.toArray.size its2.toArray.size) its3.toArray.size = i := by simp; omega
    have hf' : ∀ d ∈ [z, TO, i1, i2, i3], FpOk X pins H d := fun d hd => hf d (by
      have e' : d = z ∨ d = TO ∨ d = i1 ∨ d = i2 ∨ d = i3 := by simpa using hd
      rcases e' with q | q | q | q | q <;> simp [q])
    refine W.done s _ E (by rw [hn]; exact ⟨hz, hTI, ⟨x0, y0, u0, hTO⟩, ⟨h1, p⟩, ⟨h2, p2⟩, ⟨h3, p3⟩⟩) fun h' tk hk => ⟨rfl, I.turnedL (t' := tk) (ch := [z, TO, i1, i2, i3]) hk hf'⟩
  self := fun A i s Q E st h => wpAny_pyIter_zip st.1 h
def iZip3 (K : PySem.W.Frag) (ta : TA) : TI := fun σ H R => ta σ H fun vs H1 => ∃ a b c xs ys zs, vs = [.ref a, .ref b, .ref c] ∧ SqT K H1 a xs ∧ SqT K H1 b ys ∧ SqT K H1 c zs ∧ R (Itz3 K a b c) H1
theorem pi_zip3 {X : Cx} {e e2 e3 : Expr} {ta : TA} {p pos tpos : Pos} {elts : List Expr} {kk : Nat} (hg : Gl X "zip") (hm : X.mg "zip" = none) (ha : PA X [e, e2, e3] ta)
    (hs : starEach [e, e2, e3] X.env = (false, eval e X.env) :: starEach [e2, e3] X.env := by rfl) (hpl : (backTo pos (starEach [e2, e3] X.env)).any (·.1) = false := by rfl) :
    PI X (.Tuple elts kk tpos) (.Call (.Name "zip" p) [e, e2, e3] [] pos) (iZip3 X.K ta) := by
  refine ⟨fun pins s σ H R I h => ?_⟩
  refine Call_ (ld_blt I hg hm PyProof.Rows.boot_zip (PyProof.Rows.callWith_type1 (thn (ha.run pos pins s σ H _ I h) fun us s1 ⟨vs, H1, I1, r1, q1⟩ => ?_) hs hpl))
  obtain ⟨a, b, c, xs, ys, zs, ex, hqx, hqy, hqz, q⟩ := q1
  subst ex
  cases r1 with
  | cons r rr =>
    cases rr with
    | cons r' rr =>
      cases rr with
      | cons r'' rr =>
        cases rr
        cases r
        cases r'
        cases r''
        obtain ⟨its, rv, p1, _⟩ := I1.tuple hqx
        obtain ⟨its2, rv2, p2, _⟩ := I1.tuple hqy
        obtain ⟨its3, rv3, p3, _⟩ := I1.tuple hqz
        have la : a < s1.heap.objs.size := by obtain ⟨o, e, _⟩ := id p1; exact Heap.lt_size e
        have lb : b < s1.heap.objs.size := by obtain ⟨o, e, _⟩ := id p2; exact Heap.lt_size e
        have lc : c < s1.heap.objs.size := by obtain ⟨o, e, _⟩ := id p3; exact Heap.lt_size e
        have fresh6 : ∀ d, d ∈ [s1.heap.objs.size + 5, s1.heap.objs.size + 3, s1.heap.objs.size + 4, s1.heap.objs.size, s1.heap.objs.size + 1, s1.heap.objs.size + 2] → FpOk X pins H1 d := fun d hcm => by
          have e' : d = s1.heap.objs.size + 5 ∨ d = s1.heap.objs.size + 3 ∨ d = s1.heap.objs.size + 4 ∨ d = s1.heap.objs.size ∨ d = s1.heap.objs.size + 1 ∨ d = s1.heap.objs.size + 2 := by simpa using hcm
          have hle : s1.heap.objs.size ≤ d := by
            rcases e' with z | z | z | z | z | z
            · rw [z]; exact Nat.le_add_right _ _
            · rw [z]; exact Nat.le_add_right _ _
            · rw [z]; exact Nat.le_add_right _ _
            · rw [z]; exact Nat.le_refl _
            · rw [z]; exact Nat.le_add_right _ _
            · rw [z]; exact Nat.le_add_right _ _
          exact I1.fpOk hle (I1.hok.fresh hle)
        refine zip_begins3 (begins_tuple a its.toArray) (begins_tuple b its2.toArray) (begins_tuple c its3.toArray) p1 p2 p3 fun h' hz hTI hTO g1 g2 g3 hsz hk => wpAny_pyIter_zip hz ?_
        have I2 : Inv X pins σ H1 { s1 with heap := h' } := I1.kept (t' := s1.toks) hk
        exact ⟨s1.heap.objs.size + 5, [s1.heap.objs.size + 5, s1.heap.objs.size + 3, s1.heap.objs.size + 4, s1.heap.objs.size, s1.heap.objs.size + 1, s1.heap.objs.size + 2], _, _, H1, rfl, I2,
          turn_zip3 (zip_sep3 (fp1 := [a]) (fp2 := [b]) (fp3 := [c]) (fun d hd => by rw [List.mem_singleton.mp hd]; exact la) (fun d hd => by rw [List.mem_singleton.mp hd]; exact lb) (fun d hd => by rw [List.mem_singleton.mp hd]; exact lc)) (Nat.ne_of_lt la) (Nat.ne_of_lt (Nat.lt_succ_of_lt lb)) (Nat.ne_of_lt (Nat.lt_succ_of_lt (Nat.lt_succ_of_lt lc))),
          ⟨hz, hTI, ⟨_, _, _, hTO⟩, ⟨_, g1, rfl, rfl⟩, ⟨_, g2, rfl, rfl⟩, ⟨_, g3, rfl, rfl⟩⟩, fresh6, q⟩
end Bv
set_option Elab.async false
set_option linter.all false
set_option maxRecDepth 100000
set_option maxHeartbeats 1000000
namespace Bv
open PySem PySem.Spec PyProof.Rows L2
/-- {k: v}, k a tuple of ints and texts; the new dict stands empty while the pair is made -/
def tDisp1 (tk tv : TE) : TE := fun σ H Q => ∀ p, H p = none → tk σ (upd H p (.dT [])) fun x H1 => tv σ H1 fun y H2 => H2 p = some (.dT []) ∧ ∃ k b, x = .ref b ∧ H2 b = some (.tup (k.map kV)) ∧ Q (.ref p) (upd H2 p (.dT [(k, y)]))
theorem pe_disp1 {X : Cx} {k v : Expr} {pos : Pos} {tk tv : TE} (hu : X.A.units + 1 < cLine) (hk : PE X k tk) (hv : PE X v tv) : PE X (.Dict [some k] [v] pos) (tDisp1 tk tv) := by
  refine ⟨fun pins s σ H Q I q => ?_⟩
  have hn := I.hok.fresh (Nat.le_refl s.heap.objs.size)
  have I1 := I.laid (a := s.heap.objs.size) (o := .dT []) (h' := s.heap.push { cls := .type "dict", data := .dict #[] }) (t' := s.toks) (fun _ _ q => Heap.get?_push_of_some _ q) (Nat.le_refl _) (dt_empty s.heap I.big)
  rw [arm_eval_Dict, zip_pairTrees [some k] [v] X.env pos rfl rfl, dictDisplay_pairs _ (by intro z; cases z) (by show 1 < 17; decide)]
  refine wpAny_bind (wpAny_standAt (wpAny_bind ?_))
  unfold subDict
  refine wpAny_bind (wpAny_alloc ?_)
  refine wpAny_bind (wpAny_holding ?_)
  rw [if_pos (show (pairTrees [some k] [v] X.env pos).length ≤ 15 by show 1 ≤ 15; decide)]
  refine wpAny_bind (pairTrees_cons_walk (thn (hk.run pins _ σ _ _ I1 (q _ hn)) fun u s1 ⟨x, H1, I1, rx, q1⟩ => thn (hv.run pins s1 σ H1 _ I1 q1) fun w2 s2 ⟨y, H2, I2, ry, q2⟩ => pairTrees_nil_walk ?_))
  obtain ⟨e, kk, b, rfl, eb, q3⟩ := q2
  cases (show u = Value.ref b from rx)
  obtain ⟨z, hd, xs, rel, dd⟩ := dt_of I2.hok e
  cases rel
  refine wpAny_holding ?_
  rw [List.forIn_cons]
  refine wpAny_bind (wpAny_bind (wpAny_bind (wpAny_dictSet_heap (knd := tupleKind (mixKind X.prog X.w)) (hsz := by simp) (by show X.A.units < cLine; omega) (key_of I2.hok eb) dd fun h' dd' hs => wpAny_pure ?_)))
  show wpAny _ _ (forIn ([] : List (Value × Value)) _ _) _ _ _
  rw [List.forIn_nil]
  refine wpAny_pure (wpAny_pure (wpAny_pure (wpAny_pure ?_)))
  obtain ⟨q, es, ep, hq, h2, h3, h4, _, h5⟩ := dd'
  refine ⟨.ref s.heap.objs.size, _, d_write (ob := .dT [(kk, y)]) I2 (by rw [e]; exact True.intro) hs ⟨q, hq⟩ ⟨by show 1 ≤ sizeLine; decide, hd, _, (KT.put (kvs := []) .nil kk eb ry).keeps fun c ys ec => ?_, q, es, ep, hq, h2, h3, h4, h5⟩, rfl, q3⟩
  rw [upd_ne (ne_of ec e (fun z => nomatch z))]
  exact ec
end Bv
set_option Elab.async false
set_option linter.all false
set_option maxRecDepth 100000
set_option maxHeartbeats 1000000
namespace Bv
open PySem PySem.Spec PyProof.Rows L2
theorem meets_enum1 {v : Value} {o : Obj} {H : Heap → Prop} (B : Begins v o H) :
    Meets (Builtin.«enumerate.__new__» ⟨[.type "enumerate", v], []⟩) (fun _ R s => H s.heap ∧
      R (.ok (.ret (.ref (s.heap.push o).objs.size))) { s with heap := (s.heap.push o).push { cls := .type "enumerate", data := .fields #[.none, .bool false, .ref s.heap.objs.size, rawInt 0, .none, .none] } }) :=
  .of_wp fun prog w A R s h => by
    obtain ⟨hp, g, d, tk, os⟩ := s; obtain ⟨h1, h⟩ := h
    have hsub := sub_enumerate
    have q1 : ∀ {A' : Around} {E : Value → Shared → Prop} {Q : Value → Shared → Prop}, Q (.ref hp.objs.size) ⟨hp.push o, g, d, tk, os⟩ → wpAny (model prog w) A' (pyIter v) Q E ⟨hp, g, d, tk, os⟩ :=
      fun q => B.iter prog w _ _ ⟨hp, g, d, tk, os⟩ _ h1 q
    wp_walk using q1
    refine wpAny_stack_any fun st => wpAny_pure ?_
    split
    · rename_i c _ _ _ _ _
      cases (c == Value.type "enumerate")
      · wp_walk using q1
        exact ⟨_, rfl, h⟩
      · wp_walk using q1
        exact ⟨_, rfl, h⟩
    · wp_walk using q1
      exact ⟨_, rfl, h⟩
section
variable {prog : Program} {w : World} {A : Around} {E : Value → Shared → Prop} {s : Shared}
theorem enum_begins1 {v : Value} {o : Obj} {H : Heap → Prop} {Q : Value → Shared → Prop} (B : Begins v o H) (h1 : H s.heap)
    (h : ∀ h', IsEnum h' (s.heap.objs.size + 1) s.heap.objs.size 0 .none → h'.get? s.heap.objs.size = some o → h'.objs.size = s.heap.objs.size + 2 →
      (∀ b o, s.heap.get? b = some o → h'.get? b = some o) → Q (.ref (s.heap.objs.size + 1)) { s with heap := h' }) :
    wpAny (model prog w) A (call (.type "enumerate") [v]) Q E s := by
  refine callType_new F.called_enumerate (by decide) (F.typeCall_enumerate_1 _) (F.newCall_enumerate_1 _) (fun obj => F.args_object_init_2 obj _) F.entry_enumerate_new
    (meets_enum1 B) ⟨h1, ?_⟩
  have hz : (s.heap.push o).objs.size = s.heap.objs.size + 1 := Heap.size_push ..
  show _ ∧ _
  rw [hz]
  have he : IsEnum ((s.heap.push o).push { cls := .type "enumerate", data := .fields #[.none, .bool false, .ref s.heap.objs.size, rawInt 0, .none, .none] }) (s.heap.objs.size + 1) s.heap.objs.size 0 .none := by
    have := Heap.get?_push_size (s.heap.push o) (o := { cls := .type "enumerate", data := .fields #[.none, .bool false, .ref s.heap.objs.size, rawInt 0, .none, .none] }) rfl
    rw [hz] at this; exact this
  refine ⟨⟨_, he, rfl⟩, h _ he (Heap.get?_push_of_some _ (Heap.get?_push_size _ B.free)) (by rw [Heap.size_push, hz]) fun b o x => Heap.get?_push_of_some _ (Heap.get?_push_of_some _ x)⟩
end
/-- the tuple at a as it stands at each turn, each item in a new pair -/
def IteT (K : PySem.W.Frag) (a : Addr) : It :=
  ⟨fun i H => ∃ (xs : List V) (x : V), SqT K H a xs ∧ xs[i]? = some x, fun i H v H' => ∃ T x, v = .ref T ∧ H T = none ∧ H' = upd H T (.tup [.int (i : Nat), x]) ∧ ∀ xs, SqT K H a xs → xs[i]? = some x, fun i H => ∃ xs : List V, SqT K H a xs ∧ xs.length = i⟩
theorem turn_enumT {P : Program} {w : World} {K : PySem.W.Frag} {elts : List Expr} {kk : Nat} {tpos : Pos} (a e it : Addr) (n1 : e ≠ it) (n2 : e ≠ a) (n3 : a ≠ it) :
    Turn P w K (.Tuple elts kk tpos) (IteT K a) [e, it] e (fun i h => (∃ old, IsEnum h e it ((i : Nat) : Int) old) ∧ h.IsTupleIter it a i) where
  mem := by simp
  obj := fun i h st b hb => by
    obtain ⟨⟨old, he⟩, ⟨o, ho, hc, hd⟩⟩ := st
    have e' : b = e ∨ b = it := by simpa using hb
    rcases e' with z | z
    · rw [z]; exact ⟨_, he, fun v q => nomatch q⟩
    · rw [z]; exact ⟨o, ho, fun v q => by rw [hd] at q; cases q⟩
  keep := fun i h h' st k => let ⟨⟨old, he⟩, hi⟩ := st; ⟨⟨old, k e (by simp) _ he⟩, hi.at fun o q => k it (by simp) o q⟩
  item := by
    intro X hP hw hK hc i pins s σ H E I hf st hg
    subst hP hw hK
    obtain ⟨⟨old, he⟩, h1⟩ := st
    obtain ⟨xs, x, hqx, hx⟩ := hg
    obtain ⟨its, rv, p, _⟩ := I.tuple hqx
    obtain ⟨u, hu, ru⟩ := rv.get hx
    have W := WalksT.enumerateD (prog := X.prog) (w := X.w) (A := X.A) (Draws.tuple (A := X.A.in1) (show X.A.in1.handled = none from I.ok.hd hc) it a n3 its.toArray) e n1 (by simp [n1, n2]) (by simp)
    have lt1 : i < its.length := (List.getElem?_eq_some_iff.mp hu).1
    refine W.item i s _ E (by simp; omega) ⟨⟨old, he⟩, ⟨h1, p⟩⟩ fun T vals h' tk hPt hle hT hMid hk => ?_
    have hap := W.apart i T h' hMid
    refine ⟨_, rfl, W.go elts kk tpos i T { s with heap := h', toks := tk } _ E hMid fun h'' hSt hk2 => ?_⟩
    obtain ⟨t, x1, e1, rfl⟩ := hPt
    have q1 : x1 = u := by
      have : its[i]? = some x1 := by simpa using e1
      rw [hu] at this; exact (Option.some.inj this).symm
    subst q1
    have hT2 : h''.IsTuple T #[.int i t, x1] := hT.at fun o q => hk2 _ _ hap q
    have new : ObjOk X.prog X.w (upd H T (.tup [.int (i : Nat), x])) h'' T (.tup [.int (i : Nat), x]) :=
      ⟨by show 2 ≤ sizeLine; decide, [.int i t, x1], .cons ⟨_, rfl⟩ (.cons ru .nil), hT2⟩
    have I1 : Inv X pins σ (upd H T (.tup [.int (i : Nat), x])) { s with heap := h'', toks := tk } :=
      I.turnedNew (t' := tk) (ch := [e, it]) (fun d o hb q => hk2 d o hb (hk d o hb q)) hf hle new
    obtain ⟨⟨old', he'⟩, ⟨h1', _⟩⟩ := hSt
    refine ⟨.ref T, _, I1, rfl, ⟨T, x, rfl, I.hok.fresh hle, rfl, fun l hl => by rw [I.tuple_inj hl hqx]; exact hx⟩, ⟨⟨old', he'⟩, h1'⟩, fun d hcm => ?_⟩
    have hlt : d < s.heap.objs.size := by
      have e' : d = e ∨ d = it := by simpa using hcm
      rcases e' with q | q
      · rw [q]; exact Heap.lt_size he
      · rw [q]; obtain ⟨_, e1, _⟩ := h1; exact Heap.lt_size e1
    rw [upd_ne (Nat.ne_of_lt (Nat.lt_of_lt_of_le hlt hle))]
    exact (hf d hcm).1
  done := by
    intro X hP hw hK hc i pins s σ H E I hf st hg
    subst hP hw hK
    obtain ⟨⟨old, he⟩, h1⟩ := st
    obtain ⟨xs, hqx, l1⟩ := hg
    obtain ⟨its, rv, p, _⟩ := I.tuple hqx
    have m1 := rv.length
    have W := WalksT.enumerateD (prog := X.prog) (w := X.w) (A := X.A) (Draws.tuple (A := X.A.in1) (show X.A.in1.handled = none from I.ok.hd hc) it a n3 its.toArray) e n1 (by simp [n1, n2]) (by simp)
    have hn : its.toArray.size = i := by simp; omega
    refine W.done s _ E (by rw [hn]; exact ⟨⟨old, he⟩, ⟨h1, p⟩⟩) fun h' tk hk => ⟨rfl, I.turnedL (t' := tk) (ch := [e, it]) hk hf⟩
  self := fun A i s Q E st h => let ⟨⟨_, he⟩, _⟩ := st; wpAny_pyIter_enum he h
def iEnumA (K : PySem.W.Frag) (ta : TA) : TI := fun σ H R => ta σ H fun vs H1 => ∃ a xs, vs = [.ref a] ∧ ((SqL K H1 a xs ∧ R (Ite K a) H1) ∨ (SqT K H1 a xs ∧ R (IteT K a) H1))
theorem pi_enumA {X : Cx} {e : Expr} {ta : TA} {p pos tpos : Pos} {elts : List Expr} {kk : Nat} (hg : Gl X "enumerate") (hm : X.mg "enumerate" = none) (ha : PA X [e] ta) (hs : starEach [e] X.env = [(false, eval e X.env)] := by rfl) :
    PI X (.Tuple elts kk tpos) (.Call (.Name "enumerate" p) [e] [] pos) (iEnumA X.K ta) := by
  refine ⟨fun pins s σ H R I h => ?_⟩
  refine Call_ (ld_blt I hg hm boot_enumerate (PyProof.Rows.callWith_type1 (thn (ha.run pos pins s σ H _ I h) fun us s1 ⟨vs, H1, I1, r1, q1⟩ => ?_) hs rfl))
  obtain ⟨a, xs, ex, q⟩ := q1
  subst ex
  cases r1 with
  | cons r rr =>
    cases rr
    cases r
    have fresh2 : ∀ b, b ∈ [s1.heap.objs.size + 1, s1.heap.objs.size] → FpOk X pins H1 b := fun b hb => by
      have e' : b = s1.heap.objs.size + 1 ∨ b = s1.heap.objs.size := by simpa using hb
      have hle : s1.heap.objs.size ≤ b := by
        rcases e' with z | z
        · rw [z]; exact Nat.le_add_right _ _
        · rw [z]; exact Nat.le_refl _
      exact I1.fpOk hle (I1.hok.fresh hle)
    rcases q with ⟨hq, q⟩ | ⟨hq, q⟩
    · obtain ⟨its, rv, p', hz⟩ := I1.list hq
      refine call_enumerate_list p'.isList fun h' he hit hsz hk => wpAny_pyIter_enum he ?_
      have I2 : Inv X pins σ H1 { s1 with heap := h' } := I1.kept (t' := s1.toks) hk
      exact ⟨s1.heap.objs.size + 1, [s1.heap.objs.size + 1, s1.heap.objs.size], _, _, H1, rfl, I2, turn_enum a (s1.heap.objs.size + 1) s1.heap.objs.size, ⟨⟨.none, he⟩, hit, Nat.succ_ne_self _⟩, fresh2, q⟩
    · obtain ⟨its, rv, p', hz⟩ := I1.tuple hq
      have la : a < s1.heap.objs.size := by obtain ⟨o, e, _⟩ := id p'; exact Heap.lt_size e
      refine enum_begins1 (begins_tuple a its.toArray) p' fun h' he hit hsz hk => wpAny_pyIter_enum he ?_
      have I2 : Inv X pins σ H1 { s1 with heap := h' } := I1.kept (t' := s1.toks) hk
      exact ⟨s1.heap.objs.size + 1, [s1.heap.objs.size + 1, s1.heap.objs.size], _, _, H1, rfl, I2, turn_enumT a (s1.heap.objs.size + 1) s1.heap.objs.size (Nat.succ_ne_self _) (Nat.ne_of_gt (Nat.lt_succ_of_lt la)) (Nat.ne_of_lt la), ⟨⟨.none, he⟩, ⟨_, hit, rfl, rfl⟩⟩, fresh2, q⟩
end Bv
set_option Elab.async false
set_option linter.all false
set_option maxRecDepth 100000
set_option maxHeartbeats 1000000
namespace Bv
open PySem PySem.Spec PyProof.Rows L2
def mergeT (acc more : List (List Key × V)) : List (List Key × V) := more.foldl (fun acc kv => putK acc kv.1 kv.2) acc
theorem mergeT_len : ∀ (more acc : List (List Key × V)), (mergeT acc more).length ≤ acc.length + more.length
  | [], acc => by show acc.length ≤ acc.length + 0; omega
  | p :: r, acc => by
    have h1 := mergeT_len r (putK acc p.1 p.2)
    have h2 := length_putK acc p.1 p.2
    show (mergeT (putK acc p.1 p.2) r).length ≤ _
    rw [List.length_cons]; omega
theorem KT.merge {H : Hp} : ∀ {more : List (List Key × V)} {rs : List (List Key × Addr × Value)} {acc : List (List Key × V)} {vs : List (List Key × Addr × Value)}, KT H more rs → KT H acc vs → KT H (mergeT acc more) (storedAllH vs rs) := by
  intro more rs acc vs r
  unfold KT at r
  induction r generalizing acc vs with
  | nil => intro q; exact q
  | @cons p q ps qs h t ih =>
    intro r0
    obtain ⟨h1, h2, h3⟩ := h
    have := KT.put r0 p.1 h2 h3
    show KT H (mergeT (putK acc p.1 p.2) ps) (storedAllH (storedH vs q.1 q.2.1 q.2.2) qs)
    rw [← h1]
    exact ih this
theorem tk_keep {P : Program} {w : World} {h h' : Heap} {k : List Key} {a : Addr} (x : (tupleKind (mixKind P w)).is h k a) (e : ∀ o, h.get? a = some o → h'.get? a = some o) : (tupleKind (mixKind P w)).is h' k a := by
  obtain ⟨o, items, n, h1, r⟩ := x
  exact ⟨o, items, n, e o h1, r⟩
def rDictT (K : PySem.W.Frag) : List V → Hp → VK → Prop := fun vs H Q => ∃ (a : Addr) (ps : List Addr) (kvs : List (List Key × V)), vs = [.ref a] ∧ SqL K H a (ps.map V.ref) ∧ Paired (fun p kv => ∃ b, SqT K H p [.ref b, kv.2] ∧ H b = some (.tup (kv.1.map kV))) ps kvs ∧ ∀ p, H p = none → Q (.ref p) (upd H p (.dT (mergeT [] kvs)))
section
variable {X : Cx}
theorem pairsT_of {pins : List (Addr × Obj)} {σ : L2.St} {H : Hp} {s : Shared} (I : Inv X pins σ H s) : ∀ {ps : List Addr} {kvs : List (List Key × V)}, Paired (fun p kv => ∃ b, SqT X.K H p [.ref b, kv.2] ∧ H b = some (.tup (kv.1.map kV))) ps kvs →
    ∃ prs : List (List Key × Addr × Value), KT H kvs prs ∧ prs.length = ps.length ∧ ∀ (j : Nat) (q : List Key × Addr × Value), prs[j]? = some q → H q.2.1 = some (.tup (q.1.map kV)) ∧ ∃ b : Addr, ps[j]? = some b ∧ IsTup s.heap b #[.ref q.2.1, q.2.2]
  | _, _, .nil => ⟨[], .nil, rfl, fun j q e => by simp at e⟩
  | _, _, .cons (a := p) (b := kv) h t => by
    obtain ⟨prs, r, hl, hp⟩ := pairsT_of I t
    obtain ⟨b, h1, h2⟩ := h
    obtain ⟨its, rv, ht, _⟩ := I.tuple h1
    obtain ⟨u, y, ei, ru, ry⟩ := vals2 rv
    subst ei
    cases (show u = Value.ref b from ru)
    refine ⟨(kv.1, b, y) :: prs, .cons ⟨rfl, h2, ry⟩ r, by rw [List.length_cons, List.length_cons, hl], fun j q e => ?_⟩
    cases j with
    | zero =>
      have e' : (kv.1, b, y) = q := Option.some.inj e
      subst e'
      exact ⟨h2, p, rfl, ht⟩
    | succ j =>
      obtain ⟨h3, b', e1, e2⟩ := hp j q (by simpa using e)
      exact ⟨h3, b', by simpa using e1, e2⟩
theorem dictT_ok (hcalm : X.calm = true) (hu : X.A.units + 4 < cLine) : CallR X (.type "dict") (rDictT X.K) := by
  intro pins s σ H xs us Q I r q
  obtain ⟨a, ps, kvs, ex, hq, hp, q⟩ := q
  subst ex
  obtain ⟨u, eu, rx⟩ := vals1 r
  subst eu
  cases rx
  obtain ⟨its, rv, pl, hz⟩ := I.list hq
  have ei := refs_at rv
  subst ei
  rw [List.length_map] at hz
  obtain ⟨prs, rel, hl, hpr⟩ := pairsT_of I hp
  obtain ⟨o, n, ho, hc, hd, hdat⟩ := pl
  have P := PairArg.list (prog := X.prog) (w := X.w) a (ps.map Value.ref).toArray (fun j => (ps[j]?).getD 0) (prs.map fun q => (Value.ref q.2.1, q.2.2))
  refine PySem.call_dict_pairsH (knd := tupleKind (mixKind X.prog X.w)) (ps := prs) P (I.ok.hd hcalm) (show X.A.units + 2 < cLine by omega) ⟨⟨o, n, ho, hc, hd, hdat⟩, ⟨by simp [hl], fun j k v e => ?_⟩⟩ ⟨by rw [List.length_map], fun i key v e => ?_⟩ (fun h' hk x hx => ?_) (by rw [List.length_map, hl]; exact hz) fun h' tk hd' k => ?_
  · rw [List.getElem?_map] at e
    cases c : prs[j]? with
    | none => rw [c] at e; cases e
    | some q =>
      rw [c] at e
      have e' : (Value.ref q.2.1, q.2.2) = (k, v) := Option.some.inj e
      cases e'
      obtain ⟨_, b, e1, e2⟩ := hpr j q c
      refine ⟨by simp [e1], .inl ?_⟩
      show s.heap.IsTuple ((ps[j]?).getD 0) _
      rw [e1]
      exact e2
  · have e : (prs.map fun q => (Value.ref q.2.1, q.2.2))[i]? = some (key, v) := e
    rw [List.getElem?_map] at e
    cases c : prs[i]? with
    | none => rw [c] at e; cases e
    | some q =>
      rw [c] at e
      have e' : (Value.ref q.2.1, q.2.2) = (key, v) := Option.some.inj e
      cases e'
      exact ⟨q.1, q.2.1, rfl, rfl⟩
  · obtain ⟨j, hj⟩ := List.mem_iff_getElem?.mp hx
    obtain ⟨h1, _⟩ := hpr j x hj
    exact tk_keep (key_of I.hok h1) fun o e => hk _ o (Nat.ne_of_lt (Heap.lt_size e)) (by simp) e
  · have hm : (s.heap.objs.size == sysModules) = false := beq_eq_false_iff_ne.mpr (Nat.ne_of_gt I.big)
    have hlen : (mergeT [] kvs).length ≤ sizeLine := by
      refine Nat.le_trans (mergeT_len kvs []) ?_
      have := Paired.length rel
      rw [List.length_nil, Nat.zero_add, this, hl]
      exact hz
    have hn := I.hok.fresh (Nat.le_refl s.heap.objs.size)
    obtain ⟨q', es, ep, g1, g2, g3, g4, _, g5⟩ := hd'
    refine ⟨.ref s.heap.objs.size, upd H s.heap.objs.size (.dT (mergeT [] kvs)), I.laid (t' := tk) (fun b o e => k b o (by simp) e) (Nat.le_refl _) ⟨hlen, hm, storedAllH [] prs, (KT.merge rel .nil).keeps fun c ys ec => ?_, q', es, ep, g1, g2, g3, g4, g5⟩, rfl, q _ hn⟩
    rw [upd_ne (fun z => by rw [z, hn] at ec; cases ec)]
    exact ec
end
end Bv
set_option Elab.async false
set_option linter.all false
set_option maxRecDepth 100000
set_option maxHeartbeats 1000000
namespace Bv
open PySem PySem.Spec L2
abbrev D := PyData
def nt : HO → Bool
  | .tup _ => false
  | _ => true
structure Ex2 (G H G' H' : Hp) : Prop where
  g : Same G G'
  h : Same H H'
  s : Same G' H'
  f : ∀ a o, H a = some o → nt o = true → G a = none → G' a = none
theorem Ex2.refl {G H : Hp} (s : Same G H) : Ex2 G H G H := ⟨Same.refl _, Same.refl _, s, fun _ _ _ _ h => h⟩
theorem some_ne {α : Type} {a : α} {o : Option α} (h : o = some a) : o ≠ none := by rw [h]; exact fun q => nomatch q
theorem ne_none_ex {α : Type} {o : Option α} (h : o ≠ none) : ∃ a, o = some a := by
  cases o with
  | none => exact absurd rfl h
  | some a => exact ⟨a, rfl⟩
theorem Same.ne {H H' : Hp} (s : Same H H') {a : Addr} (h : H a ≠ none) : H' a ≠ none := by
  obtain ⟨o, e⟩ := ne_none_ex h
  exact some_ne (s a o e)
theorem Ex2.trans {G H G1 H1 G2 H2 : Hp} (x : Ex2 G H G1 H1) (y : Ex2 G1 H1 G2 H2) : Ex2 G H G2 H2 :=
  ⟨x.g.trans y.g, x.h.trans y.h, y.s, fun a o h1 h2 h3 => y.f a o (x.h a o h1) h2 (x.f a o h1 h2 h3)⟩
theorem same_upd {H : Hp} {p : Addr} {o : HO} (h : H p = none) : Same H (upd H p o) := fun b u e => by
  rw [upd_ne (ne_of_none e h)]; exact e
/-- a new object, read by value -/
theorem Ex2.new {G H : Hp} {p : Addr} (o : HO) (s : Same G H) (h : H p = none) : Ex2 G H (upd G p o) (upd H p o) := by
  have hg : G p = none := s.free h
  refine ⟨same_upd hg, same_upd h, fun b u e => ?_, fun a o' h1 _ h2 => ?_⟩
  · by_cases hb : b = p
    · subst hb; rw [upd_same] at e ⊢; exact e
    · rw [upd_ne hb] at e ⊢; exact s b u e
  · by_cases ha : a = p
    · subst ha; rw [h] at h1; cases h1
    · rw [upd_ne ha]; exact h2
/-- an old tuple, read by value from here on -/
theorem Ex2.take {G H : Hp} {p : Addr} {xs : List V} (s : Same G H) (h : H p = some (.tup xs)) (g : G p = none) : Ex2 G H (upd G p (.tup xs)) H := by
  refine ⟨same_upd g, Same.refl _, fun b u e => ?_, fun a o h1 h2 h3 => ?_⟩
  · by_cases hb : b = p
    · subst hb; rw [upd_same] at e; rw [h]; exact e
    · rw [upd_ne hb] at e; exact s b u e
  · by_cases ha : a = p
    · subst ha; rw [h] at h1; cases h1; cases h2
    · rw [upd_ne ha]; exact h3
/-- a new object that is not read by value (yet) -/
theorem Ex2.hid {G H : Hp} {p : Addr} (o : HO) (s : Same G H) (h : H p = none) : Ex2 G H G (upd H p o) :=
  ⟨Same.refl _, same_upd h, s.trans (same_upd h), fun _ _ _ _ h => h⟩
section
variable {K : PySem.W.Frag} {G G' : Hp}
theorem sqT_same {a : Addr} {xs : List V} (e : Same G G') (h : SqT K G a xs) : SqT K G' a xs := by
  rcases h with (h | ⟨o, h⟩) | h
  · exact .inl (.inl (e _ _ h))
  · exact .inl (.inr ⟨o, e _ _ h⟩)
  · exact .inr h
mutual
/-- a value reads as data, by the heap G -/
inductive Dq (K : PySem.W.Frag) (G : Hp) : V → PyData → Prop
  | non : Dq K G .non .none
  | bl (b : Bool) : Dq K G (.bl b) (.bool b)
  | int (i : Int) : Dq K G (.int i) (.int i)
  | str (x : Str) : Dq K G (.str x) (.str x)
  | lst {a : Addr} {xs : List V} {ds : List PyData} : G a = some (.lst xs) → DqAll K G xs ds → Dq K G (.ref a) (.list ds)
  | tup {a : Addr} {xs : List V} {ds : List PyData} : G a = some (.tup xs) → DqAll K G xs ds → Dq K G (.ref a) (.tuple ds)
inductive DqAll (K : PySem.W.Frag) (G : Hp) : List V → List PyData → Prop
  | nil : DqAll K G [] []
  | cons {v : V} {vs : List V} {d : PyData} {ds : List PyData} : Dq K G v d → DqAll K G vs ds → DqAll K G (v :: vs) (d :: ds)
end
mutual
theorem dq_same (e : Same G G') : ∀ (d : PyData) (v : V), Dq K G v d → Dq K G' v d
  | .none, _, h => by cases h; exact .non
  | .bool _, _, h => by cases h; exact .bl _
  | .int _, _, h => by cases h; exact .int _
  | .str _, _, h => by cases h; exact .str _
  | .list ds, _, h => by
    cases h with
    | lst hs ha => exact .lst (e _ _ hs) (dqAll_same e ds _ ha)
  | .tuple ds, _, h => by
    cases h with
    | tup hs ha => exact .tup (e _ _ hs) (dqAll_same e ds _ ha)
  | .dict _, _, h => by cases h
theorem dqAll_same (e : Same G G') : ∀ (ds : List PyData) (vs : List V), DqAll K G vs ds → DqAll K G' vs ds
  | [], _, h => by cases h; exact .nil
  | d :: ds, _, h => by
    cases h with
    | cons h1 h2 => exact .cons (dq_same e d _ h1) (dqAll_same e ds _ h2)
end
mutual
theorem dq_dp : ∀ (d : PyData) (v : V), Dq K G v d → Dp K G v d
  | .none, _, h => by cases h; exact .non
  | .bool _, _, h => by cases h; exact .bl _
  | .int _, _, h => by cases h; exact .int _
  | .str _, _, h => by cases h; exact .str _
  | .list ds, _, h => by
    cases h with
    | lst hs ha => exact .lst (SqL.of hs) (dqAll_dp ds _ ha)
  | .tuple ds, _, h => by
    cases h with
    | tup hs ha => exact .tup (SqT.of hs) (dqAll_dp ds _ ha)
  | .dict _, _, h => by cases h
theorem dqAll_dp : ∀ (ds : List PyData) (vs : List V), DqAll K G vs ds → DpAll K G vs ds
  | [], _, h => by cases h; exact .nil
  | d :: ds, _, h => by
    cases h with
    | cons h1 h2 => exact .cons (dq_dp d _ h1) (dqAll_dp ds _ h2)
end
mutual
theorem dp_of (e : Same G G') : ∀ {d : PyData} {v : V}, Dp K G v d → Dp K G' v d
  | .none, _, h => by cases h; exact .non
  | .bool _, _, h => by cases h; exact .bl _
  | .int _, _, h => by cases h; exact .int _
  | .str _, _, h => by cases h; exact .str _
  | .list ds, _, h => by
    cases h with
    | lst hs ha => exact .lst (e.seq hs) (dpAll_of e ha)
  | .tuple ds, _, h => by
    cases h with
    | tup hs ha => exact .tup (sqT_same e hs) (dpAll_of e ha)
  | .dict _, _, h => by cases h
theorem dpAll_of (e : Same G G') : ∀ {ds : List PyData} {vs : List V}, DpAll K G vs ds → DpAll K G' vs ds
  | [], _, h => by cases h; exact .nil
  | d :: ds, _, h => by
    cases h with
    | cons h1 h2 => exact .cons (dp_of e h1) (dpAll_of e h2)
end
theorem dqAll_len : ∀ {vs : List V} {ds : List PyData}, DqAll K G vs ds → vs.length = ds.length
  | [], [], _ => rfl
  | [], _ :: _, h => by cases h
  | _ :: _, [], h => by cases h
  | _ :: vs, _ :: ds, h => by
    cases h with
    | cons _ h2 => rw [List.length_cons, List.length_cons, dqAll_len h2]
theorem dqAll_at : ∀ {vs : List V} {ds : List PyData}, DqAll K G vs ds → ∀ {i : Nat} {v : V}, vs[i]? = some v → ∃ d, ds[i]? = some d ∧ Dq K G v d
  | [], _, _, i, v, e => by simp at e
  | _ :: _, [], h, _, _, _ => by cases h
  | w :: vs, x :: ds, h, i, v, e => by
    cases h with
    | cons h1 h2 =>
      cases i with
      | zero => simp at e; subst e; exact ⟨x, rfl, h1⟩
      | succ i => simpa using dqAll_at h2 (by simpa using e)
theorem dqAll_at' {vs : List V} {ds : List PyData} (h : DqAll K G vs ds) {i : Nat} {d : PyData} (e : ds[i]? = some d) : ∃ v, vs[i]? = some v ∧ Dq K G v d := by
  have hl := dqAll_len h
  have hi : i < vs.length := by rw [hl]; exact (List.getElem?_eq_some_iff.mp e).1
  obtain ⟨d', e', q⟩ := dqAll_at h (List.getElem?_eq_getElem hi)
  rw [e] at e'
  cases e'
  exact ⟨_, List.getElem?_eq_getElem hi, q⟩
theorem dqAll_append : ∀ {vs ws : List V} {ds es : List PyData}, DqAll K G vs ds → DqAll K G ws es → DqAll K G (vs ++ ws) (ds ++ es)
  | [], _, [], _, _, h => h
  | [], _, _ :: _, _, h, _ => by cases h
  | _ :: _, _, [], _, h, _ => by cases h
  | _ :: _, _, _ :: _, _, h, k => by
    cases h with
    | cons h1 h2 => exact .cons h1 (dqAll_append h2 k)
theorem dqAll_drop : ∀ (n : Nat) {vs : List V} {ds : List PyData}, DqAll K G vs ds → DqAll K G (vs.drop n) (ds.drop n)
  | 0, _, _, h => h
  | n + 1, [], [], _ => .nil
  | _ + 1, [], _ :: _, h => by cases h
  | _ + 1, _ :: _, [], h => by cases h
  | n + 1, _ :: _, _ :: _, h => by
    cases h with
    | cons _ h2 => exact dqAll_drop n h2
theorem dqAll_take : ∀ (n : Nat) {vs : List V} {ds : List PyData}, DqAll K G vs ds → DqAll K G (vs.take n) (ds.take n)
  | 0, _, _, _ => .nil
  | n + 1, [], [], _ => .nil
  | _ + 1, [], _ :: _, h => by cases h
  | _ + 1, _ :: _, [], h => by cases h
  | n + 1, _ :: _, _ :: _, h => by
    cases h with
    | cons h1 h2 => exact .cons h1 (dqAll_take n h2)
theorem dpAll_length : ∀ {vs : List V} {ds : List PyData}, DpAll K G vs ds → vs.length = ds.length
  | [], [], _ => rfl
  | [], _ :: _, h => by cases h
  | _ :: _, [], h => by cases h
  | _ :: vs, _ :: ds, h => by
    cases h with
    | cons _ h2 => rw [List.length_cons, List.length_cons, dpAll_length h2]
theorem dpAll_nth : ∀ {vs : List V} {ds : List PyData}, DpAll K G vs ds → ∀ {i : Nat} {v : V}, vs[i]? = some v → ∃ d, ds[i]? = some d ∧ Dp K G v d
  | [], _, _, i, v, e => by simp at e
  | _ :: _, [], h, _, _, _ => by cases h
  | w :: vs, x :: ds, h, i, v, e => by
    cases h with
    | cons h1 h2 =>
      cases i with
      | zero => simp at e; subst e; exact ⟨x, rfl, h1⟩
      | succ i => simpa using dpAll_nth h2 (by simpa using e)
def kD : Key → PyData
  | .inl i => .int i
  | .inr s => .str s
abbrev KD (K : PySem.W.Frag) (G : Hp) : List (Key × V) → List (PyData × PyData) → Prop := Paired fun p q => q.1 = kD p.1 ∧ Dq K G p.2 q.2
abbrev TD (K : PySem.W.Frag) (G : Hp) : List (List Key × V) → List (PyData × PyData) → Prop := Paired fun p q => q.1 = .tuple (p.1.map kD) ∧ Dq K G p.2 q.2
/-- what stands at a, a dict: its kind's mark, then its pairs -/
def DcAt (K : PySem.W.Frag) (G : Hp) (kvs : List (PyData × PyData)) (o : HO) : Prop :=
  (∃ ks r, kvs = (.bool false, .none) :: r ∧ o = .dK ks ∧ KD K G ks r) ∨ ∃ ks r, kvs = (.bool true, .none) :: r ∧ o = .dT ks ∧ TD K G ks r
/-- the same, while it is walked too -/
def DcRd (K : PySem.W.Frag) (G : Hp) (kvs : List (PyData × PyData)) (o : HO) : Prop :=
  (∃ ks r, kvs = (.bool false, .none) :: r ∧ (o = .dK ks ∨ ∃ od, o = .frz od (.dK ks)) ∧ KD K G ks r) ∨ ∃ ks r, kvs = (.bool true, .none) :: r ∧ (o = .dT ks ∨ ∃ od, o = .frz od (.dT ks)) ∧ TD K G ks r
theorem DcAt.rd {kvs : List (PyData × PyData)} {o : HO} (h : DcAt K G kvs o) : DcRd K G kvs o := by
  rcases h with ⟨ks, r, h0, h1, h2⟩ | ⟨ks, r, h0, h1, h2⟩
  · exact .inl ⟨ks, r, h0, .inl h1, h2⟩
  · exact .inr ⟨ks, r, h0, .inl h1, h2⟩
/-- a value reads as data (a dict at the top alone) -/
inductive DR (K : PySem.W.Frag) (G : Hp) : V → PyData → Prop
  | dq {v : V} {d : PyData} (h : Dq K G v d) : DR K G v d
  | scr {a : Addr} {ns : List Int} (h : SqL K G a (ns.map V.int)) : DR K G (.ref a) (.dict [(.none, .list (ns.map .int))])
  | kst {a : Addr} {xs : List V} {ds : List PyData} (h : SqT K G a xs) (k : ∃ o, K.lookup a = some o ∧ o.cls = .type "tuple" ∧ o.dict = none) (q : DqAll K G xs ds) : DR K G (.ref a) (.dict [(.none, .tuple ds)])
  | dc {a : Addr} {o : HO} {kvs : List (PyData × PyData)} (h : G a = some o) (q : DcRd K G kvs o) : DR K G (.ref a) (.dict kvs)
  | exc {a : Addr} {c : Str} : DR K G (.ref a) (.dict [(.str c, .int ((a : Nat) : Int))])
theorem dcAt_same (e : Same G G') {kvs : List (PyData × PyData)} {o : HO} (h : DcAt K G kvs o) : DcAt K G' kvs o := by
  rcases h with ⟨ks, r, h0, h1, h2⟩ | ⟨ks, r, h0, h1, h2⟩
  · exact .inl ⟨ks, r, h0, h1, Paired.mapP h2 fun _ _ q => ⟨q.1, dq_same e _ _ q.2⟩⟩
  · exact .inr ⟨ks, r, h0, h1, Paired.mapP h2 fun _ _ q => ⟨q.1, dq_same e _ _ q.2⟩⟩
theorem dcRd_same (e : Same G G') {kvs : List (PyData × PyData)} {o : HO} (h : DcRd K G kvs o) : DcRd K G' kvs o := by
  rcases h with ⟨ks, r, h0, h1, h2⟩ | ⟨ks, r, h0, h1, h2⟩
  · exact .inl ⟨ks, r, h0, h1, Paired.mapP h2 fun _ _ q => ⟨q.1, dq_same e _ _ q.2⟩⟩
  · exact .inr ⟨ks, r, h0, h1, Paired.mapP h2 fun _ _ q => ⟨q.1, dq_same e _ _ q.2⟩⟩
theorem dr_same (e : Same G G') {d : PyData} {v : V} (h : DR K G v d) : DR K G' v d := by
  cases h with
  | dq h => exact .dq (dq_same e _ _ h)
  | scr h => exact .scr (e.seq h)
  | kst h k q => exact .kst (sqT_same e h) k (dqAll_same e _ _ q)
  | dc h q => exact .dc (e _ _ h) (dcRd_same e q)
  | exc => exact .exc
/-- no dict -/
def nodict : PyData → Bool
  | .dict _ => false
  | _ => true
theorem DR.data {d : PyData} {v : V} (h : DR K G v d) (hn : nodict d = true) : Dq K G v d := by
  cases h with
  | dq h => exact h
  | scr _ => cases hn
  | kst _ _ _ => cases hn
  | dc _ _ => cases hn
  | exc => cases hn
theorem DR.nodict_of {d : PyData} {v : V} (h : DR K G v d) (hn : ∀ kvs, d ≠ .dict kvs) : Dq K G v d := by
  cases h with
  | dq h => exact h
  | scr _ => exact absurd rfl (hn _)
  | kst _ _ _ => exact absurd rfl (hn _)
  | dc _ _ => exact absurd rfl (hn _)
  | exc => exact absurd rfl (hn _)
end
end Bv
namespace Bv
open PySem PySem.Spec L2
abbrev scrD (l : List PyData) : PyData := .dict [(.none, .list l)]
abbrev kstD (l : List PyData) : PyData := .dict [(.none, .tuple l)]
abbrev dkD (kvs : List (PyData × PyData)) : PyData := .dict ((.bool false, .none) :: kvs)
abbrev dtD (kvs : List (PyData × PyData)) : PyData := .dict ((.bool true, .none) :: kvs)
section
variable {K : PySem.W.Frag} {G H : Hp} {x : V}
theorem dr_int {i : Int} (h : DR K G x (.int i)) : x = .int i := by
  cases h with
  | dq h => cases h; rfl
theorem dr_str {i : Str} (h : DR K G x (.str i)) : x = .str i := by
  cases h with
  | dq h => cases h; rfl
theorem dr_bl {i : Bool} (h : DR K G x (.bool i)) : x = .bl i := by
  cases h with
  | dq h => cases h; rfl
theorem dr_non (h : DR K G x .none) : x = .non := by
  cases h with
  | dq h => cases h; rfl
theorem dr_list {ds : List PyData} (h : DR K G x (.list ds)) : ∃ a vs, x = .ref a ∧ G a = some (.lst vs) ∧ DqAll K G vs ds := by
  cases h with
  | dq h =>
    cases h with
    | lst h q => exact ⟨_, _, rfl, h, q⟩
theorem dr_tup {ds : List PyData} (h : DR K G x (.tuple ds)) : ∃ a vs, x = .ref a ∧ G a = some (.tup vs) ∧ DqAll K G vs ds := by
  cases h with
  | dq h =>
    cases h with
    | tup h q => exact ⟨_, _, rfl, h, q⟩
theorem dr_scr {l : List PyData} (h : DR K G x (scrD l)) : ∃ (a : Addr) (ns : List Int), l = ns.map .int ∧ x = .ref a ∧ SqL K G a (ns.map V.int) := by
  cases h with
  | dq h => cases h
  | scr h => exact ⟨_, _, rfl, rfl, h⟩
  | dc h q =>
    rcases q with ⟨_, _, e, _⟩ | ⟨_, _, e, _⟩
    · injection e with e; injection e with e; cases e
    · injection e with e; injection e with e; cases e
theorem dr_kst {l : List PyData} (h : DR K G x (kstD l)) : ∃ a xs, x = .ref a ∧ SqT K G a xs ∧ DqAll K G xs l ∧ ∃ o, K.lookup a = some o ∧ o.cls = .type "tuple" ∧ o.dict = none := by
  cases h with
  | dq h => cases h
  | kst h k q => exact ⟨_, _, rfl, h, q, k⟩
  | dc h q =>
    rcases q with ⟨_, _, e, _⟩ | ⟨_, _, e, _⟩
    · injection e with e; injection e with e; cases e
    · injection e with e; injection e with e; cases e
theorem rd_of {a : Addr} {o u : HO} (h : G a = some o) (q : o = u ∨ ∃ od, o = .frz od u) : Rd G a u := by
  rcases q with rfl | ⟨od, rfl⟩
  · exact .inl h
  · exact .inr ⟨od, h⟩
theorem Rd.same {G H : Hp} (s : Same G H) {a : Addr} {u : HO} (h : Rd G a u) : Rd H a u := by
  rcases h with h | ⟨o, h⟩
  · exact .inl (s _ _ h)
  · exact .inr ⟨o, s _ _ h⟩
theorem dr_dk {l : List (PyData × PyData)} (h : DR K G x (dkD l)) : ∃ a ks, x = .ref a ∧ Rd G a (.dK ks) ∧ KD K G ks l := by
  cases h with
  | dq h => cases h
  | dc h q =>
    rcases q with ⟨ks, r, e, o, q⟩ | ⟨_, _, e, _⟩
    · injection e with _ e; subst e; exact ⟨_, _, rfl, rd_of h o, q⟩
    · injection e with e; injection e with e; injection e with e; cases e
theorem dr_dt {l : List (PyData × PyData)} (h : DR K G x (dtD l)) : ∃ a ks, x = .ref a ∧ Rd G a (.dT ks) ∧ TD K G ks l := by
  cases h with
  | dq h => cases h
  | dc h q =>
    rcases q with ⟨_, _, e, _⟩ | ⟨ks, r, e, o, q⟩
    · injection e with e; injection e with e; injection e with e; cases e
    · injection e with _ e; subst e; exact ⟨_, _, rfl, rd_of h o, q⟩
theorem drI (i : Int) : DR K G (.int i) (.int i) := .dq (.int i)
theorem drB (i : Bool) : DR K G (.bl i) (.bool i) := .dq (.bl i)
theorem drS (i : Str) : DR K G (.str i) (.str i) := .dq (.str i)
theorem drN : DR K G .non .none := .dq .non
theorem dqAll_ints : ∀ {ns : List Int} {vs : List V}, DqAll K G vs (ns.map .int) → vs = ns.map V.int
  | [], _, h => by cases h; rfl
  | n :: ns, _, h => by
    cases h with
    | cons h1 h2 => cases h1; rw [dqAll_ints h2]; rfl
theorem dqAll_ofInts : ∀ (ns : List Int), DqAll K G (ns.map V.int) (ns.map .int)
  | [] => .nil
  | n :: ns => .cons (.int n) (dqAll_ofInts ns)
theorem dqAll_strs : ∀ {ns : List Str} {vs : List V}, DqAll K G vs (ns.map .str) → vs = ns.map V.str
  | [], _, h => by cases h; rfl
  | n :: ns, _, h => by
    cases h with
    | cons h1 h2 => cases h1; rw [dqAll_strs h2]; rfl
theorem dqAll_ofStrs : ∀ (ns : List Str), DqAll K G (ns.map V.str) (ns.map .str)
  | [] => .nil
  | n :: ns => .cons (.str n) (dqAll_ofStrs ns)
theorem dqAll_bls : ∀ {ns : List Bool} {vs : List V}, DqAll K G vs (ns.map .bool) → vs = ns.map V.bl
  | [], _, h => by cases h; rfl
  | n :: ns, _, h => by
    cases h with
    | cons h1 h2 => cases h1; rw [dqAll_bls h2]; rfl
end
end Bv
set_option Elab.async false
set_option linter.all false
set_option maxRecDepth 100000
set_option maxHeartbeats 1000000
namespace Bv
open PySem PySem.Spec L2
/-- what an expression comes to -/
inductive Res (α : Type) where
  | ok (a : α) | exc (c : Str) | stuck
def Res.bind {α β : Type} (r : Res α) (k : α → Res β) : Res β := match r with
  | .ok a => k a
  | .exc c => .exc c
  | .stuck => .stuck
instance : Monad Res where
  pure := .ok
  bind := Res.bind
@[simp] theorem Res.ok_bind {α β : Type} (a : α) (k : α → Res β) : (Res.ok a).bind k = k a := rfl
@[simp] theorem Res.exc_bind {α β : Type} (c : Str) (k : α → Res β) : (Res.exc c).bind k = .exc c := rfl
@[simp] theorem Res.stuck_bind {α β : Type} (k : α → Res β) : (Res.stuck : Res α).bind k = .stuck := rfl
abbrev Rho := List (Option PyData)
/-- what stands for a container that one slot alone holds -/
def Own (K : PySem.W.Frag) (G H : Hp) (a : Addr) : PyData → Prop
  | .list ds => ∃ vs, H a = some (.lst vs) ∧ DqAll K G vs ds
  | .dict kvs => ∃ o, H a = some o ∧ DcAt K G kvs o
  | _ => False
theorem Own.some {K : PySem.W.Frag} {G H : Hp} {a : Addr} {d : PyData} (h : Own K G H a d) : ∃ o, H a = some o := by
  cases d with
  | list ds => obtain ⟨vs, e, _⟩ := h; exact ⟨_, e⟩
  | dict kvs => obtain ⟨o, e, _⟩ := h; exact ⟨_, e⟩
  | _ => exact False.elim h
theorem Own.nt {K : PySem.W.Frag} {G H : Hp} {a : Addr} {d : PyData} (h : Own K G H a d) : ∃ o, H a = Option.some o ∧ Bv.nt o = true := by
  cases d with
  | list ds => obtain ⟨vs, e, _⟩ := h; exact ⟨_, e, rfl⟩
  | dict kvs =>
    obtain ⟨o, e, q⟩ := h
    refine ⟨o, e, ?_⟩
    rcases q with ⟨_, _, _, rfl, _⟩ | ⟨_, _, _, rfl, _⟩ <;> rfl
  | _ => exact False.elim h
theorem Own.mono {K : PySem.W.Frag} {G H G' H' : Hp} {a : Addr} {d : PyData} (h : Own K G H a d) (s : Same G G') (e' : H' a = H a) : Own K G' H' a d := by
  cases d with
  | list ds => obtain ⟨vs, e, q⟩ := h; exact ⟨vs, e'.trans e, dqAll_same s _ _ q⟩
  | dict kvs => obtain ⟨o, e, q⟩ := h; exact ⟨o, e'.trans e, dcAt_same s q⟩
  | _ => exact False.elim h
/-- the slots hold the environment; own: the slots that hold a container alone -/
structure Rl (K : PySem.W.Frag) (own : List Nat) (ρ : Rho) (σ : St) (G H : Hp) (α : Nat → Addr) : Prop where
  sub : Same G H
  len : ρ.length = σ.length
  sh : ∀ (i : Nat) (d : PyData), ρ[i]? = some (some d) → i ∉ own → ∃ v, σ[i]? = some (some v) ∧ DR K G v d
  ow : ∀ (i : Nat) (d : PyData), ρ[i]? = some (some d) → i ∈ own → σ[i]? = some (some (.ref (α i))) ∧ G (α i) = none ∧ Own K G H (α i) d
  inj : ∀ (i j : Nat) (d e : PyData), i ∈ own → j ∈ own → ρ[i]? = some (some d) → ρ[j]? = some (some e) → α i = α j → i = j
section
variable {K : PySem.W.Frag} {own own' : List Nat} {ρ : Rho} {σ : St} {G H G' H' G0 H0 : Hp} {α : Nat → Addr}
theorem Rl.mono (r : Rl K own ρ σ G H α) (x : Ex2 G H G' H') : Rl K own ρ σ G' H' α where
  sub := x.s
  len := r.len
  sh := fun i d e hi => by
    obtain ⟨v, e1, q⟩ := r.sh i d e hi
    exact ⟨v, e1, dr_same x.g q⟩
  ow := fun i d e hi => by
    obtain ⟨e1, g, o⟩ := r.ow i d e hi
    obtain ⟨u, hu, hn⟩ := o.nt
    exact ⟨e1, x.f _ u hu hn g, o.mono x.g ((x.h _ _ hu).trans hu.symm)⟩
  inj := r.inj
/-- .. within a def's run that began at G0, H0 -/
structure RS (K : PySem.W.Frag) (own : List Nat) (ρ : Rho) (σ : St) (G H : Hp) (α : Nat → Addr) (G0 H0 : Hp) : Prop where
  r : Rl K own ρ σ G H α
  x : Ex2 G0 H0 G H
  n : ∀ (i : Nat) (d : PyData), ρ[i]? = some (some d) → i ∈ own → H0 (α i) = none
theorem RS.mono (r : RS K own ρ σ G H α G0 H0) (x : Ex2 G H G' H') : RS K own ρ σ G' H' α G0 H0 := ⟨r.r.mono x, r.x.trans x, r.n⟩
/-- a loop's own beginning -/
theorem RS.again (r : RS K own ρ σ G H α G0 H0) : ∃ F, Ex2 G0 H0 G F ∧ Same F H ∧ RS K own ρ σ G H α G F := by
  classical
  refine ⟨fun a => if (∃ i d, i ∈ own ∧ ρ[i]? = some (some d) ∧ α i = a) then none else H a, ⟨r.x.g, fun a o e => ?_, fun a o e => ?_, r.x.f⟩, fun a o e => ?_, r.r, ⟨Same.refl _, fun a o e => ?_, r.r.sub, fun _ _ _ _ h => h⟩, fun i d e hi => if_pos ⟨i, d, hi, e, rfl⟩⟩
  · rw [if_neg]
    · exact r.x.h a o e
    · rintro ⟨i, d, hi, e1, rfl⟩
      rw [r.n i d e1 hi] at e
      cases e
  · rw [if_neg]
    · exact r.r.sub a o e
    · rintro ⟨i, d, hi, e1, rfl⟩
      rw [(r.r.ow i d e1 hi).2.1] at e
      cases e
  · (try dsimp only at e)
    split at e
    · cases e
    · exact e
  · (try dsimp only at e)
    split at e
    · cases e
    · exact e
theorem RS.outer {F : Hp} (x : Ex2 G0 H0 G' F) (r : RS K own ρ σ G H α G' F) : RS K own ρ σ G H α G0 H0 :=
  ⟨r.r, x.trans r.x, fun i d e hi => x.h.free (r.n i d e hi)⟩
/-- slots that hold a container alone are read by value from here on -/
theorem RS.drop (r : RS K own ρ σ G H α G0 H0) (hs : ∀ i, i ∈ own' → i ∈ own) : ∃ G', Same G G' ∧ RS K own' ρ σ G' H α G0 H0 := by
  classical
  obtain ⟨P, hP⟩ : ∃ P : Addr → Prop, P = fun a => ∃ i d, i ∈ own ∧ i ∉ own' ∧ ρ[i]? = some (some d) ∧ α i = a := ⟨_, rfl⟩
  obtain ⟨G', hG⟩ : ∃ G' : Hp, G' = fun a => if P a then H a else G a := ⟨_, rfl⟩
  have hp : ∀ a, P a → G' a = H a := fun a q => by rw [hG]; exact if_pos q
  have hn : ∀ a, ¬ P a → G' a = G a := fun a q => by rw [hG]; exact if_neg q
  have same : Same G G' := fun a o e => by
    rw [hn a]
    · exact e
    · rw [hP]
      rintro ⟨i, d, hi, _, e1, rfl⟩
      rw [(r.r.ow i d e1 hi).2.1] at e
      cases e
  have sub : Same G' H := fun a o e => by
    by_cases q : P a
    · rw [hp a q] at e; exact e
    · rw [hn a q] at e; exact r.r.sub a o e
  refine ⟨G', same, ⟨sub, r.r.len, fun i d e hi => ?_, fun i d e hi => ?_, fun i j d e hi hj => r.r.inj i j d e (hs i hi) (hs j hj)⟩, ⟨r.x.g.trans same, r.x.h, sub, fun a u h1 hn0 h2 => ?_⟩, fun i d e hi => r.n i d e (hs i hi)⟩
  · by_cases ho : i ∈ own
    · obtain ⟨e1, g, o⟩ := r.r.ow i d e ho
      have q : P (α i) := by rw [hP]; exact ⟨i, d, ho, hi, e, rfl⟩
      refine ⟨_, e1, ?_⟩
      cases d with
      | list ds =>
        obtain ⟨vs, e2, q2⟩ := o
        exact .dq (.lst ((hp _ q).trans e2) (dqAll_same same _ _ q2))
      | dict kvs =>
        obtain ⟨u, e2, q2⟩ := o
        exact .dc ((hp _ q).trans e2) (dcAt_same same q2).rd
      | _ => exact False.elim o
    · obtain ⟨v, e1, q⟩ := r.r.sh i d e ho
      exact ⟨v, e1, dr_same same q⟩
  · obtain ⟨e1, g, o⟩ := r.r.ow i d e (hs i hi)
    refine ⟨e1, ?_, o.mono same rfl⟩
    rw [hn]
    · exact g
    · rw [hP]
      rintro ⟨j, d', hj, hj', e', ha⟩
      exact hj' (r.r.inj j i d' d hj (hs i hi) e' e ha ▸ hi)
  · rw [hn]
    · exact r.x.f a u h1 hn0 h2
    · rw [hP]
      rintro ⟨i, d, hi, _, e1, rfl⟩
      rw [r.n i d e1 hi] at h1
      cases h1
end
structure Pm where
  W : WX
  ea : Str → Addr
/-- the raised classes' wish -/
def Pm.Ex (P : Pm) (σ : St) (c : Str) (H : Hp) : Prop := P.W (.ref (P.ea c)) none σ H
def Pst {α β : Type} (P : Pm) (R : Hp → Hp → β → α → Prop) (σ : St) (G H : Hp) (r : Res α) (Q : β → Hp → Prop) : Prop := match r with
  | .ok a => ∀ b G' H', Ex2 G H G' H' → R G' H' b a → Q b H'
  | .exc c => ∀ G' H', Ex2 G H G' H' → P.Ex σ c H'
  | .stuck => False
section
variable {α β γ δ : Type} {P : Pm} {R : Hp → Hp → β → α → Prop} {R' : Hp → Hp → δ → γ → Prop} {σ : St} {G H G' H' : Hp} {Q : β → Hp → Prop}
theorem Pst.up {r : Res α} (h : Pst P R σ G H r Q) (x : Ex2 G H G' H') : Pst P R σ G' H' r Q := by
  cases r with
  | ok a => exact fun b G2 H2 y q => h b G2 H2 (x.trans y) q
  | exc c => exact fun G2 H2 y => h G2 H2 (x.trans y)
  | stuck => exact h
theorem Pst.bind {r : Res γ} {k : γ → Res α} {Q2 : δ → Hp → Prop} (h : Pst P R σ G H (r.bind k) Q)
    (hk : ∀ c d G' H', Ex2 G H G' H' → R' G' H' d c → Pst P R σ G' H' (k c) Q → Q2 d H') : Pst P R' σ G H r Q2 := by
  cases r with
  | ok c => exact fun d G2 H2 y q => hk c d G2 H2 y q (Pst.up h y)
  | exc c => exact h
  | stuck => exact h
theorem Pst.ok {a : α} {b : β} (h : Pst P R σ G H (.ok a) Q) (s : Same G H) (r : R G H b a) : Q b H := h b G H (Ex2.refl s) r
theorem Pst.mono {r : Res α} {Q' : β → Hp → Prop} (h : Pst P R σ G H r Q) (hq : ∀ b H, Q b H → Q' b H) : Pst P R σ G H r Q' := by
  cases r with
  | ok a => exact fun b G2 H2 y q => hq b H2 (h b G2 H2 y q)
  | exc c => exact h
  | stuck => exact h
end
/-- a reading by value -/
def tG {α β : Type} (K : PySem.W.Frag) (P : Pm) (own : List Nat) (R : Hp → Hp → β → α → Prop) (f : Rho → Res α) : St → Hp → (β → Hp → Prop) → Prop := fun σ H Q =>
  ∃ ρ G a, Rl K own ρ σ G H a ∧ Pst P R σ G H (f ρ) Q
/-- readings of values: by G alone; of a container that one slot alone holds, too -/
abbrev DRr (K : PySem.W.Frag) : Hp → Hp → V → PyData → Prop := fun G _ v d => DR K G v d
inductive DX (K : PySem.W.Frag) (G H : Hp) : V → PyData → Prop
  | dr {v : V} {d : PyData} (h : DR K G v d) : DX K G H v d
  | ls {a : Addr} {vs : List V} {ds : List PyData} (h : H a = some (.lst vs)) (q : DqAll K G vs ds) : DX K G H (.ref a) (.list ds)
  | dc {a : Addr} {o : HO} {kvs : List (PyData × PyData)} (h : H a = some o) (q : DcRd K G kvs o) : DX K G H (.ref a) (.dict kvs)
abbrev tX (K : PySem.W.Frag) (P : Pm) (own : List Nat) (f : Rho → Res PyData) : TE := tG K P own (DX K) f
inductive DXs (K : PySem.W.Frag) (G H : Hp) : List V → List PyData → Prop
  | nil : DXs K G H [] []
  | cons {v : V} {vs : List V} {d : PyData} {ds : List PyData} : DX K G H v d → DXs K G H vs ds → DXs K G H (v :: vs) (d :: ds)
abbrev tXs (K : PySem.W.Frag) (P : Pm) (own : List Nat) (f : Rho → Res (List PyData)) : TA := tG K P own (DXs K) f
abbrev tD (K : PySem.W.Frag) (P : Pm) (own : List Nat) (f : Rho → Res PyData) : TE := tG K P own (DRr K) f
inductive DRs (K : PySem.W.Frag) (G : Hp) : List V → List PyData → Prop
  | nil : DRs K G [] []
  | cons {v : V} {vs : List V} {d : PyData} {ds : List PyData} : DR K G v d → DRs K G vs ds → DRs K G (v :: vs) (d :: ds)
abbrev tDs (K : PySem.W.Frag) (P : Pm) (own : List Nat) (f : Rho → Res (List PyData)) : TA := tG K P own (fun G _ vs ds => DRs K G vs ds) f
abbrev tBl (K : PySem.W.Frag) (P : Pm) (own : List Nat) (f : Rho → Res Bool) : TT := tG K P own (fun _ _ b a => b = a) f
section
variable {K : PySem.W.Frag} {G H G' H' : Hp} {x : V}
theorem dx_mono (e : Ex2 G H G' H') {v : V} {d : PyData} (h : DX K G H v d) : DX K G' H' v d := by
  cases h with
  | dr h => exact .dr (dr_same e.g h)
  | ls h q => exact .ls (e.h _ _ h) (dqAll_same e.g _ _ q)
  | dc h q => exact .dc (e.h _ _ h) (dcRd_same e.g q)
theorem dxs_mono (e : Ex2 G H G' H') : ∀ {vs : List V} {ds : List PyData}, DXs K G H vs ds → DXs K G' H' vs ds
  | _, _, .nil => .nil
  | _, _, .cons h t => .cons (dx_mono e h) (dxs_mono e t)
theorem DX.flat {d : PyData} (h : DX K G H x d) (h1 : ∀ l, d ≠ .list l) (h2 : ∀ l, d ≠ .dict l) : DR K G x d := by
  cases h with
  | dr h => exact h
  | ls _ _ => exact absurd rfl (h1 _)
  | dc _ _ => exact absurd rfl (h2 _)
theorem dx_int {i : Int} (h : DX K G H x (.int i)) : x = .int i := dr_int (h.flat (fun _ e => nomatch e) fun _ e => nomatch e)
theorem dx_str {i : Str} (h : DX K G H x (.str i)) : x = .str i := dr_str (h.flat (fun _ e => nomatch e) fun _ e => nomatch e)
theorem dx_bl {i : Bool} (h : DX K G H x (.bool i)) : x = .bl i := dr_bl (h.flat (fun _ e => nomatch e) fun _ e => nomatch e)
theorem dx_non (h : DX K G H x .none) : x = .non := dr_non (h.flat (fun _ e => nomatch e) fun _ e => nomatch e)
theorem dx_tup {ds : List PyData} (h : DX K G H x (.tuple ds)) : ∃ a vs, x = .ref a ∧ G a = some (.tup vs) ∧ DqAll K G vs ds := dr_tup (h.flat (fun _ e => nomatch e) fun _ e => nomatch e)
theorem dx_list (s : Same G H) {ds : List PyData} (h : DX K G H x (.list ds)) : ∃ a vs, x = .ref a ∧ H a = some (.lst vs) ∧ DqAll K G vs ds := by
  cases h with
  | dr h =>
    obtain ⟨a, vs, e, g, q⟩ := dr_list h
    exact ⟨a, vs, e, s _ _ g, q⟩
  | ls h q => exact ⟨_, _, rfl, h, q⟩
theorem dx_scr (s : Same G H) {l : List PyData} (h : DX K G H x (scrD l)) : ∃ (a : Addr) (ns : List Int), l = ns.map .int ∧ x = .ref a ∧ SqL K H a (ns.map V.int) := by
  cases h with
  | dr h =>
    obtain ⟨a, ns, e1, e2, q⟩ := dr_scr h
    exact ⟨a, ns, e1, e2, s.seq q⟩
  | dc h q =>
    rcases q with ⟨_, _, e, _⟩ | ⟨_, _, e, _⟩
    · injection e with e; injection e with e; cases e
    · injection e with e; injection e with e; cases e
theorem dx_kst {l : List PyData} (h : DX K G H x (kstD l)) : ∃ a xs, x = .ref a ∧ SqT K G a xs ∧ DqAll K G xs l ∧ ∃ o, K.lookup a = some o ∧ o.cls = .type "tuple" ∧ o.dict = none := by
  cases h with
  | dr h => exact dr_kst h
  | dc h q =>
    rcases q with ⟨_, _, e, _⟩ | ⟨_, _, e, _⟩
    · injection e with e; injection e with e; cases e
    · injection e with e; injection e with e; cases e
theorem dx_dk (s : Same G H) {l : List (PyData × PyData)} (h : DX K G H x (dkD l)) : ∃ a ks, x = .ref a ∧ Rd H a (.dK ks) ∧ KD K G ks l := by
  cases h with
  | dr h =>
    obtain ⟨a, ks, e, g, q⟩ := dr_dk h
    exact ⟨a, ks, e, Bv.Rd.same s g, q⟩
  | dc h q =>
    rcases q with ⟨ks, r, e, o, q⟩ | ⟨_, _, e, _⟩
    · injection e with _ e; subst e; exact ⟨_, _, rfl, rd_of h o, q⟩
    · injection e with e; injection e with e; injection e with e; cases e
theorem dx_dt (s : Same G H) {l : List (PyData × PyData)} (h : DX K G H x (dtD l)) : ∃ a ks, x = .ref a ∧ Rd H a (.dT ks) ∧ TD K G ks l := by
  cases h with
  | dr h =>
    obtain ⟨a, ks, e, g, q⟩ := dr_dt h
    exact ⟨a, ks, e, Bv.Rd.same s g, q⟩
  | dc h q =>
    rcases q with ⟨_, _, e, _⟩ | ⟨ks, r, e, o, q⟩
    · injection e with e; injection e with e; injection e with e; cases e
    · injection e with _ e; subst e; exact ⟨_, _, rfl, rd_of h o, q⟩
end
theorem drs_same {K : PySem.W.Frag} {G G' : Hp} (e : Same G G') : ∀ {vs : List V} {ds : List PyData}, DRs K G vs ds → DRs K G' vs ds
  | _, _, .nil => .nil
  | _, _, .cons h t => .cons (dr_same e h) (drs_same e t)
section
variable {X : Cx} {e : Expr}
theorem PE.weak {t t' : TE} (h : PE X e t) (w : ∀ σ H Q, t' σ H Q → t σ H Q) : PE X e t' := ⟨fun pins s σ H Q I q => h.run pins s σ H Q I (w σ H Q q)⟩
theorem PT.weak {t t' : TT} (h : PT X e t) (w : ∀ σ H Q, t' σ H Q → t σ H Q) : PT X e t' := ⟨fun pins s σ H Q I q => h.run pins s σ H Q I (w σ H Q q)⟩
theorem PW.weak {t t' : TT} (h : PW X e t) (w : ∀ σ H Q, t' σ H Q → t σ H Q) : PW X e t' := ⟨fun wh pins s σ H Q I q => h.run wh pins s σ H Q I (w σ H Q q)⟩
theorem PA.weak {es : List Expr} {t t' : TA} (h : PA X es t) (w : ∀ σ H Q, t' σ H Q → t σ H Q) : PA X es t' := ⟨fun pos pins s σ H Q I q => h.run pos pins s σ H Q I (w σ H Q q)⟩
theorem PS.weak {st : Stmt} {t t' : TS} (h : PS X st t) (w : ∀ E σ H, t' E σ H → t E σ H) : PS X st t' := ⟨fun pins s σ H Q I q => h.run pins s σ H Q I (w Q σ H q)⟩
theorem PSs.weak {st : List Stmt} {t t' : TS} (h : PSs X st t) (w : ∀ E σ H, t' E σ H → t E σ H) : PSs X st t' := ⟨fun pins s σ H Q I q => h.run pins s σ H Q I (w Q σ H q)⟩
end
end Bv
set_option Elab.async false
set_option linter.all false
set_option maxRecDepth 100000
set_option maxHeartbeats 1000000
namespace Bv
open PySem PySem.Spec L2
def addD : PyData → PyData → Res PyData
  | .int a, .int b => .ok (.int (a + b))
  | .str a, .str b => if a.length + b.length ≤ sizeLine then .ok (.str (a ++ b)) else .stuck
  | .list a, .list b => if a.length + b.length ≤ sizeLine then .ok (.list (a ++ b)) else .stuck
  | .tuple a, .tuple b => if a.length + b.length ≤ sizeLine then .ok (.tuple (a ++ b)) else .stuck
  | _, _ => .stuck
def subD : PyData → PyData → Res PyData
  | .int a, .int b => .ok (.int (a - b))
  | _, _ => .stuck
def mulD : PyData → PyData → Res PyData
  | .int a, .int b => if (-18446744073709551616 < a ∧ a < 18446744073709551616) ∨ (-18446744073709551616 < b ∧ b < 18446744073709551616) then .ok (.int (a * b)) else .stuck
  | .list a, .int k => if -1000 ≤ k ∧ k ≤ 1000 ∧ a.length ≤ 1000 then .ok (.list (List.replicate k.toNat a).flatten) else .stuck
  | .tuple a, .int k => if a ≠ [] ∧ 2 ≤ k ∧ k ≤ 1000 ∧ a.length ≤ 1000 then .ok (.tuple (List.replicate k.toNat a).flatten) else .stuck
  | _, _ => .stuck
def fdivD : PyData → PyData → Res PyData
  | .int a, .int b => if 0 < b ∧ b < 1180591620717411303424 then .ok (.int (a / b)) else .stuck
  | _, _ => .stuck
def modD : PyData → PyData → Res PyData
  | .int a, .int b => if 0 < b then .ok (.int (a % b)) else .stuck
  | _, _ => .stuck
def powD : PyData → PyData → Res PyData
  | .int a, .int b => if 0 ≤ b ∧ b ≤ 1000 ∧ a.natAbs < 18446744073709551616 then .ok (.int (a ^ b.toNat)) else .stuck
  | _, _ => .stuck
def binD : Operator → PyData → PyData → Res PyData
  | .Add => addD
  | .Sub => subD
  | .Mult => mulD
  | .FloorDiv => fdivD
  | .Mod => modD
  | .Pow => powD
  | _ => fun _ _ => .stuck
def negD : PyData → Res PyData
  | .int a => .ok (.int (-a))
  | _ => .stuck
def eqD (neg : Bool) : PyData → PyData → Res PyData
  | .dict [(.none, .list l)], e => if SeqAt.shaped (.list l) && SeqAt.shaped e then .ok (.bool (PyData.eqv (.list l) e != neg)) else .stuck
  | d, e => if SeqAt.shaped d && SeqAt.shaped e then .ok (.bool (PyData.eqv d e != neg)) else .stuck
def intsOf : List PyData → Option (List Int)
  | [] => some []
  | .int i :: r => (intsOf r).map (i :: ·)
  | _ => none
theorem intsOf_eq : ∀ {ds : List PyData} {ns : List Int}, intsOf ds = some ns → ds = ns.map .int
  | [], ns, h => by cases h; rfl
  | .int i :: r, ns, h => by
    simp only [intsOf, Option.map_eq_some_iff] at h
    obtain ⟨ms, h1, rfl⟩ := h
    rw [intsOf_eq h1]; rfl
  | .none :: _, _, h => by simp [intsOf] at h
  | .bool _ :: _, _, h => by simp [intsOf] at h
  | .str _ :: _, _, h => by simp [intsOf] at h
  | .list _ :: _, _, h => by simp [intsOf] at h
  | .tuple _ :: _, _, h => by simp [intsOf] at h
  | .dict _ :: _, _, h => by simp [intsOf] at h
@[simp] theorem intsOf_map : ∀ ns : List Int, intsOf (ns.map .int) = some ns
  | [] => rfl
  | n :: ns => by rw [List.map_cons]; simp only [intsOf, intsOf_map ns, Option.map_some]
def ltD : PyData → PyData → Res PyData
  | .int a, .int b => .ok (.bool (decide (a < b)))
  | .tuple a, .tuple b => match intsOf a, intsOf b with
    | some ns, some ms => .ok (.bool (HT.lexLt ns ms))
    | _, _ => .stuck
  | _, _ => .stuck
def leD : PyData → PyData → Res PyData
  | .int a, .int b => .ok (.bool (decide (a ≤ b)))
  | _, _ => .stuck
def gtD : PyData → PyData → Res PyData
  | .int a, .int b => .ok (.bool (decide (b < a)))
  | _, _ => .stuck
def geD : PyData → PyData → Res PyData
  | .int a, .int b => .ok (.bool (decide (b ≤ a)))
  | _, _ => .stuck
def isNone : PyData → Bool
  | .none => true
  | _ => false
def isD (neg : Bool) : PyData → PyData → Res PyData
  | d, .none => .ok (.bool (isNone d != neg))
  | .bool a, .bool b => .ok (.bool ((a == b) != neg))
  | _, _ => .stuck
section
variable {K : PySem.W.Frag} {P : Pm} {σ : St} {G H : Hp} {x y : V} {Q : VK}
theorem new_lst {vs : List V} {ds : List PyData} (h : Pst P (DRr K) σ G H (.ok (.list ds)) Q) (s : Same G H) (q : DqAll K G vs ds) : ∀ p, H p = none → Q (.ref p) (upd H p (.lst vs)) := fun p hp =>
  h (.ref p) (upd G p (.lst vs)) _ (Ex2.new _ s hp) (.dq (.lst upd_same (dqAll_same (same_upd (s.free hp)) _ _ q)))
theorem new_tup {vs : List V} {ds : List PyData} (h : Pst P (DRr K) σ G H (.ok (.tuple ds)) Q) (s : Same G H) (q : DqAll K G vs ds) : ∀ p, H p = none → Q (.ref p) (upd H p (.tup vs)) := fun p hp =>
  h (.ref p) (upd G p (.tup vs)) _ (Ex2.new _ s hp) (.dq (.tup upd_same (dqAll_same (same_upd (s.free hp)) _ _ q)))
theorem dqAll_rep {vs : List V} {ds : List PyData} (q : DqAll K G vs ds) : ∀ n : Nat, DqAll K G (List.replicate n vs).flatten (List.replicate n ds).flatten
  | 0 => .nil
  | n + 1 => by
    rw [List.replicate_succ, List.replicate_succ, List.flatten_cons, List.flatten_cons]
    exact dqAll_append q (dqAll_rep q n)
theorem dqAll_nil {vs : List V} (q : DqAll K G vs []) : vs = [] := by cases q; rfl
theorem dqAll_nil' {ds : List PyData} (q : DqAll K G [] ds) : ds = [] := by cases q; rfl
/-- an operator on values, for data -/
def OpD (X : Cx) (f : Value → Value → Sem Value) (g : PyData → PyData → Res PyData) : Prop :=
  ∃ r : R2, OpR X f r ∧ ∀ (P : Pm) (σ : St) (G H : Hp) (x y : V) (d e : PyData) (Q : VK), Same G H → DX X.K G H x d → DX X.K G H y e → Pst P (DRr X.K) σ G H (g d e) Q → r x y H Q
def rAddA (K : PySem.W.Frag) : R2 := fun x y H Q => (rI0 (fun i j => .int (i + j)) x y H Q ∨ (∃ i j, x = .str i ∧ y = .str j ∧ i.length + j.length ≤ sizeLine ∧ Q (.str (i ++ j)) H)) ∨ (rCat x y H Q ∨ rCatA K x y H Q)
theorem add_ok {X : Cx} : OpD X (binaryOp .Add) addD := by
  refine ⟨rAddA X.K, (op_add.or op_add_str).or (op_cat.or op_catA), fun P σ G H x y d e Q s hx hy h => ?_⟩
  unfold addD at h
  split at h
  · exact .inl (.inl ⟨_, _, dx_int hx, dx_int hy, h.ok s (drI _)⟩)
  · split at h
    · rename_i c; exact .inl (.inr ⟨_, _, dx_str hx, dx_str hy, c, h.ok s (drS _)⟩)
    · exact h.elim
  · split at h
    · rename_i c
      obtain ⟨a, vs, rfl, ga, qa⟩ := dx_list s hx
      obtain ⟨b, ws, rfl, gb, qb⟩ := dx_list s hy
      exact .inr (.inl ⟨a, b, vs, ws, rfl, rfl, ga, gb, by rw [dqAll_len qa, dqAll_len qb]; exact c, new_lst h s (dqAll_append qa qb)⟩)
    · exact h.elim
  · split at h
    · rename_i c
      obtain ⟨a, vs, rfl, ga, qa⟩ := dx_tup hx
      obtain ⟨b, ws, rfl, gb, qb⟩ := dx_tup hy
      refine .inr (.inr ⟨a, b, vs, ws, rfl, rfl, SqT.of (s _ _ ga), SqT.of (s _ _ gb), by rw [dqAll_len qa, dqAll_len qb]; exact c, fun e => ?_, fun _ e => ?_, fun _ _ => new_tup h s (dqAll_append qa qb)⟩)
      · subst e
        have e' := dqAll_nil' qa
        subst e'
        exact h.ok s (.dq (.tup gb qb))
      · subst e
        have e' := dqAll_nil' qb
        subst e'
        rw [List.append_nil] at h
        exact h.ok s (.dq (.tup ga qa))
    · exact h.elim
  · exact h.elim
theorem sub_ok {X : Cx} : OpD X (binaryOp .Sub) subD := by
  refine ⟨_, op_sub, fun P σ G H x y d e Q s hx hy h => ?_⟩
  unfold subD at h
  split at h
  · exact ⟨_, _, dx_int hx, dx_int hy, h.ok s (drI _)⟩
  · exact h.elim
theorem mul_ok {X : Cx} : OpD X (binaryOp .Mult) mulD := by
  refine ⟨_, op_mul.or (op_rep.or op_repT), fun P σ G H x y d e Q s hx hy h => ?_⟩
  unfold mulD at h
  split at h
  · split at h
    · rename_i c
      exact .inl ⟨_, _, dx_int hx, dx_int hy, c, h.ok s (drI _)⟩
    · exact h.elim
  · split at h
    · rename_i c
      obtain ⟨a, vs, rfl, ga, qa⟩ := dx_list s hx
      refine .inr (.inl ⟨a, _, vs, rfl, dx_int hy, ga, by omega, by omega, ?_, new_lst h s (dqAll_rep qa _)⟩)
      rw [dqAll_len qa, sizeLine_eq]
      exact Nat.le_trans (Nat.mul_le_mul c.2.2 (show _ ≤ 1000 by omega)) (by decide)
    · exact h.elim
  · split at h
    · rename_i c
      obtain ⟨a, vs, rfl, ga, qa⟩ := dx_tup hx
      refine .inr (.inr ⟨a, _, vs, rfl, dx_int hy, SqT.of (s _ _ ga), fun z => ?_, c.2.1, c.2.2.1, by rw [dqAll_len qa]; exact c.2.2.2, new_tup h s (dqAll_rep qa _)⟩)
      subst z
      exact c.1 (dqAll_nil' qa)
    · exact h.elim
  · exact h.elim
theorem fdiv_ok {X : Cx} : OpD X (binaryOp .FloorDiv) fdivD := by
  refine ⟨_, op_fdivW, fun P σ G H x y d e Q s hx hy h => ?_⟩
  unfold fdivD at h
  split at h
  · split at h
    · rename_i c
      refine ⟨_, _, dx_int hx, dx_int hy, wide_div (b := 70) c.1 ?_ (by decide) (by decide), h.ok s (drI _)⟩
      have : (1180591620717411303424 : Int) = ((2 ^ 70 : Nat) : Int) := by decide
      omega
    · exact h.elim
  · exact h.elim
theorem mod_ok {X : Cx} : OpD X (binaryOp .Mod) modD := by
  refine ⟨_, op_mod, fun P σ G H x y d e Q s hx hy h => ?_⟩
  unfold modD at h
  split at h
  · split at h
    · rename_i c
      exact ⟨_, _, dx_int hx, dx_int hy, c, h.ok s (drI _)⟩
    · exact h.elim
  · exact h.elim
theorem pow_ok {X : Cx} : OpD X (binaryOp .Pow) powD := by
  refine ⟨_, op_pow, fun P σ G H x y d e Q s hx hy h => ?_⟩
  unfold powD at h
  split at h
  · split at h
    · rename_i c
      exact ⟨_, _, dx_int hx, dx_int hy, ⟨c.1, by omega, c.2.2⟩, h.ok s (drI _)⟩
    · exact h.elim
  · exact h.elim
theorem bin_ok {X : Cx} (op : Operator) : OpD X (binaryOp op) (binD op) := by
  cases op with
  | Add => exact add_ok
  | Sub => exact sub_ok
  | Mult => exact mul_ok
  | FloorDiv => exact fdiv_ok
  | Mod => exact mod_ok
  | Pow => exact pow_ok
  | _ => exact ⟨fun _ _ _ _ => False, fun _ _ _ _ _ _ _ _ _ _ _ _ h => h.elim, fun _ _ _ _ _ _ _ _ _ _ _ _ h => h⟩
theorem dr_dp {d : PyData} {v : V} (h : DR K G v d) (hs : SeqAt.shaped d = true) : Dp K G v d := by
  cases h with
  | dq h => exact dq_dp _ _ h
  | scr _ => simp [SeqAt.shaped, PyData.canLay0] at hs
  | kst _ _ _ => simp [SeqAt.shaped, PyData.canLay0] at hs
  | dc _ _ => simp [SeqAt.shaped, PyData.canLay0] at hs
  | exc => simp [SeqAt.shaped, PyData.canLay0] at hs
theorem dx_dp (s : Same G H) {d : PyData} {v : V} (h : DX K G H v d) (hs : SeqAt.shaped d = true) : Dp K H v d := by
  cases h with
  | dr h => exact dp_of s (dr_dp h hs)
  | ls h q => exact .lst (SqL.of h) (dpAll_of s (dqAll_dp _ _ q))
  | dc _ _ => simp [SeqAt.shaped, PyData.canLay0] at hs
theorem dpAll_ofInts : ∀ (ns : List Int), DpAll K G (ns.map V.int) (ns.map .int)
  | [] => .nil
  | n :: ns => .cons (.int n) (dpAll_ofInts ns)
theorem eq_ok {X : Cx} (hu : X.A.units + 64 < cLine) : OpD X (compareOp .Eq) (eqD false) := by
  refine ⟨_, op_eqD hu, fun P σ G H x y d e Q s hx hy h => ?_⟩
  unfold eqD at h
  split at h
  · split at h
    · rename_i c
      rw [Bool.and_eq_true] at c
      obtain ⟨a, ns, rfl, rfl, q⟩ := dx_scr s hx
      refine ⟨_, _, .lst (q) (dpAll_ofInts ns), dx_dp s hy c.2, c.1, c.2, ?_⟩
      have := h.ok s (drB _)
      simpa using this
    · exact h.elim
  · split at h
    · rename_i c
      rw [Bool.and_eq_true] at c
      refine ⟨_, _, dx_dp s hx c.1, dx_dp s hy c.2, c.1, c.2, ?_⟩
      have := h.ok s (drB _)
      simpa using this
    · exact h.elim
theorem ne_ok {X : Cx} (hu : X.A.units + 64 < cLine) : OpD X (compareOp .NotEq) (eqD true) := by
  refine ⟨_, op_neD hu, fun P σ G H x y d e Q s hx hy h => ?_⟩
  unfold eqD at h
  split at h
  · split at h
    · rename_i c
      rw [Bool.and_eq_true] at c
      obtain ⟨a, ns, rfl, rfl, q⟩ := dx_scr s hx
      refine ⟨_, _, .lst (q) (dpAll_ofInts ns), dx_dp s hy c.2, c.1, c.2, ?_⟩
      have := h.ok s (drB _)
      simpa using this
    · exact h.elim
  · split at h
    · rename_i c
      rw [Bool.and_eq_true] at c
      refine ⟨_, _, dx_dp s hx c.1, dx_dp s hy c.2, c.1, c.2, ?_⟩
      have := h.ok s (drB _)
      simpa using this
    · exact h.elim
theorem lt_ok {X : Cx} (hu : X.A.units < cLine) : OpD X (compareOp .Lt) ltD := by
  refine ⟨_, op_lt.or (op_ltT hu), fun P σ G H x y d e Q s hx hy h => ?_⟩
  unfold ltD at h
  split at h
  · exact .inl ⟨_, _, dx_int hx, dx_int hy, h.ok s (drB _)⟩
  · split at h
    · rename_i h1 h2
      rw [intsOf_eq h1] at hx
      rw [intsOf_eq h2] at hy
      obtain ⟨a, vs, rfl, ga, qa⟩ := dx_tup hx
      obtain ⟨b, ws, rfl, gb, qb⟩ := dx_tup hy
      rw [dqAll_ints qa] at ga
      rw [dqAll_ints qb] at gb
      exact .inr ⟨a, b, _, _, rfl, rfl, SqT.of (s _ _ ga), SqT.of (s _ _ gb), h.ok s (drB _)⟩
    · exact h.elim
  · exact h.elim
theorem le_ok {X : Cx} : OpD X (compareOp .LtE) leD := by
  refine ⟨_, op_le, fun P σ G H x y d e Q s hx hy h => ?_⟩
  unfold leD at h
  split at h
  · exact ⟨_, _, dx_int hx, dx_int hy, h.ok s (drB _)⟩
  · exact h.elim
theorem gt_ok {X : Cx} : OpD X (compareOp .Gt) gtD := by
  refine ⟨_, op_gt, fun P σ G H x y d e Q s hx hy h => ?_⟩
  unfold gtD at h
  split at h
  · exact ⟨_, _, dx_int hx, dx_int hy, h.ok s (drB _)⟩
  · exact h.elim
theorem ge_ok {X : Cx} : OpD X (compareOp .GtE) geD := by
  refine ⟨_, op_ge, fun P σ G H x y d e Q s hx hy h => ?_⟩
  unfold geD at h
  split at h
  · exact ⟨_, _, dx_int hx, dx_int hy, h.ok s (drB _)⟩
  · exact h.elim
theorem dr_isNone {d : PyData} (h : DR K G x d) : decide (x = .non) = isNone d := by
  cases h with
  | dq h => cases h <;> rfl
  | scr _ => rfl
  | kst _ _ _ => rfl
  | dc _ _ => rfl
  | exc => rfl
theorem dx_isNone {d : PyData} (h : DX K G H x d) : decide (x = .non) = isNone d := by
  cases h with
  | dr h => exact dr_isNone h
  | ls _ _ => rfl
  | dc _ _ => rfl
theorem is_ok {X : Cx} : OpD X (compareOp .Is) (isD false) := by
  refine ⟨_, op_isN.or op_isBl, fun P σ G H x y d e Q s hx hy h => ?_⟩
  unfold isD at h
  split at h
  · refine .inl ⟨dx_non hy, ?_⟩
    have := h.ok s (drB _)
    rw [dx_isNone hx]; simpa using this
  · rename_i a b
    refine .inr ⟨_, _, dx_bl hx, dx_bl hy, ?_⟩
    have := h.ok s (drB _)
    cases a <;> cases b <;> exact this
  · exact h.elim
theorem isnot_ok {X : Cx} : OpD X (compareOp .IsNot) (isD true) := by
  refine ⟨_, op_notN.or op_notBl, fun P σ G H x y d e Q s hx hy h => ?_⟩
  unfold isD at h
  split at h
  · refine .inl ⟨dx_non hy, ?_⟩
    have := h.ok s (drB _)
    rw [dx_isNone hx]; simpa using this
  · rename_i a b
    refine .inr ⟨_, _, dx_bl hx, dx_bl hy, ?_⟩
    have := h.ok s (drB _)
    cases a <;> cases b <;> exact this
  · exact h.elim
end
end Bv
set_option Elab.async false
set_option linter.all false
set_option maxRecDepth 100000
set_option maxHeartbeats 1000000
namespace Bv
open PySem PySem.Spec L2
def keyOf : PyData → Option Key
  | .int i => some (.inl i)
  | .str s => some (.inr s)
  | _ => none
theorem keyOf_eq {d : PyData} {k : Key} (h : keyOf d = some k) : d = kD k := by
  cases d with
  | int i => cases h; rfl
  | str s => cases h; rfl
  | _ => cases h
def keysOf : List PyData → Option (List Key)
  | [] => some []
  | d :: r => match keyOf d, keysOf r with
    | some k, some ks => some (k :: ks)
    | _, _ => none
theorem keysOf_eq : ∀ {ds : List PyData} {ks : List Key}, keysOf ds = some ks → ds = ks.map kD
  | [], ks, h => by cases h; rfl
  | d :: r, ks, h => by
    unfold keysOf at h
    split at h
    · rename_i k ks' h1 h2
      cases h
      rw [keyOf_eq h1, keysOf_eq h2]; rfl
    · cases h
theorem eqv_kD (a b : Key) : PyData.eqv (kD a) (kD b) = decide (a = b) := by
  cases a with
  | inl i =>
    cases b with
    | inl j =>
      simp only [kD, PyData.eqv]
      by_cases h : i = j
      · subst h; simp
      · rw [decide_eq_false (fun q => h (Sum.inl.inj q))]; simpa using h
    | inr t => simp [kD, PyData.eqv]
  | inr s =>
    cases b with
    | inl j => simp [kD, PyData.eqv]
    | inr t =>
      simp only [kD, PyData.eqv]
      by_cases h : s = t
      · subst h; simp
      · rw [decide_eq_false (fun q => h (Sum.inr.inj q))]; simpa using h
theorem eqvAll_kD : ∀ a b : List Key, PyData.eqvAll (a.map kD) (b.map kD) = decide (a = b)
  | [], [] => by simp [PyData.eqvAll]
  | [], _ :: _ => by simp [PyData.eqvAll]
  | _ :: _, [] => by simp [PyData.eqvAll]
  | x :: a, y :: b => by
    rw [List.map_cons, List.map_cons, PyData.eqvAll, eqv_kD, eqvAll_kD a b, ← Bool.decide_and]
    exact decide_eq_decide.mpr (by rw [List.cons.injEq])
theorem eqv_kTD (a b : List Key) : PyData.eqv (.tuple (a.map kD)) (.tuple (b.map kD)) = decide (a = b) := by
  simp only [PyData.eqv]; exact eqvAll_kD a b
/-- a dict's item; a dict with an item stored -/
def dget (kvs : List (PyData × PyData)) (k : PyData) : Option PyData := (kvs.find? fun p => PyData.eqv p.1 k).map (·.2)
def dput (kvs : List (PyData × PyData)) (k v : PyData) : List (PyData × PyData) :=
  if (kvs.any fun p => PyData.eqv p.1 k) = true then kvs.map (fun p => if PyData.eqv p.1 k = true then (p.1, v) else p) else kvs ++ [(k, v)]
section
variable {κ : Type} [DecidableEq κ] {K : PySem.W.Frag} {G G' : Hp} {enc : κ → PyData}
/-- pairs by their keys' data -/
abbrev PD (enc : κ → PyData) (K : PySem.W.Frag) (G : Hp) : List (κ × V) → List (PyData × PyData) → Prop := Paired fun p q => q.1 = enc p.1 ∧ Dq K G p.2 q.2
theorem pd_get (he : ∀ a b, PyData.eqv (enc a) (enc b) = decide (a = b)) (k : κ) : ∀ {ks : List (κ × V)} {kvs : List (PyData × PyData)}, PD enc K G ks kvs →
    (valV ks k = none ∧ dget kvs (enc k) = none) ∨ ∃ v d, valV ks k = some v ∧ dget kvs (enc k) = some d ∧ Dq K G v d
  | _, _, .nil => .inl ⟨rfl, rfl⟩
  | p :: ks, q :: kvs, .cons h t => by
    obtain ⟨h1, h2⟩ := h
    by_cases e : p.1 = k
    · refine .inr ⟨p.2, q.2, valV_pos e, ?_, h2⟩
      unfold dget
      rw [List.find?_cons_of_pos (by rw [h1, he]; exact decide_eq_true e)]
      rfl
    · rw [valV_neg e]
      have e2 : dget (q :: kvs) (enc k) = dget kvs (enc k) := by
        unfold dget
        rw [List.find?_cons_of_neg (by rw [h1, he, decide_eq_false e]; exact Bool.false_ne_true)]
      rw [e2]
      exact pd_get he k t
theorem pd_any (he : ∀ a b, PyData.eqv (enc a) (enc b) = decide (a = b)) (k : κ) : ∀ {ks : List (κ × V)} {kvs : List (PyData × PyData)}, PD enc K G ks kvs →
    (ks.any fun kv => decide (kv.1 = k)) = kvs.any fun p => PyData.eqv p.1 (enc k)
  | _, _, .nil => rfl
  | p :: ks, q :: kvs, .cons h t => by
    rw [List.any_cons, List.any_cons, h.1, he, pd_any he k t]
theorem pd_repl (he : ∀ a b, PyData.eqv (enc a) (enc b) = decide (a = b)) (k : κ) {v : V} {d : PyData} (hv : Dq K G v d) : ∀ {ks : List (κ × V)} {kvs : List (PyData × PyData)}, PD enc K G ks kvs →
    PD enc K G (ks.map fun kv => if kv.1 = k then (kv.1, v) else kv) (kvs.map fun p => if PyData.eqv p.1 (enc k) = true then (p.1, d) else p)
  | _, _, .nil => .nil
  | p :: ks, q :: kvs, .cons h t => by
    rw [List.map_cons, List.map_cons]
    refine .cons ?_ (pd_repl he k hv t)
    rw [h.1, he]
    by_cases e : p.1 = k
    · rw [if_pos e, if_pos (decide_eq_true e)]; exact ⟨rfl, hv⟩
    · rw [if_neg e, if_neg (by rw [decide_eq_false e]; exact Bool.false_ne_true)]; exact h
theorem pd_snoc {p : κ × V} {q : PyData × PyData} (h : q.1 = enc p.1 ∧ Dq K G p.2 q.2) : ∀ {ks : List (κ × V)} {kvs : List (PyData × PyData)}, PD enc K G ks kvs → PD enc K G (ks ++ [p]) (kvs ++ [q])
  | _, _, .nil => .cons h .nil
  | _, _, .cons a t => .cons a (pd_snoc h t)
theorem pd_put (he : ∀ a b, PyData.eqv (enc a) (enc b) = decide (a = b)) (k : κ) {v : V} {d : PyData} (hv : Dq K G v d) {ks : List (κ × V)} {kvs : List (PyData × PyData)} (h : PD enc K G ks kvs) :
    PD enc K G (putK ks k v) (dput kvs (enc k) d) := by
  unfold putK dput
  rw [pd_any he k h]
  split
  · exact pd_repl he k hv h
  · exact pd_snoc (p := (k, v)) (q := (enc k, d)) ⟨rfl, hv⟩ h
theorem pd_len {ks : List (κ × V)} {kvs : List (PyData × PyData)} (h : PD enc K G ks kvs) : ks.length = kvs.length := Paired.length h
end
theorem dqAll_keys {K : PySem.W.Frag} {G : Hp} : ∀ {ks : List Key} {vs : List V}, DqAll K G vs (ks.map kD) → vs = ks.map kV
  | [], _, h => by cases h; rfl
  | k :: ks, _, h => by
    cases h with
    | cons h1 h2 =>
      rw [dqAll_keys h2]
      cases k with
      | inl i => cases h1; rfl
      | inr s => cases h1; rfl
/-- a dict's item by data: the key's kind must be the dict's -/
def dlook (kvs : List (PyData × PyData)) (k : PyData) : Res (Option PyData) := match kvs with
  | (.bool false, .none) :: r => match keyOf k with
    | some _ => .ok (dget r k)
    | none => .stuck
  | (.bool true, .none) :: r => match k with
    | .tuple ds => match keysOf ds with
      | some _ => .ok (dget r k)
      | none => .stuck
    | _ => .stuck
  | _ => .stuck
theorem dlook_ok {K : PySem.W.Frag} {G H : Hp} {x y : V} {kvs : List (PyData × PyData)} {k : PyData} {o : Option PyData} (s : Same G H) (hx : DX K G H x (.dict kvs)) (hy : DX K G H y k) (h : dlook kvs k = .ok o) :
    ∃ a ov, x = .ref a ∧ DGet H a y ov ∧ ((o = none ∧ ov = none) ∨ ∃ v d, ov = some v ∧ o = some d ∧ Dq K G v d) := by
  unfold dlook at h
  split at h
  · split at h
    · rename_i kk hk
      cases h
      obtain ⟨a, ks, rfl, ga, q⟩ := dx_dk s hx
      have e := keyOf_eq hk
      subst e
      refine ⟨a, valV ks kk, rfl, .inl ⟨ks, kk, ga, ?_, rfl⟩, ?_⟩
      · cases kk with
        | inl i => exact dx_int hy
        | inr t => exact dx_str hy
      · rcases pd_get eqv_kD kk q with ⟨e1, e2⟩ | ⟨v, d, e1, e2, e3⟩
        · exact .inl ⟨e2, e1⟩
        · exact .inr ⟨v, d, e1, e2, e3⟩
    · cases h
  · split at h
    · split at h
      · rename_i kk hk
        cases h
        obtain ⟨a, ks, rfl, ga, q⟩ := dx_dt s hx
        have e := keysOf_eq hk
        subst e
        obtain ⟨b, vs, rfl, gb, qb⟩ := dx_tup hy
        rw [dqAll_keys qb] at gb
        refine ⟨a, valV ks kk, rfl, .inr ⟨ks, kk, b, ga, rfl, s _ _ gb, rfl⟩, ?_⟩
        rcases pd_get (enc := fun k : List Key => .tuple (k.map kD)) eqv_kTD kk q with ⟨e1, e2⟩ | ⟨v, d, e1, e2, e3⟩
        · exact .inl ⟨e2, e1⟩
        · exact .inr ⟨v, d, e1, e2, e3⟩
      · cases h
    · cases h
  · cases h
def flatD : PyData → Bool
  | .none => true
  | .bool _ => true
  | .int _ => true
  | .str _ => true
  | _ => false
theorem flatD_V {K : PySem.W.Frag} {G : Hp} {d : PyData} {v : V} (h : Dq K G v d) (f : flatD d = true) : flatV v = true := by
  cases h <;> first | rfl | cases f
theorem flatAll_V {K : PySem.W.Frag} {G : Hp} : ∀ {ds : List PyData} {vs : List V}, DqAll K G vs ds → ds.all flatD = true → vs.all flatV = true
  | [], _, h, _ => by cases h; rfl
  | d :: ds, _, h, f => by
    cases h with
    | cons h1 h2 =>
      rw [List.all_cons, Bool.and_eq_true] at f ⊢
      exact ⟨flatD_V h1 f.1, flatAll_V h2 f.2⟩
theorem eqV_eqv {K : PySem.W.Frag} {G : Hp} {d e : PyData} {v u : V} (h : Dq K G v d) (k : Dq K G u e) (f : flatD d = true) (g : flatD e = true) : eqV v u = PyData.eqv d e := by
  cases h <;> cases k <;> first | rfl | cases f | cases g | simp only [eqV, PyData.eqv]
theorem inV_any {K : PySem.W.Frag} {G : Hp} {e : PyData} {u : V} (k : Dq K G u e) (g : flatD e = true) : ∀ {ds : List PyData} {vs : List V}, DqAll K G vs ds → ds.all flatD = true → inV u vs = ds.any fun z => PyData.eqv z e
  | [], _, h, _ => by cases h; rfl
  | d :: ds, _, h, f => by
    cases h with
    | cons h1 h2 =>
      rw [List.all_cons, Bool.and_eq_true] at f
      have ih := inV_any k g h2 f.2
      unfold inV at ih ⊢
      rw [List.any_cons, List.any_cons, ih, eqV_eqv h1 k f.1 g]
theorem dx_flat {K : PySem.W.Frag} {G H : Hp} {d : PyData} {v : V} (h : DX K G H v d) (f : flatD d = true) : Dq K G v d := by
  cases h with
  | dr h => exact h.data (by cases d <;> first | rfl | cases f)
  | ls _ _ => cases f
  | dc _ _ => cases f
def inD (neg : Bool) (k : PyData) : PyData → Res PyData
  | .list ds => if SeqAt.shaped k && SeqAt.shaped (.list ds) then .ok (.bool ((ds.any fun z => PyData.eqv z k) != neg)) else .stuck
  | .tuple ds => if flatD k && ds.all flatD then .ok (.bool ((ds.any fun z => PyData.eqv z k) != neg)) else .stuck
  | .dict [(.none, .tuple ds)] => if flatD k && ds.all flatD then .ok (.bool ((ds.any fun z => PyData.eqv z k) != neg)) else .stuck
  | .dict kvs => (dlook kvs k).bind fun o => .ok (.bool (o.isSome != neg))
  | .str z => match k with
    | .str ⟨⟨[c]⟩⟩ => .ok (.bool (decide (c ∈ z.cps.toList) != neg))
    | _ => .stuck
  | _ => .stuck
theorem op_inDic {X : Cx} (hu : X.A.units + 1 < cLine) : OpR X (compareOp .In) (fun y x H Q => ∃ a o, x = .ref a ∧ DGet H a y o ∧ Q (.bl o.isSome) H) := by
  intro pins s σ H y x u v Q I ry rx h
  obtain ⟨a, o, rfl, g, q⟩ := h
  cases rx
  exact d_in hu I g ry fun s' I' => ⟨.bl _, H, I', rfl, q⟩
theorem op_notinDic {X : Cx} (hu : X.A.units + 1 < cLine) : OpR X (compareOp .NotIn) (fun y x H Q => ∃ a o, x = .ref a ∧ DGet H a y o ∧ Q (.bl (!o.isSome)) H) := by
  intro pins s σ H y x u v Q I ry rx h
  obtain ⟨a, o, rfl, g, q⟩ := h
  cases rx
  exact d_notIn hu I g ry fun s' I' => ⟨.bl _, H, I', rfl, q⟩
section
variable {K : PySem.W.Frag} {P : Pm} {σ : St} {G H : Hp} {x y : V} {Q : VK}
theorem pst_bind_ok {α γ : Type} {R : Hp → Hp → V → α → Prop} {r : Res γ} {k : γ → Res α} (h : Pst P R σ G H (r.bind k) Q) (hr : ∀ c, r ≠ .exc c) : ∃ c, r = .ok c ∧ Pst P R σ G H (k c) Q := by
  cases r with
  | ok c => exact ⟨c, rfl, h⟩
  | exc c => exact absurd rfl (hr c)
  | stuck => exact h.elim
theorem dlook_noexc {kvs : List (PyData × PyData)} {k : PyData} (c : Str) : dlook kvs k ≠ .exc c := by
  intro e
  unfold dlook at e
  repeat' (split at e)
  all_goals cases e
theorem in_ok {X : Cx} (hu : X.A.units + 65 < cLine) : OpD X (compareOp .In) (fun k d => inD false k d) := by
  refine ⟨_, (op_inD hu).or (op_in_seq.or (op_in_sign.or (op_inDic (by omega)))), fun P σ G H x y k d Q s hx hy h => ?_⟩
  replace h : Pst P (DRr X.K) σ G H (inD false k d) Q := h
  unfold inD at h
  split at h
  · split at h
    · rename_i c
      rw [Bool.and_eq_true] at c
      refine .inl ⟨_, _, dx_dp s hx c.1, dx_dp s hy c.2, c.1, c.2, ?_⟩
      have := h.ok s (drB _)
      simpa using this
    · exact h.elim
  · split at h
    · rename_i c
      rw [Bool.and_eq_true] at c
      obtain ⟨a, vs, rfl, ga, qa⟩ := dx_tup hy
      have qx := dx_flat hx c.1
      refine .inr (.inl ⟨a, vs, rfl, .inr (SqT.of (s _ _ ga)), flatD_V qx c.1, flatAll_V qa c.2, ?_⟩)
      have := h.ok s (drB _)
      rw [inV_any qx c.1 qa c.2]
      simpa using this
    · exact h.elim
  · split at h
    · rename_i c
      rw [Bool.and_eq_true] at c
      obtain ⟨a, vs, rfl, ga, qa, _⟩ := dx_kst hy
      have qx := dx_flat hx c.1
      refine .inr (.inl ⟨a, vs, rfl, .inr (sqT_same s ga), flatD_V qx c.1, flatAll_V qa c.2, ?_⟩)
      have := h.ok s (drB _)
      rw [inV_any qx c.1 qa c.2]
      simpa using this
    · exact h.elim
  · obtain ⟨o, e, h'⟩ := pst_bind_ok h fun c => dlook_noexc c
    obtain ⟨a, ov, rfl, g, q⟩ := dlook_ok s hy hx e
    refine .inr (.inr (.inr ⟨a, ov, rfl, g, ?_⟩))
    have := h'.ok s (drB _)
    rcases q with ⟨rfl, rfl⟩ | ⟨v, d, rfl, rfl, _⟩ <;> simpa using this
  · split at h
    · refine .inr (.inr (.inl ⟨_, _, dx_str hx, dx_str hy, ?_⟩))
      have := h.ok s (drB _)
      simpa using this
    · exact h.elim
  · exact h.elim
theorem notin_ok {X : Cx} (hu : X.A.units + 65 < cLine) : OpD X (compareOp .NotIn) (fun k d => inD true k d) := by
  refine ⟨_, (op_notInD hu).or (op_notIn_seq.or (op_notIn_sign.or (op_notinDic (by omega)))), fun P σ G H x y k d Q s hx hy h => ?_⟩
  replace h : Pst P (DRr X.K) σ G H (inD true k d) Q := h
  unfold inD at h
  split at h
  · split at h
    · rename_i c
      rw [Bool.and_eq_true] at c
      refine .inl ⟨_, _, dx_dp s hx c.1, dx_dp s hy c.2, c.1, c.2, ?_⟩
      have := h.ok s (drB _)
      simpa using this
    · exact h.elim
  · split at h
    · rename_i c
      rw [Bool.and_eq_true] at c
      obtain ⟨a, vs, rfl, ga, qa⟩ := dx_tup hy
      have qx := dx_flat hx c.1
      refine .inr (.inl ⟨a, vs, rfl, .inr (SqT.of (s _ _ ga)), flatD_V qx c.1, flatAll_V qa c.2, ?_⟩)
      have := h.ok s (drB _)
      rw [inV_any qx c.1 qa c.2]
      simpa using this
    · exact h.elim
  · split at h
    · rename_i c
      rw [Bool.and_eq_true] at c
      obtain ⟨a, vs, rfl, ga, qa, _⟩ := dx_kst hy
      have qx := dx_flat hx c.1
      refine .inr (.inl ⟨a, vs, rfl, .inr (sqT_same s ga), flatD_V qx c.1, flatAll_V qa c.2, ?_⟩)
      have := h.ok s (drB _)
      rw [inV_any qx c.1 qa c.2]
      simpa using this
    · exact h.elim
  · obtain ⟨o, e, h'⟩ := pst_bind_ok h fun c => dlook_noexc c
    obtain ⟨a, ov, rfl, g, q⟩ := dlook_ok s hy hx e
    refine .inr (.inr (.inr ⟨a, ov, rfl, g, ?_⟩))
    have := h'.ok s (drB _)
    rcases q with ⟨rfl, rfl⟩ | ⟨v, d, rfl, rfl, _⟩ <;> simpa using this
  · split at h
    · refine .inr (.inr (.inl ⟨_, _, dx_str hx, dx_str hy, ?_⟩))
      have := h.ok s (drB _)
      simpa using this
    · exact h.elim
  · exact h.elim
def cmpD : CmpOp → PyData → PyData → Res PyData
  | .Eq => eqD false
  | .NotEq => eqD true
  | .Lt => ltD
  | .LtE => leD
  | .Gt => gtD
  | .GtE => geD
  | .Is => isD false
  | .IsNot => isD true
  | .In => fun k d => inD false k d
  | .NotIn => fun k d => inD true k d
theorem cmp_ok {X : Cx} (hu : X.A.units + 65 < cLine) (op : CmpOp) : OpD X (compareOp op) (cmpD op) := by
  cases op with
  | Eq => exact eq_ok (by omega)
  | NotEq => exact ne_ok (by omega)
  | Lt => exact lt_ok (by omega)
  | LtE => exact le_ok
  | Gt => exact gt_ok
  | GtE => exact ge_ok
  | Is => exact is_ok
  | IsNot => exact isnot_ok
  | In => exact in_ok hu
  | NotIn => exact notin_ok hu
def idxD : PyData → PyData → Res PyData
  | .list l, .int i => match atI l i with
    | some v => .ok v
    | none => .stuck
  | .tuple l, .int i => match atI l i with
    | some v => .ok v
    | none => .stuck
  | .str z, .int i => if z.length ≤ sizeLine then match atI z.cps.toList i with
      | some c => .ok (.str ⟨#[c]⟩)
      | none => .stuck
    else .stuck
  | .dict [(.none, .list l)], .int i => match atI l i with
    | some v => .ok v
    | none => .stuck
  | .dict [(.none, .tuple l)], .int i => match atI l i with
    | some v => .ok v
    | none => .stuck
  | .dict kvs, k => (dlook kvs k).bind fun o => match o with
    | some v => .ok v
    | none => .stuck
  | _, _ => .stuck
theorem ix_dict {X : Cx} (hu : X.A.units + 1 < cLine) : IxR X (fun x y H Q => ∃ a v, x = .ref a ∧ DGet H a y (some v) ∧ Q v H) := by
  intro value slice pins s σ H x y v u Q I rx ry h hs
  obtain ⟨a, w, rfl, g, q⟩ := h
  cases rx
  exact PyProof.Rows.tail_any (dict_typeIs I g) PySem.F.slot_dict_getitem.lookup (d_getItem hu I g ry fun w' s3 I3 rw' => ⟨w, H, I3, rw', q⟩) hs
theorem atI_dq {l : List PyData} {vs : List V} {i : Int} {d : PyData} (q : DqAll K G vs l) (h : atI l i = some d) : ∃ v, atI vs i = some v ∧ Dq K G v d := by
  unfold atI at h ⊢
  rw [dqAll_len q]
  cases e : ixN l.length i with
  | none => rw [e] at h; cases h
  | some j =>
    rw [e] at h
    exact dqAll_at' q h
theorem atI_int {ns : List Int} {i : Int} {d : PyData} (h : atI (ns.map PyData.int) i = some d) : ∃ n, atI (ns.map V.int) i = some (.int n) ∧ d = .int n := by
  unfold atI at h ⊢
  rw [List.length_map] at h ⊢
  cases e : ixN ns.length i with
  | none => rw [e] at h; cases h
  | some j =>
    rw [e] at h
    have h' : (ns.map PyData.int)[j]? = some d := h
    show ∃ n, (ns.map V.int)[j]? = some (.int n) ∧ _
    rw [List.getElem?_map] at h' ⊢
    cases e2 : ns[j]? with
    | none => rw [e2] at h'; cases h'
    | some n => rw [e2] at h'; exact ⟨n, rfl, (Option.some.inj h').symm⟩
theorem idx_ok {X : Cx} (hu : X.A.units + 1 < cLine) : ∃ r : R2, IxR X r ∧ ∀ (P : Pm) (σ : St) (G H : Hp) (x y : V) (d e : PyData) (Q : VK), Same G H → DX X.K G H x d → DX X.K G H y e → Pst P (DRr X.K) σ G H (idxD d e) Q → r x y H Q := by
  refine ⟨_, ix_seq.or (ix_dict hu), fun P σ G H x y d e Q s hx hy h => ?_⟩
  unfold idxD at h
  split at h
  · split at h
    · rename_i v hv
      obtain ⟨a, vs, rfl, ga, qa⟩ := dx_list s hx
      obtain ⟨w, hw, q⟩ := atI_dq qa hv
      exact .inl (.inl ⟨a, vs, _, w, rfl, dx_int hy, SqL.of (ga), hw, h.ok s (.dq q)⟩)
    · exact h.elim
  · split at h
    · rename_i v hv
      obtain ⟨a, vs, rfl, ga, qa⟩ := dx_tup hx
      obtain ⟨w, hw, q⟩ := atI_dq qa hv
      exact .inl (.inr (.inl ⟨a, vs, _, w, rfl, dx_int hy, SqT.of (s _ _ ga), hw, h.ok s (.dq q)⟩))
    · exact h.elim
  · split at h
    · split at h
      · rename_i hz _ c hc
        exact .inl (.inr (.inr ⟨_, _, c, dx_str hx, dx_int hy, hz, hc, h.ok s (drS _)⟩))
      · exact h.elim
    · exact h.elim
  · split at h
    · rename_i v hv
      obtain ⟨a, ns, rfl, rfl, qa⟩ := dx_scr s hx
      obtain ⟨n, hw, rfl⟩ := atI_int hv
      exact .inl (.inl ⟨a, _, _, _, rfl, dx_int hy, qa, hw, h.ok s (drI n)⟩)
    · exact h.elim
  · split at h
    · rename_i v hv
      obtain ⟨a, vs, rfl, ga, qa, _⟩ := dx_kst hx
      obtain ⟨w, hw, q⟩ := atI_dq qa hv
      exact .inl (.inr (.inl ⟨a, vs, _, w, rfl, dx_int hy, sqT_same s ga, hw, h.ok s (.dq q)⟩))
    · exact h.elim
  · obtain ⟨o, e', h'⟩ := pst_bind_ok h fun c => dlook_noexc c
    obtain ⟨a, ov, rfl, g, q⟩ := dlook_ok s hx hy e'
    rcases q with ⟨rfl, rfl⟩ | ⟨v, d', rfl, rfl, q⟩
    · exact h'.elim
    · exact .inr ⟨a, v, rfl, g, h'.ok s (.dq q)⟩
  · exact h.elim
end
end Bv
set_option Elab.async false
set_option linter.all false
set_option maxRecDepth 100000
set_option maxHeartbeats 1000000
namespace Bv
open PySem PySem.Spec L2
section
variable {K : PySem.W.Frag} {P : Pm} {σ : St} {G H : Hp} {x y : V} {Q : VK}
def cutD {α : Type} (xs : List α) (lo hi : Option Int) : List α := (xs.drop (HT.sIx xs.length 0 lo)).take (HT.sIx xs.length xs.length hi - HT.sIx xs.length 0 lo)
def sliD (lo hi : Option Int) : PyData → Res PyData
  | .list l => .ok (.list (cutD l lo hi))
  | .tuple l => .ok (.tuple (cutD l lo hi))
  | .str z => if z.length ≤ sizeLine then .ok (.str (cutS z lo hi)) else .stuck
  | _ => .stuck
theorem dqAll_cut {vs : List V} {l : List PyData} (q : DqAll K G vs l) (lo hi : Option Int) : DqAll K G (cutV vs lo hi) (cutD l lo hi) := by
  unfold cutV cutD
  rw [dqAll_len q]
  exact dqAll_take _ (dqAll_drop _ q)
theorem sli_ok {X : Cx} : ∃ r, SlR X r ∧ ∀ (P : Pm) (σ : St) (G H : Hp) (x : V) (lo hi : Option Int) (d : PyData) (Q : VK), Same G H → DX X.K G H x d → Pst P (DRr X.K) σ G H (sliD lo hi d) Q → r x lo hi H Q := by
  refine ⟨_, sl_list.or (sl_tupA.or sl_str), fun P σ G H x lo hi d Q s hx h => ?_⟩
  unfold sliD at h
  split at h
  · obtain ⟨a, vs, rfl, ga, qa⟩ := dx_list s hx
    exact .inl ⟨a, vs, rfl, SqL.of (ga), new_lst h s (dqAll_cut qa lo hi)⟩
  · rename_i l
    obtain ⟨a, vs, rfl, ga, qa⟩ := dx_tup hx
    refine .inr (.inl ⟨a, vs, rfl, SqT.of (s _ _ ga), fun hw => ?_, fun _ => new_tup h s (dqAll_cut qa lo hi)⟩)
    have e : cutD l lo hi = l := by
      rw [dqAll_len qa] at hw
      unfold cutD
      rw [hw.1, hw.2]
      simp
    rw [e] at h
    exact h.ok s (.dq (.tup ga qa))
  · split at h
    · rename_i c
      exact .inr (.inr ⟨_, dx_str hx, c, h.ok s (drS _)⟩)
    · exact h.elim
  · exact h.elim
def revD : PyData → Res PyData
  | .list l => .ok (.list l.reverse)
  | _ => .stuck
theorem dqAll_rev : ∀ {l : List PyData} {vs : List V}, DqAll K G vs l → DqAll K G vs.reverse l.reverse
  | [], _, h => by cases h; exact .nil
  | d :: l, _, h => by
    cases h with
    | cons h1 h2 =>
      rw [List.reverse_cons, List.reverse_cons]
      exact dqAll_append (dqAll_rev h2) (.cons h1 .nil)
def maxI (n : Int) (ns : List Int) : Int := ns.foldl max n
def minI (n : Int) (ns : List Int) : Int := ns.foldl min n
theorem maxI_mem : ∀ (ns : List Int) (n : Int), maxI n ns ∈ n :: ns ∧ ∀ y ∈ n :: ns, y ≤ maxI n ns
  | [], n => ⟨List.mem_cons_self, fun y h => by rw [List.mem_singleton.mp h]; exact Int.le_refl _⟩
  | m :: ns, n => by
    obtain ⟨h1, h2⟩ := maxI_mem ns (max n m)
    have e : maxI n (m :: ns) = maxI (max n m) ns := rfl
    rw [e]
    refine ⟨?_, fun y hy => ?_⟩
    · rcases List.mem_cons.mp h1 with h | h
      · rw [h]
        by_cases c : n ≤ m
        · rw [Int.max_eq_right c]; exact List.mem_cons_of_mem _ List.mem_cons_self
        · rw [Int.max_eq_left (by omega)]; exact List.mem_cons_self
      · exact List.mem_cons_of_mem _ (List.mem_cons_of_mem _ h)
    · have b := h2 (max n m) List.mem_cons_self
      rcases List.mem_cons.mp hy with h | h
      · subst h; exact Int.le_trans (Int.le_max_left _ _) b
      · rcases List.mem_cons.mp h with h | h
        · subst h; exact Int.le_trans (Int.le_max_right _ _) b
        · exact h2 y (List.mem_cons_of_mem _ h)
theorem minI_mem : ∀ (ns : List Int) (n : Int), minI n ns ∈ n :: ns ∧ ∀ y ∈ n :: ns, minI n ns ≤ y
  | [], n => ⟨List.mem_cons_self, fun y h => by rw [List.mem_singleton.mp h]; exact Int.le_refl _⟩
  | m :: ns, n => by
    obtain ⟨h1, h2⟩ := minI_mem ns (min n m)
    have e : minI n (m :: ns) = minI (min n m) ns := rfl
    rw [e]
    refine ⟨?_, fun y hy => ?_⟩
    · rcases List.mem_cons.mp h1 with h | h
      · rw [h]
        by_cases c : n ≤ m
        · rw [Int.min_eq_left c]; exact List.mem_cons_self
        · rw [Int.min_eq_right (by omega)]; exact List.mem_cons_of_mem _ List.mem_cons_self
      · exact List.mem_cons_of_mem _ (List.mem_cons_of_mem _ h)
    · have b := h2 (min n m) List.mem_cons_self
      rcases List.mem_cons.mp hy with h | h
      · subst h; exact Int.le_trans b (Int.min_le_left _ _)
      · rcases List.mem_cons.mp h with h | h
        · subst h; exact Int.le_trans b (Int.min_le_right _ _)
        · exact h2 y (List.mem_cons_of_mem _ h)
def blsOf : List PyData → Option (List Bool)
  | [] => some []
  | .bool i :: r => (blsOf r).map (i :: ·)
  | _ => none
theorem blsOf_eq : ∀ {ds : List PyData} {ns : List Bool}, blsOf ds = some ns → ds = ns.map .bool
  | [], ns, h => by cases h; rfl
  | .bool i :: r, ns, h => by
    simp only [blsOf, Option.map_eq_some_iff] at h
    obtain ⟨ms, h1, rfl⟩ := h
    rw [blsOf_eq h1]; rfl
  | .none :: _, _, h => by simp [blsOf] at h
  | .int _ :: _, _, h => by simp [blsOf] at h
  | .str _ :: _, _, h => by simp [blsOf] at h
  | .list _ :: _, _, h => by simp [blsOf] at h
  | .tuple _ :: _, _, h => by simp [blsOf] at h
  | .dict _ :: _, _, h => by simp [blsOf] at h
@[simp] theorem blsOf_map : ∀ ns : List Bool, blsOf (ns.map .bool) = some ns
  | [] => rfl
  | n :: ns => by rw [List.map_cons]; simp only [blsOf, blsOf_map ns, Option.map_some]
def strsOf : List PyData → Option (List Str)
  | [] => some []
  | .str i :: r => (strsOf r).map (i :: ·)
  | _ => none
theorem strsOf_eq : ∀ {ds : List PyData} {ns : List Str}, strsOf ds = some ns → ds = ns.map .str
  | [], ns, h => by cases h; rfl
  | .str i :: r, ns, h => by
    simp only [strsOf, Option.map_eq_some_iff] at h
    obtain ⟨ms, h1, rfl⟩ := h
    rw [strsOf_eq h1]; rfl
  | .none :: _, _, h => by simp [strsOf] at h
  | .int _ :: _, _, h => by simp [strsOf] at h
  | .bool _ :: _, _, h => by simp [strsOf] at h
  | .list _ :: _, _, h => by simp [strsOf] at h
  | .tuple _ :: _, _, h => by simp [strsOf] at h
  | .dict _ :: _, _, h => by simp [strsOf] at h
@[simp] theorem strsOf_map : ∀ ns : List Str, strsOf (ns.map .str) = some ns
  | [] => rfl
  | n :: ns => by rw [List.map_cons]; simp only [strsOf, strsOf_map ns, Option.map_some]
/-- the keys of a dict's pairs, all whole numbers -/
def keysI (kvs : List (PyData × PyData)) : Option (List Int) := intsOf (kvs.map (·.1))
theorem keysI_eq : ∀ {ks : List (Key × V)} {kvs : List (PyData × PyData)} {ns : List Int}, KD K G ks kvs → keysI kvs = some ns → ks.map (·.1) = ns.map Sum.inl
  | _, _, ns, .nil, h => by cases h; rfl
  | p :: ks, q :: kvs, ns, .cons h t, e => by
    have e' := intsOf_eq e
    rw [List.map_cons] at e'
    cases ns with
    | nil => cases e'
    | cons n ns =>
      rw [List.map_cons] at e'
      injection e' with e1 e2
      rw [h.1] at e1
      have : p.1 = Sum.inl n := by
        cases hp : p.1 with
        | inl i => rw [hp] at e1; injection e1 with e1; rw [e1]
        | inr s => rw [hp] at e1; cases e1
      rw [List.map_cons, List.map_cons, this, keysI_eq t (by unfold keysI; rw [e2]; exact intsOf_map ns)]
/-- all alike, none None -/
def alikeB (l : List PyData) : Bool := l.all fun x => (l.all fun y => PySem.W.alike x y) && !isNone x
theorem alikeB_eq {l : List PyData} (h : alikeB l = true) : PySem.W.AlikeAll l := by
  unfold alikeB at h
  rw [List.all_eq_true] at h
  refine ⟨fun x hx y hy => ?_, fun x hx e => ?_⟩
  · have := h x hx
    rw [Bool.and_eq_true, List.all_eq_true] at this
    exact this.1 y hy
  · have := h x hx
    rw [Bool.and_eq_true] at this
    subst e
    cases this.2
/-- what may be sorted -/
def sortB (l : List PyData) : Bool := alikeB l && ((l.all fun x => match x with
  | .tuple (_ :: _) => true
  | _ => false) || l.all fun x => match x with
  | .tuple _ => false
  | .none => false
  | _ => true)
theorem sortB_eq {l : List PyData} (h : sortB l = true) : PySem.W.AllAlike l ∧ PySem.W.Sortable l := by
  unfold sortB at h
  rw [Bool.and_eq_true, Bool.or_eq_true, List.all_eq_true, List.all_eq_true] at h
  refine ⟨fun d hd d' hd' => (alikeB_eq h.1).1 d hd d' hd', ?_⟩
  rcases h.2 with h | h
  · refine .inl fun d hd => ?_
    have := h d hd
    split at this
    · exact ⟨_, _, rfl⟩
    · cases this
  · refine .inr fun d hd => ?_
    have := h d hd
    refine ⟨fun e => ?_, fun xs e => ?_⟩
    · subst e; cases this
    · subst e; cases this
inductive Bi where
  | abs | max | min | len | all | any | sum | sorted | list | tuple | str | int | dict
  deriving DecidableEq
def absD : List PyData → Res PyData
  | [.int i] => .ok (.int (if i < 0 then -i else i))
  | _ => .stuck
def maxD : List PyData → Res PyData
  | [.int i, .int j] => .ok (.int (if j > i then j else i))
  | [.list l] => match intsOf l with
    | some (n :: ns) => .ok (.int (maxI n ns))
    | _ => .stuck
  | [.dict ((.bool false, .none) :: kvs)] => match keysI kvs with
    | some (n :: ns) => .ok (.int (maxI n ns))
    | _ => .stuck
  | _ => .stuck
def minL : List PyData → Res PyData
  | [.int i, .int j] => .ok (.int (if j < i then j else i))
  | [.dict ((.bool false, .none) :: kvs)] => match keysI kvs with
    | some (n :: ns) => .ok (.int (minI n ns))
    | _ => .stuck
  | [.list (x :: l)] => if alikeB (x :: l) = true ∧ PyData.depthAll (x :: l) ≤ 30 then .ok (PySem.W.minD x l) else .stuck
  | _ => .stuck
def lenD : List PyData → Res PyData
  | [.list l] => .ok (.int l.length)
  | [.tuple l] => .ok (.int l.length)
  | [.str z] => if z.length ≤ sizeLine then .ok (.int z.length) else .stuck
  | [.dict [(.none, .list l)]] => .ok (.int l.length)
  | [.dict [(.none, .tuple l)]] => .ok (.int l.length)
  | [.dict ((.bool false, .none) :: kvs)] => .ok (.int kvs.length)
  | [.dict ((.bool true, .none) :: kvs)] => .ok (.int kvs.length)
  | _ => .stuck
def allD : List PyData → Res PyData
  | [.list l] => match blsOf l with
    | some bs => .ok (.bool (bs.all id))
    | none => .stuck
  | _ => .stuck
def anyD : List PyData → Res PyData
  | [.list l] => match blsOf l with
    | some bs => .ok (.bool (bs.any id))
    | none => .stuck
  | _ => .stuck
def sumD : List PyData → Res PyData
  | [.list l] => match intsOf l with
    | some ns => .ok (.int ns.sum)
    | none => .stuck
  | _ => .stuck
def sortI (ns : List Int) : List Int := ns.mergeSort fun a b => decide (a ≤ b)
theorem sortI_le (ns : List Int) : (sortI ns).Pairwise (· ≤ ·) := by
  have h := List.pairwise_mergeSort (le := fun a b : Int => decide (a ≤ b)) (fun a b c h1 h2 => by simp at h1 h2 ⊢; omega) (fun a b => by simp; omega) ns
  exact h.imp fun {a b} q => by simpa using q
theorem sortI_eq {ns ys : List Int} (h : ys.Perm ns) (hp : ys.Pairwise (· ≤ ·)) : ys = sortI ns :=
  List.Perm.eq_of_pairwise (fun a b _ _ h1 h2 => Int.le_antisymm h1 h2) hp (sortI_le ns) (h.trans (List.mergeSort_perm ns _).symm)
def sortD : List PyData → Res PyData
  | [.list l] => if sortB l = true ∧ l.length ≤ sizeLine ∧ PyData.depthAll l ≤ 30 then .ok (.list (l.mergeSort (PySem.W.dataLe false id))) else .stuck
  | [.tuple l] => if sortB l = true ∧ l.length ≤ sizeLine ∧ PyData.depthAll l ≤ 30 then .ok (.list (l.mergeSort (PySem.W.dataLe false id))) else .stuck
  | [.dict ((.bool false, .none) :: kvs)] => match keysI kvs with
    | some ns => if ns.length < 64 then .ok (.list ((sortI ns).map .int)) else .stuck
    | none => .stuck
  | _ => .stuck
def listD : List PyData → Res PyData
  | [.list l] => .ok (.list l)
  | [.tuple l] => .ok (.list l)
  | _ => .stuck
def tupD : List PyData → Res PyData
  | [.list l] => .ok (.tuple l)
  | [.tuple l] => .ok (.tuple l)
  | _ => .stuck
def strD : List PyData → Res PyData
  | [.int i] => if i.natAbs < 1000000 then .ok (.str (toString i)) else .stuck
  | _ => .stuck
def intD : List PyData → Res PyData
  | [.str z] => match PySem.intText? z with
    | some n => if z.length ≤ 640 then .ok (.int n) else .stuck
    | none => .stuck
  | _ => .stuck
/-- pairs of a tuple and a value -/
def pairsT : List PyData → Option (List (PyData × PyData))
  | [] => some []
  | .tuple [.tuple ds, v] :: r => match keysOf ds, pairsT r with
    | some _, some t => some ((.tuple ds, v) :: t)
    | _, _ => none
  | _ => none
def dictD : List PyData → Res PyData
  | [.list l] => match pairsT l with
    | some kvs => .ok (dtD (kvs.foldl (fun r p => dput r p.1 p.2) []))
    | none => .stuck
  | _ => .stuck
def biD : Bi → List PyData → Res PyData
  | .abs => absD
  | .max => maxD
  | .min => minL
  | .len => lenD
  | .all => allD
  | .any => anyD
  | .sum => sumD
  | .sorted => sortD
  | .list => listD
  | .tuple => tupD
  | .str => strD
  | .int => intD
  | .dict => dictD
/-- a call of f, by data -/
def CaD (X : Cx) (f : Value) (g : List PyData → Res PyData) : Prop :=
  ∃ r, CallR X f r ∧ ∀ (P : Pm) (σ : L2.St) (G H : Hp) (vs : List V) (ds : List PyData) (Q : VK), Same G H → DXs X.K G H vs ds → Pst P (DRr X.K) σ G H (g ds) Q → r vs H Q
theorem drs1 {d : PyData} {vs : List V} (h : DXs K G H vs [d]) : ∃ v, vs = [v] ∧ DX K G H v d := by
  cases h with
  | cons h t => cases t; exact ⟨_, rfl, h⟩
theorem drs2 {d e : PyData} {vs : List V} (h : DXs K G H vs [d, e]) : ∃ v w, vs = [v, w] ∧ DX K G H v d ∧ DX K G H w e := by
  cases h with
  | cons h t =>
    obtain ⟨w, rfl, h2⟩ := drs1 t
    exact ⟨_, w, rfl, h, h2⟩
theorem abs_ok {X : Cx} : CaD X (.builtin "abs") absD := by
  refine ⟨_, call_abs, fun P σ G H vs ds Q s hv h => ?_⟩
  unfold absD at h
  split at h
  · obtain ⟨v, rfl, hx⟩ := drs1 hv
    exact ⟨_, by rw [dx_int hx], h.ok s (drI _)⟩
  · exact h.elim
/-- max(d), d a dict with whole numbers as keys -/
def rMaxKey : List V → Hp → VK → Prop := fun vs H Q => ∃ (a : Addr) (ks : List (Key × V)) (ns : List Int), vs = [V.ref a] ∧ Rd H a (.dK ks) ∧ ks.map (·.1) = ns.map Sum.inl ∧ ns ≠ [] ∧ ∀ m, m ∈ ns → (∀ j ∈ ns, j ≤ m) → Q (.int m) H
theorem maxKey_ok {X : Cx} (hc : X.calm = true) : CallR X (.builtin "max") rMaxKey := by
  intro pins s σ H vs us Q I rv hq
  obtain ⟨a, ks, ns, rfl, hd, hm, hne, fin⟩ := hq
  rw [Vals.ref1 rv]
  obtain ⟨_, nosys, ents, rel, isd⟩ := dk_rd I.hok hd
  obtain ⟨ep, at'⟩ := isd.dictAt
  obtain ⟨ob, es, ho, _⟩ := id at'
  have below : a < s.heap.objs.size := Heap.lt_size ho
  have keys : ents.map (·.1) = ns.map Sum.inl := (KV.keys rel).symm.trans hm
  have many : ents.length = ns.length := by
    have := congrArg List.length keys
    simpa using this
  have some_key : 0 < ents.length := by
    rw [many]
    exact List.length_pos_iff.mpr hne
  have val : ∀ (i : Nat) (v : Value), (∃ k x, ents[i]? = some (k, x) ∧ (mixKind X.prog X.w).is k v = true) → ∃ t, v = Value.int (ns.getD i 0) t := fun i v hv => by
    obtain ⟨k, x, e, isk⟩ := hv
    have e1 : (ents.map (·.1))[i]? = some k := by rw [List.getElem?_map, e]; rfl
    rw [keys, List.getElem?_map] at e1
    obtain ⟨j, hj, rfl⟩ := Option.map_eq_some_iff.mp e1
    obtain ⟨t, e3⟩ := Value.isInt_shape (k := j) (v := v) isk
    exact ⟨t, by rw [e3, List.getD_eq_getElem?_getD, hj]; rfl⟩
  refine call_max_walk (wpAny_pyIter_dict (knd := mixKind X.prog X.w) nosys at' ?_)
  refine ⟨_, _, _, _, _, _, _, rfl, Walks.dictKeys (knd := mixKind X.prog X.w) (A := X.A.in1) (I.ok.hd hc) s.heap.objs.size a (Nat.ne_of_lt below) ents ep, ⟨⟨_, Heap.get?_push_size _ rfl, rfl, rfl⟩, at'.keep fun b u e => Heap.get?_push_of_some _ e⟩, fun b hb => ?_, some_key, CmpOf.ints_gt (fun i => ns.getD i 0) val, fun v h' tk hv hk => ?_⟩
  · show b < (s.heap.push _).objs.size
    rw [Heap.size_push]
    rcases List.mem_cons.mp hb with rfl | hb
    · exact Nat.lt_succ_self _
    · rw [List.mem_singleton.mp hb]; exact Nat.lt_succ_of_lt below
  · obtain ⟨t, rfl⟩ := val _ v hv
    obtain ⟨b1, b2⟩ := argBest_gt (fun i => ns.getD i 0) (ents.length - 1)
    have hin : argBest (fun i j => decide (ns.getD i 0 > ns.getD j 0)) (ents.length - 1) < ns.length := by omega
    refine ⟨.int _, H, I.kept (t' := tk) fun b u e => hk b u (fun hmem => ?_) (Heap.get?_push_of_some _ e), ⟨t, rfl⟩, fin _ ?_ fun j hj => ?_⟩
    · rw [List.mem_singleton.mp hmem] at e
      exact absurd (Heap.lt_size e) (Nat.lt_irrefl _)
    · rw [List.getD_eq_getElem?_getD, List.getElem?_eq_getElem hin]
      exact List.getElem_mem hin
    · obtain ⟨i, hi, rfl⟩ := List.mem_iff_getElem.mp hj
      have := b2 i (by omega)
      rw [show ns.getD i 0 = ns[i] by rw [List.getD_eq_getElem?_getD, List.getElem?_eq_getElem hi]; rfl] at this
      exact this
/-- min(d), d a dict with whole numbers as keys -/
def rMinKey : List V → Hp → VK → Prop := fun vs H Q => ∃ (a : Addr) (ks : List (Key × V)) (ns : List Int), vs = [V.ref a] ∧ Rd H a (.dK ks) ∧ ks.map (·.1) = ns.map Sum.inl ∧ ns ≠ [] ∧ ∀ m, m ∈ ns → (∀ j ∈ ns, m ≤ j) → Q (.int m) H
theorem minKey_ok {X : Cx} (hc : X.calm = true) : CallR X (.builtin "min") rMinKey := by
  intro pins s σ H vs us Q I rv hq
  obtain ⟨a, ks, ns, rfl, hd, hm, hne, fin⟩ := hq
  rw [Vals.ref1 rv]
  obtain ⟨_, nosys, ents, rel, isd⟩ := dk_rd I.hok hd
  obtain ⟨ep, at'⟩ := isd.dictAt
  obtain ⟨ob, es, ho, _⟩ := id at'
  have below : a < s.heap.objs.size := Heap.lt_size ho
  have keys : ents.map (·.1) = ns.map Sum.inl := (KV.keys rel).symm.trans hm
  have many : ents.length = ns.length := by
    have := congrArg List.length keys
    simpa using this
  have some_key : 0 < ents.length := by
    rw [many]
    exact List.length_pos_iff.mpr hne
  have val : ∀ (i : Nat) (v : Value), (∃ k x, ents[i]? = some (k, x) ∧ (mixKind X.prog X.w).is k v = true) → ∃ t, v = Value.int (ns.getD i 0) t := fun i v hv => by
    obtain ⟨k, x, e, isk⟩ := hv
    have e1 : (ents.map (·.1))[i]? = some k := by rw [List.getElem?_map, e]; rfl
    rw [keys, List.getElem?_map] at e1
    obtain ⟨j, hj, rfl⟩ := Option.map_eq_some_iff.mp e1
    obtain ⟨t, e3⟩ := Value.isInt_shape (k := j) (v := v) isk
    exact ⟨t, by rw [e3, List.getD_eq_getElem?_getD, hj]; rfl⟩
  refine call_min_walk (wpAny_pyIter_dict (knd := mixKind X.prog X.w) nosys at' ?_)
  refine ⟨_, _, _, _, _, _, _, rfl, Walks.dictKeys (knd := mixKind X.prog X.w) (A := X.A.in1) (I.ok.hd hc) s.heap.objs.size a (Nat.ne_of_lt below) ents ep, ⟨⟨_, Heap.get?_push_size _ rfl, rfl, rfl⟩, at'.keep fun b u e => Heap.get?_push_of_some _ e⟩, fun b hb => ?_, some_key, CmpOf.ints_lt (fun i => ns.getD i 0) val, fun v h' tk hv hk => ?_⟩
  · show b < (s.heap.push _).objs.size
    rw [Heap.size_push]
    rcases List.mem_cons.mp hb with rfl | hb
    · exact Nat.lt_succ_self _
    · rw [List.mem_singleton.mp hb]; exact Nat.lt_succ_of_lt below
  · obtain ⟨t, rfl⟩ := val _ v hv
    obtain ⟨b1, b2⟩ := argBest_lt (fun i => ns.getD i 0) (ents.length - 1)
    have hin : argBest (fun i j => decide (ns.getD i 0 < ns.getD j 0)) (ents.length - 1) < ns.length := by omega
    refine ⟨.int _, H, I.kept (t' := tk) fun b u e => hk b u (fun hmem => ?_) (Heap.get?_push_of_some _ e), ⟨t, rfl⟩, fin _ ?_ fun j hj => ?_⟩
    · rw [List.mem_singleton.mp hmem] at e
      exact absurd (Heap.lt_size e) (Nat.lt_irrefl _)
    · rw [List.getD_eq_getElem?_getD, List.getElem?_eq_getElem hin]
      exact List.getElem_mem hin
    · obtain ⟨i, hi, rfl⟩ := List.mem_iff_getElem.mp hj
      have := b2 i (by omega)
      rw [show ns.getD i 0 = ns[i] by rw [List.getD_eq_getElem?_getD, List.getElem?_eq_getElem hi]; rfl] at this
      exact this
theorem max_ok {X : Cx} (hc : X.calm = true) : CaD X (.builtin "max") maxD := by
  refine ⟨_, (call_max2 hc).or ((cr_max hc).or (maxKey_ok hc)), fun P σ G H vs ds Q s hv h => ?_⟩
  unfold maxD at h
  split at h
  · obtain ⟨v, w, rfl, hx, hy⟩ := drs2 hv
    exact .inl ⟨_, _, by rw [dx_int hx, dx_int hy], h.ok s (drI _)⟩
  · split at h
    · rename_i n ns e
      obtain ⟨v, rfl, hx⟩ := drs1 hv
      obtain ⟨a, ws, rfl, ga, qa⟩ := dx_list s hx
      rw [intsOf_eq e] at qa
      rw [dqAll_ints qa] at ga
      refine .inr (.inl ⟨a, n :: ns, rfl, SqL.of (ga), by simp, fun m h1 h2 => ?_⟩)
      obtain ⟨c1, c2⟩ := maxI_mem ns n
      have : m = maxI n ns := Int.le_antisymm (c2 m h1) (h2 _ c1)
      rw [this]
      exact h.ok s (drI _)
    · exact h.elim
  · split at h
    · rename_i n ns e
      obtain ⟨v, rfl, hx⟩ := drs1 hv
      obtain ⟨a, ks, rfl, ga, qa⟩ := dx_dk s hx
      refine .inr (.inr ⟨a, ks, n :: ns, rfl, ga, keysI_eq qa e, by simp, fun m h1 h2 => ?_⟩)
      obtain ⟨c1, c2⟩ := maxI_mem ns n
      have : m = maxI n ns := Int.le_antisymm (c2 m h1) (h2 _ c1)
      rw [this]
      exact h.ok s (drI _)
    · exact h.elim
  · exact h.elim
/-- min of a list of data: which item -/
def rMinData (K : PySem.W.Frag) : List V → Hp → VK → Prop := fun vs H Q => ∃ (a : Addr) (xs : List V) (d : PyData) (ds : List PyData), vs = [V.ref a] ∧ SqL K H a xs ∧ DpAll K H xs (d :: ds) ∧ PySem.W.AlikeAll (d :: ds) ∧ PyData.depthAll (d :: ds) ≤ 30 ∧
  ∀ (i : Nat) (x : V), xs[i]? = some x → (d :: ds)[i]? = some (PySem.W.minD d ds) → Q x H
theorem minData_ok {X : Cx} (hc : X.calm = true) (hu : X.A.units + 65 < cLine) : CallR X (.builtin "min") (rMinData X.K) := by
  intro pins s σ H vs us Q I rv hq
  obtain ⟨a, xs, d, ds, rfl, hl, hd, al, dep, fin⟩ := hq
  rw [Vals.ref1 rv]
  obtain ⟨its, ri, pl, _⟩ := I.list hl
  obtain ⟨as, rd⟩ := Dp.readsAll I _ _ _ hd ri
  refine PySem.W.min_list_data (I.ok.hd hc) pl.isList (by simpa using rd) al (by show X.A.units + 1 + _ < _; omega) fun i v h' tk bs hi r hk => ?_
  have hi' : its[i]? = some v := by simpa using hi
  have J := I.kept (t' := tk) hk
  have lx := ri.length
  have hlt : i < xs.length := by rw [lx]; exact (List.getElem?_eq_some_iff.mp hi').1
  obtain ⟨u, eu, ru⟩ := ri.get (List.getElem?_eq_getElem hlt)
  rw [hi'] at eu
  cases eu
  have hlen : xs.length = (d :: ds).length := by
    clear fin
    exact dpAll_length hd
  obtain ⟨e, he, hde⟩ := dpAll_nth hd (List.getElem?_eq_getElem hlt)
  obtain ⟨cs, r2⟩ := Dp.reads J e _ v hde ru
  have : PySem.W.minD d ds = e := (Reads.unique r _ _ r2).1
  exact ⟨_, H, J, ru, fin i _ (List.getElem?_eq_getElem hlt) (by rw [this]; exact he)⟩
theorem min_ok {X : Cx} (hc : X.calm = true) (hu : X.A.units + 65 < cLine) : CaD X (.builtin "min") minL := by
  refine ⟨_, (call_min2 hc).or ((minKey_ok hc).or (minData_ok hc hu)), fun P σ G H vs ds Q s hv h => ?_⟩
  unfold minL at h
  split at h
  · obtain ⟨v, w, rfl, hx, hy⟩ := drs2 hv
    exact .inl ⟨_, _, by rw [dx_int hx, dx_int hy], h.ok s (drI _)⟩
  · split at h
    · rename_i n ns e
      obtain ⟨v, rfl, hx⟩ := drs1 hv
      obtain ⟨a, ks, rfl, ga, qa⟩ := dx_dk s hx
      refine .inr (.inl ⟨a, ks, n :: ns, rfl, ga, keysI_eq qa e, by simp, fun m h1 h2 => ?_⟩)
      obtain ⟨c1, c2⟩ := minI_mem ns n
      have : m = minI n ns := Int.le_antisymm (h2 _ c1) (c2 m h1)
      rw [this]
      exact h.ok s (drI _)
    · exact h.elim
  · split at h
    · rename_i d l c
      obtain ⟨v, rfl, hx⟩ := drs1 hv
      obtain ⟨a, xs, rfl, ga, qa⟩ := dx_list s hx
      refine .inr (.inr ⟨a, xs, d, l, rfl, SqL.of (ga), dpAll_of s (dqAll_dp _ _ qa), alikeB_eq c.1, c.2, fun i x hx hm => ?_⟩)
      obtain ⟨e, he, q⟩ := dqAll_at qa hx
      rw [hm] at he
      cases he
      exact h.ok s (.dq q)
    · exact h.elim
  · exact h.elim
end
end Bv
set_option Elab.async false
set_option linter.all false
set_option maxRecDepth 100000
set_option maxHeartbeats 1000000
namespace Bv
open PySem PySem.Spec L2
section
variable {K : PySem.W.Frag} {P : Pm} {σ : L2.St} {G H : Hp} {x y : V} {Q : VK}
def rLenKey : List V → Hp → VK → Prop := fun vs H Q => ∃ (a : Addr) (ks : List (Key × V)), vs = [V.ref a] ∧ Rd H a (.dK ks) ∧ Q (.int ks.length) H
theorem lenKey_ok {X : Cx} : CallR X (.builtin "len") rLenKey := by
  intro pins s σ H vs us Q I rv hq
  obtain ⟨a, ks, rfl, hd, fin⟩ := hq
  rw [Vals.ref1 rv]
  exact d_len I hd fun t s' J => ⟨V.int ks.length, H, J, ⟨t, rfl⟩, fin⟩
def rLenTup : List V → Hp → VK → Prop := fun vs H Q => ∃ (a : Addr) (ks : List (List Key × V)), vs = [V.ref a] ∧ Rd H a (.dT ks) ∧ Q (.int ks.length) H
theorem lenTup_ok {X : Cx} : CallR X (.builtin "len") rLenTup := by
  intro pins s σ H vs us Q I rv hq
  obtain ⟨a, ks, rfl, hd, fin⟩ := hq
  rw [Vals.ref1 rv]
  obtain ⟨small, nosys, ents, rel, isd⟩ := dt_rd I.hok hd
  have many : ks.length = ents.length := Paired.length rel
  rw [sizeLine_eq] at small
  refine call_len_dictH nosys isd (by omega) ?_
  rw [← many]
  exact ⟨V.int ks.length, H, I.tok _, ⟨_, rfl⟩, fin⟩
theorem len_ok {X : Cx} : CaD X (.builtin "len") lenD := by
  refine ⟨_, call_len.or (lenKey_ok.or lenTup_ok), fun P σ G H vs ds Q s hv h => ?_⟩
  unfold lenD at h
  split at h
  · obtain ⟨v, rfl, hx⟩ := drs1 hv
    obtain ⟨a, ws, rfl, ga, qa⟩ := dx_list s hx
    exact .inl ⟨_, _, rfl, .inl ⟨_, SqL.of (ga), (dqAll_len qa).symm⟩, h.ok s (drI _)⟩
  · obtain ⟨v, rfl, hx⟩ := drs1 hv
    obtain ⟨a, ws, rfl, ga, qa⟩ := dx_tup hx
    exact .inl ⟨_, _, rfl, .inr ⟨_, SqT.of (s _ _ ga), (dqAll_len qa).symm⟩, h.ok s (drI _)⟩
  · split at h
    · rename_i c
      obtain ⟨v, rfl, hx⟩ := drs1 hv
      rw [dx_str hx]
      exact .inl ⟨_, _, rfl, ⟨c, rfl⟩, h.ok s (drI _)⟩
    · exact h.elim
  · obtain ⟨v, rfl, hx⟩ := drs1 hv
    obtain ⟨a, ns, rfl, rfl, q⟩ := dx_scr s hx
    exact .inl ⟨_, _, rfl, .inl ⟨_, q, by rw [List.length_map, List.length_map]⟩, h.ok s (drI _)⟩
  · obtain ⟨v, rfl, hx⟩ := drs1 hv
    obtain ⟨a, ws, rfl, ga, qa, _⟩ := dx_kst hx
    exact .inl ⟨_, _, rfl, .inr ⟨_, sqT_same s ga, (dqAll_len qa).symm⟩, h.ok s (drI _)⟩
  · obtain ⟨v, rfl, hx⟩ := drs1 hv
    obtain ⟨a, ks, rfl, ga, qa⟩ := dx_dk s hx
    refine .inr (.inl ⟨a, ks, rfl, ga, ?_⟩)
    rw [pd_len qa]
    exact h.ok s (drI _)
  · obtain ⟨v, rfl, hx⟩ := drs1 hv
    obtain ⟨a, ks, rfl, ga, qa⟩ := dx_dt s hx
    refine .inr (.inr ⟨a, ks, rfl, ga, ?_⟩)
    rw [pd_len (enc := fun k : List Key => .tuple (k.map kD)) qa]
    exact h.ok s (drI _)
  · exact h.elim
theorem all_ok {X : Cx} (hc : X.calm = true) : CaD X (.builtin "all") allD := by
  refine ⟨_, cr_all hc, fun P σ G H vs ds Q s hv h => ?_⟩
  unfold allD at h
  split at h
  · split at h
    · rename_i bs e
      obtain ⟨v, rfl, hx⟩ := drs1 hv
      obtain ⟨a, ws, rfl, ga, qa⟩ := dx_list s hx
      rw [blsOf_eq e] at qa
      rw [dqAll_bls qa] at ga
      exact ⟨a, bs, rfl, SqL.of (ga), h.ok s (drB _)⟩
    · exact h.elim
  · exact h.elim
theorem any_ok {X : Cx} (hc : X.calm = true) : CaD X (.builtin "any") anyD := by
  refine ⟨_, cr_any hc, fun P σ G H vs ds Q s hv h => ?_⟩
  unfold anyD at h
  split at h
  · split at h
    · rename_i bs e
      obtain ⟨v, rfl, hx⟩ := drs1 hv
      obtain ⟨a, ws, rfl, ga, qa⟩ := dx_list s hx
      rw [blsOf_eq e] at qa
      rw [dqAll_bls qa] at ga
      exact ⟨a, bs, rfl, SqL.of (ga), h.ok s (drB _)⟩
    · exact h.elim
  · exact h.elim
theorem sum_ok {X : Cx} (hc : X.calm = true) : CaD X (.builtin "sum") sumD := by
  refine ⟨_, cr_sum hc, fun P σ G H vs ds Q s hv h => ?_⟩
  unfold sumD at h
  split at h
  · split at h
    · rename_i ns e
      obtain ⟨v, rfl, hx⟩ := drs1 hv
      obtain ⟨a, ws, rfl, ga, qa⟩ := dx_list s hx
      rw [intsOf_eq e] at qa
      rw [dqAll_ints qa] at ga
      exact ⟨a, ns, rfl, SqL.of (ga), h.ok s (drI _)⟩
    · exact h.elim
  · exact h.elim
/-- sorted of a list of data -/
def rSortData (K : PySem.W.Frag) : List V → Hp → VK → Prop := fun vs H Q => ∃ (a : Addr) (xs : List V) (ds : List PyData) (G : Hp), vs = [V.ref a] ∧ SqL K H a xs ∧ Same G H ∧ DqAll K G xs ds ∧ PySem.W.AllAlike ds ∧ PySem.W.Sortable ds ∧ ds.length ≤ sizeLine ∧ PyData.depthAll ds ≤ 30 ∧
  ∀ ys : List V, DqAll K G ys (ds.mergeSort (PySem.W.dataLe false id)) → ∀ p, H p = none → Q (.ref p) (upd H p (.lst ys))
theorem each_of {X : Cx} {pins : List (Addr × Obj)} {σ : L2.St} {H G : Hp} {s : Shared} (I : Inv X pins σ H s) (sm : Same G H) : ∀ {xs : List V} {ds : List PyData} {us : List Value}, DqAll X.K G xs ds → Vals xs us →
    PySem.W.EachIs (fun v d => ∃ x, RelV x v ∧ Dq X.K G x d) us ds ∧ PySem.W.EachIs (fun v d => ∃ as, Reads s.heap v (id d) as) us ds
  | [], _, _, h, r => by cases h; cases r; exact ⟨.nil, .nil⟩
  | x :: xs, _, _, h, r => by
    cases h with
    | cons h1 h2 =>
      cases r with
      | cons r1 r2 =>
        obtain ⟨e1, e2⟩ := each_of I sm h2 r2
        exact ⟨.cons ⟨x, r1, h1⟩ e1, .cons (Dp.reads I _ _ _ (dp_of sm (dq_dp _ _ h1)) r1) e2⟩
theorem of_each {K : PySem.W.Frag} {G : Hp} : ∀ {us : List Value} {ds : List PyData}, PySem.W.EachIs (fun v d => ∃ x, RelV x v ∧ Dq K G x d) us ds → ∃ xs, Vals xs us ∧ DqAll K G xs ds
  | _, _, .nil => ⟨[], .nil, .nil⟩
  | _, _, .cons ⟨x, r, q⟩ t => by
    obtain ⟨xs, r2, q2⟩ := of_each t
    exact ⟨x :: xs, .cons r r2, .cons q q2⟩
theorem depth_mem : ∀ {ds : List PyData} {d : PyData}, d ∈ ds → d.depth ≤ PyData.depthAll ds
  | e :: ds, d, h => by
    rw [PyData.depthAll]
    rcases List.mem_cons.mp h with rfl | h
    · exact Nat.le_max_left _ _
    · exact Nat.le_trans (depth_mem h) (Nat.le_max_right _ _)
theorem sortData_ok {X : Cx} (hu : X.A.units + 65 < cLine) : CallR X (.builtin "sorted") (rSortData X.K) := by
  intro pins s σ H vs us Q I rv hq
  obtain ⟨a, xs, ds, G, rfl, hl, sm, hd, al, so, hlen, dep, fin⟩ := hq
  rw [Vals.ref1 rv]
  obtain ⟨its, ri, pl, _⟩ := I.list hl
  obtain ⟨e1, e2⟩ := each_of I sm hd ri
  refine PySem.W.sorted_data pl.isList e1 e2 (by rw [List.map_id]; exact al) (by rw [List.map_id]; exact so) hlen (fun b hb => ?_) fun out ho eo => ?_
  · have := depth_mem hb
    show X.A.units + 2 + b.depth < cLine
    omega
  · obtain ⟨ys, ry, qy⟩ := of_each eo
    obtain ⟨e, he⟩ := PyProof.Rows.sortedAll_at s.heap its out.toArray
    have hn : H (s.heap.objs.size + 1) = none := I.hok.fresh (Nat.le_succ _)
    have hy : ys.length ≤ sizeLine := by
      rw [ry.length, ho]; exact hlen
    exact ⟨.ref _, _, I.laid (t' := s.toks) (a := s.heap.objs.size + 1) (o := .lst ys) (fun b o hb => PyProof.Rows.sortedAll_old hb) (Nat.le_succ _) ⟨hy, out, e, ry, he⟩, rfl, fin ys qy _ hn⟩
section
open PyProof.Rows
variable {prog : Program} {w : World} {A : Around} {E : Value → Shared → Prop} {s : Shared} {β : Type} {vs : List Value} {bs : List β} {enc : β → PyData} {R : Value → β → Prop}
/-- sorted of a tuple -/
theorem sorted_tup_data {a : Addr} {Q : Value → Shared → Prop} (ht : PyProof.Rows.IsTup s.heap a vs.toArray) (e : PySem.W.EachIs R vs bs) (er : PySem.W.EachIs (fun v b => ∃ as, Reads s.heap v (enc b) as) vs bs) (hal : PySem.W.AllAlike (bs.map enc)) (hk : PySem.W.Sortable (bs.map enc)) (hL : bs.length ≤ sizeLine)
    (hu : ∀ b, b ∈ bs → A.units + 2 + (enc b).depth < cLine) (h : ∀ (h' : Heap) (p : Addr) (out : List Value) (c : Nat), (∀ b o, s.heap.get? b = some o → h'.get? b = some o) → s.heap.get? p = none → h'.get? p = some (seqObj "list" out.toArray c) → out.length = bs.length → PySem.W.EachIs R out (bs.mergeSort (PySem.W.dataLe false enc)) → Q (.ref p) { s with heap := h' }) :
    wpAny (model prog w) A (call (.builtin "sorted") [.ref a]) Q E s := by
  refine Calls.call_function_entry kind_sorted plain_sorted entry_sorted (args_sorted1 _) ?_
  unfold Builtin.«sorted»
  refine wpAny_bind (m := checkCount "sorted" 1 1 _) (wpAny_pure ?_)
  obtain ⟨o, ho, hc, n, hd⟩ := ht
  have hvl : vs.length ≤ sizeLine := by rw [e.length]; exact hL
  refine wpAny_bind (wpAny_collect_seq (hsz := by simpa using hvl) a (.inr rfl) ho hc hd fun h' k => ?_)
  refine wpAny_bind (wpAny_newList ?_ hvl)
  have hoL : (h'.push (seqObj "list" vs.toArray 0)).get? h'.objs.size = some (seqObj "list" vs.toArray 0) := Heap.get?_push_size _ rfl
  have hne : s.heap.get? h'.objs.size = none := by
    cases q : s.heap.get? h'.objs.size with
    | none => rfl
    | some u => exact absurd (Heap.lt_size (k _ _ q)) (Nat.lt_irrefl _)
  have k1 : ∀ b u, s.heap.get? b = some u → (PySem.W.sortingHeap (h'.push (seqObj "list" vs.toArray 0)) h'.objs.size vs).get? b = some u := fun b u q =>
    PySem.W.sortingHeap_old (fun z => by rw [z, hne] at q; cases q) (Heap.get?_push_of_some _ (k _ _ q))
  have er' : PySem.W.EachIs (fun v b => ∃ as, Reads (PySem.W.sortingHeap (h'.push (seqObj "list" vs.toArray 0)) h'.objs.size vs) v (enc b) as) vs bs := er.mono fun _ _ ⟨as, r⟩ => ⟨as, PyProof.Rows.Reads.keeps k1 r⟩
  refine wpAny_bind (wpAny_holding (wpAny_call_entry slot_list_sort ⟨_, hoL, rfl⟩ entry_list_sort (PySem.W.list_sort_vals (s := { s with heap := h'.push (seqObj "list" vs.toArray 0) }) hoL (PySem.W.SortsAt.data (s := { s with heap := PySem.W.sortingHeap (h'.push (seqObj "list" vs.toArray 0)) h'.objs.size vs }) (PySem.W.each_map (R := fun v d => ∃ as, Reads (PySem.W.sortingHeap (h'.push (seqObj "list" vs.toArray 0)) h'.objs.size vs) v d as) enc er') hal hk (PySem.W.bound_map hu)) hvl ⟨_, rfl, ?_⟩) (args_list_sort _)))
  obtain ⟨c, hc⟩ := PyProof.Rows.sortedHeap_at (vs := vs) (out := (PySem.W.sortVals (PySem.W.dataKind (PySem.W.sortingHeap (h'.push (seqObj "list" vs.toArray 0)) h'.objs.size vs) (bs.map enc)) false vs vs).toArray) hoL
  refine wpAny_pure ⟨_, rfl, h _ _ _ c (fun b u q => ?_) hne hc (by rw [PySem.W.sortVals_length false rfl]; exact e.length) (PySem.W.sortVals_data false e er' hal)⟩
  have q1 := k b u q
  have hlt := Heap.lt_size q1
  rw [PyProof.Rows.sortedHeap_old (Nat.ne_of_lt hlt) (by rw [PyProof.Rows.size_push']; exact Nat.lt_succ_of_lt hlt)]
  exact Heap.get?_push_of_some _ q1
end
theorem objOk_there {P : Program} {w : World} {H : Hp} {h : Heap} {a : Addr} {o : HO} (x : ObjOk P w H h a o) : ∃ u, h.get? a = some u := by
  cases o with
  | lst xs => obtain ⟨_, _, _, _, e⟩ := x; exact ⟨_, e⟩
  | tup xs => obtain ⟨_, _, _, u, e, _⟩ := x; exact ⟨_, e⟩
  | dK kvs => obtain ⟨_, _, _, _, o, _, _, e, _⟩ := x; exact ⟨_, e⟩
  | dT kvs => obtain ⟨_, _, _, _, o, _, _, e, _⟩ := x; exact ⟨_, e⟩
  | set S n => obtain ⟨o, _, _, _, e, _⟩ := x; exact ⟨_, e⟩
  | ins C dx fs => obtain ⟨_, _, _, e, _⟩ := x; exact ⟨_, e⟩
  | own y => exact x
  | xd fs => obtain ⟨_, ⟨_, _, _, e, _⟩, _⟩ := x; exact ⟨_, e⟩
  | rng lo hi => obtain ⟨_, _, _, e⟩ := x; exact ⟨_, e⟩
  | frz ob u => exact ⟨_, x.1⟩
  | tbl ps => exact ⟨_, x⟩
  | met f y => exact ⟨_, x⟩
  | ext φ => exact x.2.1
/-- sorted of a tuple of data -/
def rSortDataT (K : PySem.W.Frag) : List V → Hp → VK → Prop := fun vs H Q => ∃ (a : Addr) (xs : List V) (ds : List PyData) (G : Hp), vs = [V.ref a] ∧ SqT K H a xs ∧ Same G H ∧ DqAll K G xs ds ∧ PySem.W.AllAlike ds ∧ PySem.W.Sortable ds ∧ ds.length ≤ sizeLine ∧ PyData.depthAll ds ≤ 30 ∧
  ∀ ys : List V, DqAll K G ys (ds.mergeSort (PySem.W.dataLe false id)) → ∀ p, H p = none → Q (.ref p) (upd H p (.lst ys))
theorem sortDataT_ok {X : Cx} (hu : X.A.units + 65 < cLine) : CallR X (.builtin "sorted") (rSortDataT X.K) := by
  intro pins s σ H vs us Q I rv hq
  obtain ⟨a, xs, ds, G, rfl, hl, sm, hd, al, so, hlen, dep, fin⟩ := hq
  rw [Vals.ref1 rv]
  obtain ⟨its, ri, pl, _⟩ := I.tuple hl
  obtain ⟨e1, e2⟩ := each_of I sm hd ri
  refine sorted_tup_data pl e1 e2 (by rw [List.map_id]; exact al) (by rw [List.map_id]; exact so) hlen (fun b hb => ?_) fun h' p out c k hp hc ho eo => ?_
  · have := depth_mem hb
    show X.A.units + 2 + b.depth < cLine
    omega
  · obtain ⟨ys, ry, qy⟩ := of_each eo
    have hn : H p = none := by
      cases q : H p with
      | none => rfl
      | some u =>
        obtain ⟨o, e3⟩ := objOk_there (I.hok p u q)
        rw [hp] at e3; cases e3
    have hy : ys.length ≤ sizeLine := by
      rw [ry.length, ho]; exact hlen
    exact ⟨.ref _, _, I.laidN (t' := s.toks) (a := p) (o := .lst ys) k hp hn ⟨hy, out, c, ry, hc⟩, rfl, fin ys qy _ hn⟩
theorem sort_ok {X : Cx} (hcalm : X.calm = true) (hu : X.A.units + 65 < cLine) : CaD X (.builtin "sorted") sortD := by
  refine ⟨_, (sortData_ok hu).or ((sortDataT_ok hu).or (call_sortedDI hcalm)), fun P σ G H vs ds Q s hv h => ?_⟩
  unfold sortD at h
  split at h
  · split at h
    · rename_i l c
      obtain ⟨v, rfl, hx⟩ := drs1 hv
      obtain ⟨a, ws, rfl, ga, qa⟩ := dx_list s hx
      obtain ⟨c1, c2⟩ := sortB_eq c.1
      exact .inl ⟨a, ws, l, G, rfl, SqL.of (ga), s, qa, c1, c2, c.2.1, c.2.2, fun ys qy => new_lst h s qy⟩
    · exact h.elim
  · split at h
    · rename_i l c
      obtain ⟨v, rfl, hx⟩ := drs1 hv
      obtain ⟨a, ws, rfl, ga, qa⟩ := dx_tup hx
      obtain ⟨c1, c2⟩ := sortB_eq c.1
      exact .inr (.inl ⟨a, ws, l, G, rfl, SqT.of (s _ _ ga), s, qa, c1, c2, c.2.1, c.2.2, fun ys qy => new_lst h s qy⟩)
    · exact h.elim
  · split at h
    · rename_i ns e
      split at h
      · rename_i c
        obtain ⟨v, rfl, hx⟩ := drs1 hv
        obtain ⟨a, ks, rfl, ga, qa⟩ := dx_dk s hx
        refine .inr (.inr ⟨a, ks, ns, rfl, ga, keysI_eq qa e, c, fun ys p h1 h2 hp => ?_⟩)
        rw [sortI_eq h1 h2]
        exact new_lst h s (dqAll_ofInts _) p hp
      · exact h.elim
    · exact h.elim
  · exact h.elim
theorem list_ok {X : Cx} : CaD X (.type "list") listD := by
  refine ⟨_, call_list_of, fun P σ G H vs ds Q s hv h => ?_⟩
  unfold listD at h
  split at h
  · obtain ⟨v, rfl, hx⟩ := drs1 hv
    obtain ⟨a, ws, rfl, ga, qa⟩ := dx_list s hx
    exact ⟨a, ws, rfl, .inl (SqL.of (ga)), new_lst h s qa⟩
  · obtain ⟨v, rfl, hx⟩ := drs1 hv
    obtain ⟨a, ws, rfl, ga, qa⟩ := dx_tup hx
    exact ⟨a, ws, rfl, .inr (SqT.of (s _ _ ga)), new_lst h s qa⟩
  · exact h.elim
theorem tup_ok {X : Cx} : CaD X (.type "tuple") tupD := by
  refine ⟨_, call_tuple_of, fun P σ G H vs ds Q s hv h => ?_⟩
  unfold tupD at h
  split at h
  · obtain ⟨v, rfl, hx⟩ := drs1 hv
    obtain ⟨a, ws, rfl, ga, qa⟩ := dx_list s hx
    exact ⟨a, ws, rfl, .inl ⟨SqL.of (ga), new_tup h s qa⟩⟩
  · obtain ⟨v, rfl, hx⟩ := drs1 hv
    obtain ⟨a, ws, rfl, ga, qa⟩ := dx_tup hx
    exact ⟨a, ws, rfl, .inr ⟨SqT.of (s _ _ ga), h.ok s (.dq (.tup ga qa))⟩⟩
  · exact h.elim
theorem str_ok {X : Cx} : CaD X (.type "str") strD := by
  refine ⟨_, call_str_int, fun P σ G H vs ds Q s hv h => ?_⟩
  unfold strD at h
  split at h
  · split at h
    · rename_i i c
      obtain ⟨v, rfl, hx⟩ := drs1 hv
      refine ⟨i, by rw [dx_int hx], ?_, h.ok s (drS _)⟩
      have h1 : i.natAbs < 2 ^ 20 := Nat.lt_trans c (by decide)
      by_cases h0 : i.natAbs = 0
      · rw [h0]; decide
      · exact Nat.lt_trans ((Nat.log2_lt h0).mpr h1) (by decide)
    · exact h.elim
  · exact h.elim
theorem int_ok {X : Cx} : CaD X (.type "int") intD := by
  refine ⟨_, call_int_str, fun P σ G H vs ds Q s hv h => ?_⟩
  unfold intD at h
  split at h
  · split at h
    · split at h
      · rename_i z n e c
        obtain ⟨v, rfl, hx⟩ := drs1 hv
        exact ⟨_, n, by rw [dx_str hx], e, c, h.ok s (drI _)⟩
      · exact h.elim
    · exact h.elim
  · exact h.elim
/-- dict of a list of pairs, the keys tuples -/
theorem pairsT_eq {K : PySem.W.Frag} {G H : Hp} (s : Same G H) : ∀ {l : List PyData} {ws : List V} {kvs : List (PyData × PyData)}, DqAll K G ws l → pairsT l = some kvs →
    ∃ (ps : List Addr) (ks : List (List Key × V)), ws = ps.map V.ref ∧ Paired (fun p kv => ∃ b, SqT K H p [.ref b, kv.2] ∧ H b = some (.tup (kv.1.map kV))) ps ks ∧ TD K G ks kvs
  | [], ws, kvs, q, e => by
    cases q
    cases e
    exact ⟨[], [], rfl, .nil, .nil⟩
  | d :: r, ws, kvs, q, e => by
    unfold pairsT at e
    split at e
    · rename_i h; cases h
    · rename_i ds v r' h
      cases h
      split at e
      · rename_i kk t e1 e2
        cases e
        cases q with
        | cons q1 q2 =>
          obtain ⟨ps, ks, rfl, hp, hk⟩ := pairsT_eq s q2 e2
          cases q1 with
          | tup ga qa =>
            rename_i a vs
            cases qa with
            | cons x1 t1 =>
              cases t1 with
              | cons x2 t2 =>
                cases t2
                cases x1 with
                | tup gb qb =>
                  rename_i y b us
                  have ek := keysOf_eq e1
                  subst ek
                  have eu := dqAll_keys qb
                  subst eu
                  exact ⟨a :: ps, (kk, y) :: ks, rfl, .cons ⟨b, SqT.of (s _ _ ga), s _ _ gb⟩ hp, .cons ⟨rfl, x2⟩ hk⟩
      · cases e
    · cases e
theorem td_merge {K : PySem.W.Frag} {G : Hp} : ∀ {ks : List (List Key × V)} {kvs : List (PyData × PyData)} {acc : List (List Key × V)} {ad : List (PyData × PyData)}, TD K G ks kvs → TD K G acc ad → TD K G (mergeT acc ks) (kvs.foldl (fun r p => dput r p.1 p.2) ad)
  | _, _, acc, ad, .nil, h => h
  | p :: ks, q :: kvs, acc, ad, .cons h t, h2 => by
    obtain ⟨e, hv⟩ := h
    have := pd_put (enc := fun k : List Key => .tuple (k.map kD)) eqv_kTD p.1 hv h2
    rw [← e] at this
    show TD K G (mergeT (putK acc p.1 p.2) ks) (kvs.foldl (fun r p => dput r p.1 p.2) (dput ad q.1 q.2))
    exact td_merge t this
theorem dict_ok {X : Cx} (hc : X.calm = true) (hu : X.A.units + 65 < cLine) : CaD X (.type "dict") dictD := by
  refine ⟨_, dictT_ok hc (by omega), fun P σ G H vs ds Q s hv h => ?_⟩
  unfold dictD at h
  split at h
  · split at h
    · rename_i l kvs e
      obtain ⟨v, rfl, hx⟩ := drs1 hv
      obtain ⟨a, ws, rfl, ga, qa⟩ := dx_list s hx
      obtain ⟨ps, ks, rfl, hp, hk⟩ := pairsT_eq s qa e
      refine ⟨a, ps, ks, rfl, SqL.of ga, hp, fun p hn => ?_⟩
      have td := td_merge hk (acc := []) (ad := []) .nil
      exact h (.ref p) (upd G p (.dT (mergeT [] ks))) _ (Ex2.new _ s hn) (.dc upd_same (.inr ⟨_, _, rfl, .inl rfl, Paired.mapP td fun _ _ q => ⟨q.1, dq_same (same_upd (s.free hn)) _ _ q.2⟩⟩))
    · exact h.elim
  · exact h.elim
/-- which value a built-in's name holds -/
def biV : Bi → Value
  | .abs => .builtin "abs"
  | .max => .builtin "max"
  | .min => .builtin "min"
  | .len => .builtin "len"
  | .all => .builtin "all"
  | .any => .builtin "any"
  | .sum => .builtin "sum"
  | .sorted => .builtin "sorted"
  | .list => .type "list"
  | .tuple => .type "tuple"
  | .str => .type "str"
  | .int => .type "int"
  | .dict => .type "dict"
def biN : Bi → Str
  | .abs => "abs"
  | .max => "max"
  | .min => "min"
  | .len => "len"
  | .all => "all"
  | .any => "any"
  | .sum => "sum"
  | .sorted => "sorted"
  | .list => "list"
  | .tuple => "tuple"
  | .str => "str"
  | .int => "int"
  | .dict => "dict"
theorem bi_ok {X : Cx} (hc : X.calm = true) (hu : X.A.units + 65 < cLine) (b : Bi) : CaD X (biV b) (biD b) := by
  cases b with
  | abs => exact abs_ok
  | max => exact max_ok hc
  | min => exact min_ok hc hu
  | len => exact len_ok
  | all => exact all_ok hc
  | any => exact any_ok hc
  | sum => exact sum_ok hc
  | sorted => exact sort_ok hc hu
  | list => exact list_ok
  | tuple => exact tup_ok
  | str => exact str_ok
  | int => exact int_ok
  | dict => exact dict_ok hc hu
theorem bi_boot (b : Bi) : bootBuiltins (biN b) = some (biV b) := by cases b <;> decide +kernel
inductive Mt where
  | lindex | tindex | lcount | split | join | partition
  deriving DecidableEq
def recvB : Mt → PyData → Bool
  | .lindex, .list _ => true
  | .lcount, .list _ => true
  | .tindex, .dict [(.none, .tuple _)] => true
  | .split, .str _ => true
  | .join, .str _ => true
  | .partition, .str _ => true
  | _, _ => false
def lindexD : PyData → List PyData → Res PyData
  | .list l, [k] => if SeqAt.shaped (.list l) && SeqAt.shaped k then match l.findIdx? (fun z => PyData.eqv z k) with
      | some j => .ok (.int j)
      | none => .stuck
    else .stuck
  | _, _ => .stuck
def tindexD : PyData → List PyData → Res PyData
  | .dict [(.none, .tuple l)], [.str z] => match strsOf l with
    | some ys => match ys.findIdx? (fun y => y == z) with
      | some j => .ok (.int j)
      | none => .stuck
    | none => .stuck
  | _, _ => .stuck
def lcountD : PyData → List PyData → Res PyData
  | .list l, [.bool b] => match blsOf l with
    | some bs => .ok (.int ((bs.countP fun y => decide (y = b) : Nat) : Int))
    | none => .stuck
  | _, _ => .stuck
def splitD : PyData → List PyData → Res PyData
  | .str a, [.str b] => if (b.length == 0) = false ∧ a.length + 2 ≤ sizeLine then .ok (.list ((Txt.split a b).map .str)) else .stuck
  | _, _ => .stuck
def joinD : PyData → List PyData → Res PyData
  | .str a, [.list l] => match strsOf l with
    | some ys => if (ys.map (·.length)).sum + ys.length * a.length ≤ 16777216 then .ok (.str (Txt.join a ys)) else .stuck
    | none => .stuck
  | _, _ => .stuck
def partD : PyData → List PyData → Res PyData
  | .str a, [.str b] => if (b.length == 0) = false ∧ a.length ≤ sizeLine then .ok (.tuple [.str (Txt.partition a b).1, .str (Txt.partition a b).2.1, .str (Txt.partition a b).2.2]) else .stuck
  | _, _ => .stuck
def mtD : Mt → PyData → List PyData → Res PyData
  | .lindex => lindexD
  | .tindex => tindexD
  | .lcount => lcountD
  | .split => splitD
  | .join => joinD
  | .partition => partD
def mtT : Mt → String
  | .lindex => "list"
  | .tindex => "tuple"
  | .lcount => "list"
  | .split => "str"
  | .join => "str"
  | .partition => "str"
def mtI : Mt → String
  | .lindex => "list.index"
  | .tindex => "tuple.index"
  | .lcount => "list.count"
  | .split => "str.split"
  | .join => "str.join"
  | .partition => "str.partition"
def mtN : Mt → Str
  | .lindex => "index"
  | .tindex => "index"
  | .lcount => "count"
  | .split => "split"
  | .join => "join"
  | .partition => "partition"
theorem recv_ok {m : Mt} {d : PyData} (hr : recvB m d = true) (s : Same G H) (hx : DX K G H x d) : tyV K (mtT m) x H := by
  unfold recvB at hr
  split at hr
  · obtain ⟨a, ws, rfl, ga, _⟩ := dx_list s hx
    exact .inl ⟨rfl, ws, SqL.of (ga)⟩
  · obtain ⟨a, ws, rfl, ga, _⟩ := dx_list s hx
    exact .inl ⟨rfl, ws, SqL.of (ga)⟩
  · obtain ⟨a, ws, rfl, _, _, o, h1, h2, h3⟩ := dx_kst hx
    exact .inr (.inl ⟨rfl, o, h1, h2, h3⟩)
  · rw [dx_str hx]; rfl
  · rw [dx_str hx]; rfl
  · rw [dx_str hx]; rfl
  · cases hr
def MeD (X : Cx) (id : String) (g : PyData → List PyData → Res PyData) : Prop :=
  ∃ r, MtR X id r ∧ ∀ (P : Pm) (σ : L2.St) (G H : Hp) (x : V) (vs : List V) (d : PyData) (ds : List PyData) (Q : VK), Same G H → DX X.K G H x d → DXs X.K G H vs ds → Pst P (DRr X.K) σ G H (g d ds) Q → r x vs H Q
theorem lindex_ok {X : Cx} (hu : X.A.units + 65 < cLine) : MeD X "list.index" lindexD := by
  refine ⟨_, mt_indexD hu, fun P σ G H x vs d ds Q s hx hv h => ?_⟩
  unfold lindexD at h
  split at h
  · split at h
    · rename_i l k c
      rw [Bool.and_eq_true] at c
      split at h
      · rename_i j e
        obtain ⟨v, rfl, hk⟩ := drs1 hv
        obtain ⟨a, ws, rfl, ga, qa⟩ := dx_list s hx
        rw [List.findIdx?_eq_some_iff_getElem] at e
        obtain ⟨hj, h1, h2⟩ := e
        refine ⟨a, v, k, l, j, l[j], rfl, rfl, dx_dp s hx c.1, dx_dp s hk c.2, c.1, c.2, List.getElem?_eq_getElem hj, h1, fun m z hm hz => ?_, h.ok s (drI _)⟩
        have := h2 m hm
        obtain ⟨hm', rfl⟩ := List.getElem?_eq_some_iff.mp hz
        simpa using this
      · exact h.elim
    · exact h.elim
  · exact h.elim
theorem tindex_ok {X : Cx} : MeD X "tuple.index" tindexD := by
  refine ⟨_, mt_tup_index, fun P σ G H x vs d ds Q s hx hv h => ?_⟩
  unfold tindexD at h
  split at h
  · split at h
    · rename_i l z _ ys e0
      split at h
      · rename_i j e
        obtain ⟨v, rfl, hk⟩ := drs1 hv
        obtain ⟨a, ws, rfl, ga, qa, _⟩ := dx_kst hx
        rw [strsOf_eq e0] at qa
        rw [dqAll_strs qa] at ga
        rw [List.findIdx?_eq_some_iff_getElem] at e
        obtain ⟨hj, h1, h2⟩ := e
        refine ⟨a, ys, z, j, rfl, by rw [dx_str hk], sqT_same s ga, ?_, fun m hm hz => ?_, h.ok s (drI _)⟩
        · rw [List.getElem?_eq_getElem hj, beq_iff_eq.mp h1]
        · have := h2 m hm
          obtain ⟨hm', e⟩ := List.getElem?_eq_some_iff.mp hz
          rw [e] at this
          simp at this
      · exact h.elim
    · exact h.elim
  · exact h.elim
def rCntB (K : PySem.W.Frag) : V → List V → Hp → VK → Prop := fun x xs H Q => ∃ (a : Addr) (bs : List Bool) (b : Bool), x = .ref a ∧ xs = [.bl b] ∧ SqL K H a (bs.map V.bl) ∧ Q (.int ((bs.countP fun y => decide (y = b) : Nat) : Int)) H
theorem cnt_ok {X : Cx} (hu : X.A.units + 65 < cLine) : MtR X "list.count" (rCntB X.K) := by
  intro pins s σ H x xs v us Q I rx rs hq
  obtain ⟨a, bs, b, rfl, rfl, hl, fin⟩ := hq
  cases rx
  obtain ⟨u, rfl, ru⟩ := vals1 rs
  cases ru
  obtain ⟨its, ri, pl, _⟩ := I.list hl
  have ei : its = bs.map Value.bool := Vals.bls ri
  have hold : ∀ l : List Bool, PySem.W.HoldAll s.heap (l.map Value.bool) l := fun l => by
    induction l with
    | nil => exact PySem.W.HoldAll.nil
    | cons c l ih => exact PySem.W.HoldAll.cons ⟨_, Reads.bool c⟩ ih
  refine PySem.W.count_list_datum (xs := bs) (x := b) pl.isList (by rw [ei]; exact hold bs) ⟨_, Reads.bool b⟩ (by show X.A.units + 1 + 0 < cLine; omega) ?_
  exact ⟨.int _, H, I.tok _, ⟨_, rfl⟩, fin⟩
theorem lcount_ok {X : Cx} (hu : X.A.units + 65 < cLine) : MeD X "list.count" lcountD := by
  refine ⟨_, cnt_ok hu, fun P σ G H x vs d ds Q s hx hv h => ?_⟩
  unfold lcountD at h
  split at h
  · split at h
    · rename_i l b _ bs e
      obtain ⟨v, rfl, hk⟩ := drs1 hv
      obtain ⟨a, ws, rfl, ga, qa⟩ := dx_list s hx
      rw [blsOf_eq e] at qa
      rw [dqAll_bls qa] at ga
      exact ⟨a, bs, b, rfl, by rw [dx_bl hk], SqL.of (ga), h.ok s (drI _)⟩
    · exact h.elim
  · exact h.elim
theorem split_ok {X : Cx} : MeD X "str.split" splitD := by
  refine ⟨_, mt_split, fun P σ G H x vs d ds Q s hx hv h => ?_⟩
  unfold splitD at h
  split at h
  · split at h
    · rename_i c
      obtain ⟨v, rfl, hk⟩ := drs1 hv
      exact ⟨_, _, dx_str hx, by rw [dx_str hk], c.1, c.2, new_lst h s (dqAll_ofStrs _)⟩
    · exact h.elim
  · exact h.elim
theorem join_ok {X : Cx} : MeD X "str.join" joinD := by
  refine ⟨_, mt_join, fun P σ G H x vs d ds Q s hx hv h => ?_⟩
  unfold joinD at h
  split at h
  · split at h
    · split at h
      · rename_i l _ ys e c
        obtain ⟨v, rfl, hk⟩ := drs1 hv
        obtain ⟨a, ws, rfl, ga, qa⟩ := dx_list s hk
        rw [strsOf_eq e] at qa
        rw [dqAll_strs qa] at ga
        exact ⟨_, a, ys, dx_str hx, rfl, .inl (SqL.of (ga)), c, h.ok s (drS _)⟩
      · exact h.elim
    · exact h.elim
  · exact h.elim
theorem part_ok {X : Cx} : MeD X "str.partition" partD := by
  refine ⟨_, mt_partition, fun P σ G H x vs d ds Q s hx hv h => ?_⟩
  unfold partD at h
  split at h
  · split at h
    · rename_i c
      obtain ⟨v, rfl, hk⟩ := drs1 hv
      exact ⟨_, _, dx_str hx, by rw [dx_str hk], c.1, c.2, new_tup h s (.cons (.str _) (.cons (.str _) (.cons (.str _) .nil)))⟩
    · exact h.elim
  · exact h.elim
theorem mt_ok {X : Cx} (hu : X.A.units + 65 < cLine) (m : Mt) : MeD X (mtI m) (mtD m) := by
  cases m with
  | lindex => exact lindex_ok hu
  | tindex => exact tindex_ok
  | lcount => exact lcount_ok hu
  | split => exact split_ok
  | join => exact join_ok
  | partition => exact part_ok
end
end Bv
set_option Elab.async false
set_option linter.all false
set_option maxRecDepth 100000
set_option maxHeartbeats 1000000
namespace Bv
open PySem PySem.Spec L2
/-- a slot's value -/
def gv (ρ : Rho) (i : Nat) : Res PyData := match ρ[i]? with
  | some (some d) => .ok d
  | _ => .stuck
def toB : PyData → Res Bool
  | .bool b => .ok b
  | _ => .stuck
def tupM (ds : List PyData) : Res PyData := if ds.all nodict && decide (ds.length ≤ 1000) then .ok (.tuple ds) else .stuck
def lstM (ds : List PyData) : Res PyData := if ds.all nodict && decide (ds.length ≤ 1000) then .ok (.list ds) else .stuck
section
variable {X : Cx} {P : Pm} {own : List Nat} {a b c e : Expr} {es : List Expr} {pos : Pos} {fa fb fc f : Rho → Res PyData} {fs : Rho → Res (List PyData)} {ft fu : Rho → Res Bool}
abbrev EX (X : Cx) (P : Pm) (own : List Nat) (e : Expr) (f : Rho → Res PyData) : Prop := PE X e (tX X.K P own f)
abbrev EV (X : Cx) (P : Pm) (own : List Nat) (e : Expr) (f : Rho → Res PyData) : Prop := PE X e (tD X.K P own f)
abbrev TV (X : Cx) (P : Pm) (own : List Nat) (e : Expr) (f : Rho → Res Bool) : Prop := PT X e (tBl X.K P own f)
abbrev TW (X : Cx) (P : Pm) (own : List Nat) (e : Expr) (f : Rho → Res Bool) : Prop := PW X e (tBl X.K P own f)
abbrev AX (X : Cx) (P : Pm) (own : List Nat) (es : List Expr) (f : Rho → Res (List PyData)) : Prop := PA X es (tXs X.K P own f)
abbrev AV (X : Cx) (P : Pm) (own : List Nat) (es : List Expr) (f : Rho → Res (List PyData)) : Prop := PA X es (tDs X.K P own f)
theorem tG_rel {α β : Type} {K : PySem.W.Frag} {R R' : Hp → Hp → β → α → Prop} {f : Rho → Res α} (h : ∀ G H b a, Same G H → R' G H b a → R G H b a) {σ : L2.St} {H : Hp} {Q : β → Hp → Prop} (t : tG K P own R f σ H Q) : tG K P own R' f σ H Q := by
  obtain ⟨ρ, G, al, rl, p⟩ := t
  refine ⟨ρ, G, al, rl, ?_⟩
  cases q : f ρ with
  | ok d => rw [q] at p; exact fun b G' H' x r => p b G' H' x (h _ _ _ _ x.s r)
  | exc c => rw [q] at p; exact p
  | stuck => rw [q] at p; exact p
theorem EV.x (h : EV X P own e f) : EX X P own e f := PE.weak h fun _ _ _ t => tG_rel (fun _ _ _ _ _ r => .dr r) t
theorem drs_dxs {K : PySem.W.Frag} {G H : Hp} : ∀ {vs : List V} {ds : List PyData}, DRs K G vs ds → DXs K G H vs ds
  | _, _, .nil => .nil
  | _, _, .cons h t => .cons (.dr h) (drs_dxs t)
theorem AV.x (h : AV X P own es fs) : AX X P own es fs := PA.weak h fun _ _ _ t => tG_rel (fun _ _ _ _ _ r => drs_dxs r) t
theorem ev_var {i : Nat} {x : Str} (hN : X.N[i]? = some x) (hv : Vis X.env.scope x) (ho : i ∉ own) (hd : (x == ("__debug__" : Str)) = false) (hcd : (x == ("__classdict__" : Str)) = false) : EV X P own (.Name x pos) (fun ρ => gv ρ i) := by
  refine PE.weak (pe_var hN hv hd hcd) fun σ H Q ⟨ρ, G, al, rl, h⟩ => ?_
  (try dsimp only at h)
  unfold gv at h
  split at h
  · rename_i d q
    obtain ⟨v, e1, r⟩ := rl.sh i d q ho
    exact ⟨v, e1, h.ok rl.sub r⟩
  · exact h.elim
theorem ex_var {i : Nat} {x : Str} (hN : X.N[i]? = some x) (hv : Vis X.env.scope x) (hd : (x == ("__debug__" : Str)) = false) (hcd : (x == ("__classdict__" : Str)) = false) : EX X P own (.Name x pos) (fun ρ => gv ρ i) := by
  by_cases ho : i ∈ own
  · refine PE.weak (pe_var hN hv hd hcd) fun σ H Q ⟨ρ, G, al, rl, h⟩ => ?_
    (try dsimp only at h)
    unfold gv at h
    split at h
    · rename_i d q
      obtain ⟨e1, g, o⟩ := rl.ow i d q ho
      refine ⟨_, e1, h.ok rl.sub ?_⟩
      cases d with
      | list ds => obtain ⟨vs, h1, h2⟩ := o; exact .ls h1 h2
      | dict kvs => obtain ⟨u, h1, h2⟩ := o; exact .dc h1 h2.rd
      | _ => exact False.elim o
    · exact h.elim
  · exact EV.x (ev_var hN hv ho hd hcd)
theorem ev_const {t : TE} {v : V} {d : PyData} (h : PE X e (tC v)) (r : ∀ G, DR X.K G v d) : EV X P own e (fun _ => .ok d) := PE.weak h fun σ H Q ⟨ρ, G, al, rl, p⟩ => p.ok rl.sub (r G)
theorem ev_int {i : Int} {j : Nat} : EV X P own (.Constant (.int i) j pos) (fun _ => .ok (.int i)) := ev_const (t := tC .non) pe_int fun _ => drI i
theorem ev_bl {i : Bool} {j : Nat} : EV X P own (.Constant (.bool i) j pos) (fun _ => .ok (.bool i)) := ev_const (t := tC .non) pe_bl fun _ => drB i
theorem ev_str {i : Str} {j : Nat} : EV X P own (.Constant (.str i) j pos) (fun _ => .ok (.str i)) := ev_const (t := tC .non) pe_str fun _ => drS i
theorem ev_non {j : Nat} : EV X P own (.Constant .none j pos) (fun _ => .ok .none) := ev_const (t := tC .non) pe_non fun _ => drN
theorem ev_bin {op : Operator} {g : PyData → PyData → Res PyData} (ho : OpD X (binaryOp op) g) (ha : EX X P own a fa) (hb : EX X P own b fb) : EV X P own (.BinOp a op b pos) (fun ρ => (fa ρ).bind fun d => (fb ρ).bind fun e => g d e) := by
  obtain ⟨r, hr, hg⟩ := ho
  refine PE.weak (pe_op hr ha hb) fun σ H Q ⟨ρ, G, al, rl, h⟩ => ?_
  (try dsimp only at h)
  refine ⟨ρ, G, al, rl, h.bind fun d x G1 H1 e1 hx h1 => ⟨ρ, G1, al, rl.mono e1, h1.bind fun e y G2 H2 e2 hy h2 => ?_⟩⟩
  exact hg P σ G2 H2 x y d e Q e2.s (dx_mono e2 hx) hy h2
theorem ev_neg (ha : EX X P own a fa) : EV X P own (.UnaryOp .USub a pos) (fun ρ => (fa ρ).bind negD) := by
  refine PE.weak (pe_un un_neg ha) fun σ H Q ⟨ρ, G, al, rl, h⟩ => ?_
  (try dsimp only at h)
  refine ⟨ρ, G, al, rl, h.bind fun d x G1 H1 e1 hx h1 => ?_⟩
  unfold negD at h1
  split at h1
  · exact ⟨_, dx_int hx, h1.ok e1.s (drI _)⟩
  · exact h1.elim
theorem ev_cmp {op : CmpOp} {g : PyData → PyData → Res PyData} (ho : OpD X (compareOp op) g) (ha : EX X P own a fa) (hb : EX X P own b fb) (hm : behindInMarks op b = false) : EV X P own (.Compare a [op] [b] pos) (fun ρ => (fa ρ).bind fun d => (fb ρ).bind fun e => g d e) := by
  obtain ⟨r, hr, hg⟩ := ho
  refine PE.weak (pe_cmpR hr ha hb hm) fun σ H Q ⟨ρ, G, al, rl, h⟩ => ?_
  (try dsimp only at h)
  refine ⟨ρ, G, al, rl, h.bind fun d x G1 H1 e1 hx h1 => ⟨ρ, G1, al, rl.mono e1, h1.bind fun e y G2 H2 e2 hy h2 => ?_⟩⟩
  exact hg P σ G2 H2 x y d e Q e2.s (dx_mono e2 hx) hy h2
/-- a test's end -/
theorem pst_test {K : PySem.W.Frag} {σ : L2.St} {G H : Hp} {r : Res PyData} {Q : Bool → Hp → Prop} (h : Pst P (fun _ _ (b : Bool) (a : Bool) => b = a) σ G H (r.bind toB) Q) : Pst P (DRr K) σ G H r (fun z H' => ∃ k, z = .bl k ∧ Q k H') := by
  refine h.bind fun d x G1 H1 e1 hx h1 => ?_
  unfold toB at h1
  split at h1
  · exact ⟨_, dr_bl hx, h1.ok e1.s rfl⟩
  · exact h1.elim
theorem Res.bind_assoc {α β γ : Type} (r : Res α) (k : α → Res β) (l : β → Res γ) : (r.bind k).bind l = r.bind fun a => (k a).bind l := by cases r <;> rfl
theorem tv_cmp {op : CmpOp} {g : PyData → PyData → Res PyData} (ho : OpD X (compareOp op) g) (ha : EX X P own a fa) (hb : EX X P own b fb) (hm : behindInMarks op b = false) : TV X P own (.Compare a [op] [b] pos) (fun ρ => ((fa ρ).bind fun d => (fb ρ).bind fun e => g d e).bind toB) := by
  obtain ⟨r, hr, hg⟩ := ho
  refine PT.weak (pt_cmpR hr ha hb hm) fun σ H Q ⟨ρ, G, al, rl, h⟩ => ?_
  (try dsimp only at h)
  rw [Res.bind_assoc] at h
  refine ⟨ρ, G, al, rl, h.bind fun d x G1 H1 e1 hx h1 => ⟨ρ, G1, al, rl.mono e1, ?_⟩⟩
  rw [Res.bind_assoc] at h1
  refine h1.bind fun e y G2 H2 e2 hy h2 => ?_
  exact hg P σ G2 H2 x y d e _ e2.s (dx_mono e2 hx) hy (pst_test h2)
theorem ev_chain {op op' : CmpOp} {g g' : PyData → PyData → Res PyData} (ho : OpD X (compareOp op) g) (ho' : OpD X (compareOp op') g') (ha : EX X P own a fa) (hb : EX X P own b fb) (hc : EX X P own c fc) (hm : lastMarks [op, op'] [b, c] = false) :
    EV X P own (.Compare a [op, op'] [b, c] pos) (fun ρ => (fa ρ).bind fun d => (fb ρ).bind fun e => ((g d e).bind toB).bind fun k => if k then (fc ρ).bind fun u => g' e u else .ok (.bool false)) := by
  obtain ⟨r, hr, hg⟩ := ho
  obtain ⟨r', hr', hg'⟩ := ho'
  refine PE.weak (pe_chain hr hr' ha hb hc hm) fun σ H Q ⟨ρ, G, al, rl, h⟩ => ?_
  (try dsimp only at h)
  refine ⟨ρ, G, al, rl, h.bind fun d x G1 H1 e1 hx h1 => ⟨ρ, G1, al, rl.mono e1, h1.bind fun e y G2 H2 e2 hy h2 => ?_⟩⟩
  rw [Res.bind_assoc] at h2
  refine hg P σ G2 H2 x y d e _ e2.s (dx_mono e2 hx) hy (h2.bind fun q z G3 H3 e3 hz h3 => ?_)
  unfold toB at h3
  split at h3
  · rename_i k
    refine ⟨k, dr_bl hz, ?_⟩
    cases k with
    | false => exact h3.ok e3.s (drB false)
    | true =>
      refine ⟨ρ, G3, al, (rl.mono e1).mono (e2.trans e3), Pst.bind (show Pst P _ _ _ _ ((fc ρ).bind fun u => g' e u) Q from h3) fun u w G4 H4 e4 hw h4 => ?_⟩
      exact hg' P σ G4 H4 y w e u Q e4.s (dx_mono (e3.trans e4) hy) hw h4
  · exact h3.elim
theorem tv_chain {op op' : CmpOp} {g g' : PyData → PyData → Res PyData} (ho : OpD X (compareOp op) g) (ho' : OpD X (compareOp op') g') (ha : EX X P own a fa) (hb : EX X P own b fb) (hc : EX X P own c fc) (hm : lastMarks [op, op'] [b, c] = false) :
    TV X P own (.Compare a [op, op'] [b, c] pos) (fun ρ => ((fa ρ).bind fun d => (fb ρ).bind fun e => ((g d e).bind toB).bind fun k => if k then (fc ρ).bind fun u => g' e u else .ok (.bool false)).bind toB) := by
  obtain ⟨r, hr, hg⟩ := ho
  obtain ⟨r', hr', hg'⟩ := ho'
  refine PT.weak (pt_chain hr hr' ha hb hc hm) fun σ H Q ⟨ρ, G, al, rl, h⟩ => ?_
  (try dsimp only at h)
  rw [Res.bind_assoc] at h
  refine ⟨ρ, G, al, rl, h.bind fun d x G1 H1 e1 hx h1 => ?_⟩
  rw [Res.bind_assoc] at h1
  refine ⟨ρ, G1, al, rl.mono e1, h1.bind fun e y G2 H2 e2 hy h2 => ?_⟩
  rw [Res.bind_assoc, Res.bind_assoc] at h2
  refine hg P σ G2 H2 x y d e _ e2.s (dx_mono e2 hx) hy (h2.bind fun q z G3 H3 e3 hz h3 => ?_)
  unfold toB at h3
  split at h3
  · rename_i k
    refine ⟨k, dr_bl hz, ?_⟩
    cases k with
    | false => exact ⟨false, rfl, h3.ok e3.s rfl⟩
    | true =>
      replace h3 : Pst P _ σ G3 H3 (((fc ρ).bind fun u => g' e u).bind toB) Q := h3
      rw [Res.bind_assoc] at h3
      refine ⟨ρ, G3, al, (rl.mono e1).mono (e2.trans e3), h3.bind fun u w G4 H4 e4 hw h4 => ?_⟩
      exact hg' P σ G4 H4 y w e u _ e4.s (dx_mono (e3.trans e4) hy) hw (pst_test h4)
  · exact h3.elim
/-- an expression as a test -/
theorem tv_val (h : EV X P own e f) (he : ∀ whole, isTrue e X.env whole = (do let v ← whole; standAt e.pos; holding [v] (truthy v))) : TV X P own e (fun ρ => (f ρ).bind toB) :=
  PT.weak (pt_val h he) fun σ H Q ⟨ρ, G, al, rl, p⟩ => ⟨ρ, G, al, rl, pst_test p⟩
theorem ev_one {op : BoolOp} (h : EV X P own a f) : EV X P own (.BoolOp op [a] pos) f := pe_one h
theorem ev_and {rest : List Expr} (ha : EV X P own a fa) (hb : EV X P own (.BoolOp .And (b :: rest) pos) fb) : EV X P own (.BoolOp .And (a :: b :: rest) pos) (fun ρ => ((fa ρ).bind toB).bind fun k => if k then fb ρ else .ok (.bool false)) := by
  refine PE.weak (pe_and ha hb) fun σ H Q ⟨ρ, G, al, rl, h⟩ => ?_
  (try dsimp only at h)
  rw [Res.bind_assoc] at h
  refine ⟨ρ, G, al, rl, h.bind fun d x G1 H1 e1 hx h1 => ?_⟩
  unfold toB at h1
  split at h1
  · rename_i k
    refine ⟨k, dr_bl hx, ?_⟩
    cases k with
    | false => exact h1.ok e1.s (drB false)
    | true => exact ⟨ρ, G1, al, rl.mono e1, h1⟩
  · exact h1.elim
theorem ev_or {rest : List Expr} (ha : EV X P own a fa) (hb : EV X P own (.BoolOp .Or (b :: rest) pos) fb) : EV X P own (.BoolOp .Or (a :: b :: rest) pos) (fun ρ => ((fa ρ).bind toB).bind fun k => if k then .ok (.bool true) else fb ρ) := by
  refine PE.weak (pe_or ha hb) fun σ H Q ⟨ρ, G, al, rl, h⟩ => ?_
  (try dsimp only at h)
  rw [Res.bind_assoc] at h
  refine ⟨ρ, G, al, rl, h.bind fun d x G1 H1 e1 hx h1 => ?_⟩
  unfold toB at h1
  split at h1
  · rename_i k
    refine ⟨k, dr_bl hx, ?_⟩
    cases k with
    | true => exact h1.ok e1.s (drB true)
    | false => exact ⟨ρ, G1, al, rl.mono e1, h1⟩
  · exact h1.elim
theorem ev_not (ha : EV X P own a fa) : EV X P own (.UnaryOp .Not a pos) (fun ρ => ((fa ρ).bind toB).bind fun k => .ok (.bool (!k))) := by
  refine PE.weak (pe_not ha) fun σ H Q ⟨ρ, G, al, rl, h⟩ => ?_
  (try dsimp only at h)
  rw [Res.bind_assoc] at h
  refine ⟨ρ, G, al, rl, h.bind fun d x G1 H1 e1 hx h1 => ?_⟩
  unfold toB at h1
  split at h1
  · exact ⟨_, dr_bl hx, h1.ok e1.s (drB _)⟩
  · exact h1.elim
theorem tw_one {op : BoolOp} (h : TV X P own a ft) : TW X P own (.BoolOp op [a] pos) ft := by
  cases op with
  | And => exact pw_and1 h
  | Or => exact pw_or1 h
theorem tw_and {rest : List Expr} (ha : TV X P own a ft) (hb : TW X P own (.BoolOp .And (b :: rest) pos) fu) : TW X P own (.BoolOp .And (a :: b :: rest) pos) (fun ρ => (ft ρ).bind fun k => if k then fu ρ else .ok false) := by
  refine PW.weak (pw_and ha hb) fun σ H Q ⟨ρ, G, al, rl, h⟩ => ?_
  (try dsimp only at h)
  refine ⟨ρ, G, al, rl, h.bind fun d x G1 H1 e1 hx h1 => ?_⟩
  subst hx
  cases x with
  | false => exact h1.ok e1.s rfl
  | true => exact ⟨ρ, G1, al, rl.mono e1, h1⟩
theorem tw_or {rest : List Expr} (ha : TV X P own a ft) (hb : TW X P own (.BoolOp .Or (b :: rest) pos) fu) : TW X P own (.BoolOp .Or (a :: b :: rest) pos) (fun ρ => (ft ρ).bind fun k => if k then .ok true else fu ρ) := by
  refine PW.weak (pw_or ha hb) fun σ H Q ⟨ρ, G, al, rl, h⟩ => ?_
  (try dsimp only at h)
  refine ⟨ρ, G, al, rl, h.bind fun d x G1 H1 e1 hx h1 => ?_⟩
  subst hx
  cases x with
  | true => exact h1.ok e1.s rfl
  | false => exact ⟨ρ, G1, al, rl.mono e1, h1⟩
theorem tv_not (ha : TV X P own a ft) : TV X P own (.UnaryOp .Not a pos) (fun ρ => (ft ρ).bind fun k => .ok (!k)) := by
  refine PT.weak (pt_not ha) fun σ H Q ⟨ρ, G, al, rl, h⟩ => ?_
  (try dsimp only at h)
  refine ⟨ρ, G, al, rl, h.bind fun d x G1 H1 e1 hx h1 => ?_⟩
  subst hx
  exact h1.ok e1.s rfl
theorem ev_ite (hc : TV X P own c ft) (ha : EV X P own a fa) (hb : EV X P own b fb) : EV X P own (.IfExp c a b pos) (fun ρ => (ft ρ).bind fun k => if k then fa ρ else fb ρ) := by
  refine PE.weak (pe_ifExp hc ha hb) fun σ H Q ⟨ρ, G, al, rl, h⟩ => ?_
  (try dsimp only at h)
  refine ⟨ρ, G, al, rl, h.bind fun d x G1 H1 e1 hx h1 => ?_⟩
  subst hx
  cases x with
  | true => exact ⟨ρ, G1, al, rl.mono e1, h1⟩
  | false => exact ⟨ρ, G1, al, rl.mono e1, h1⟩
theorem av_nil : AV X P own [] (fun _ => .ok []) := PA.weak pa_nil fun σ H Q ⟨ρ, G, al, rl, h⟩ => h.ok rl.sub .nil
theorem av_cons (ha : EV X P own a fa) (hb : AV X P own es fs) (hs : starEach (a :: es) X.env = (false, eval a X.env) :: starEach es X.env) : AV X P own (a :: es) (fun ρ => (fa ρ).bind fun d => (fs ρ).bind fun ds => .ok (d :: ds)) := by
  refine PA.weak (pa_cons ha hb hs) fun σ H Q ⟨ρ, G, al, rl, h⟩ => ?_
  (try dsimp only at h)
  refine ⟨ρ, G, al, rl, h.bind fun d x G1 H1 e1 hx h1 => ⟨ρ, G1, al, rl.mono e1, h1.bind fun ds xs G2 H2 e2 hxs h2 => ?_⟩⟩
  exact h2.ok e2.s (.cons (dr_same e2.g hx) hxs)
theorem ax_nil : AX X P own [] (fun _ => .ok []) := av_nil.x
theorem ax_cons (ha : EX X P own a fa) (hb : AX X P own es fs) (hs : starEach (a :: es) X.env = (false, eval a X.env) :: starEach es X.env) : AX X P own (a :: es) (fun ρ => (fa ρ).bind fun d => (fs ρ).bind fun ds => .ok (d :: ds)) := by
  refine PA.weak (pa_cons ha hb hs) fun σ H Q ⟨ρ, G, al, rl, h⟩ => ?_
  (try dsimp only at h)
  refine ⟨ρ, G, al, rl, h.bind fun d x G1 H1 e1 hx h1 => ⟨ρ, G1, al, rl.mono e1, h1.bind fun ds xs G2 H2 e2 hxs h2 => ?_⟩⟩
  exact h2.ok e2.s (.cons (dx_mono e2 hx) hxs)
theorem drs_dq {K : PySem.W.Frag} {G : Hp} : ∀ {vs : List V} {ds : List PyData}, DRs K G vs ds → ds.all nodict = true → DqAll K G vs ds
  | _, _, .nil, _ => .nil
  | _, _, .cons h t, e => by
    rw [List.all_cons, Bool.and_eq_true] at e
    exact .cons (h.data e.1) (drs_dq t e.2)
theorem ev_tup {k : Nat} (h : AV X P own es fs) : EV X P own (.Tuple es k pos) (fun ρ => (fs ρ).bind tupM) := by
  refine PE.weak (pe_tup h) fun σ H Q ⟨ρ, G, al, rl, h⟩ => ?_
  (try dsimp only at h)
  refine ⟨ρ, G, al, rl, h.bind fun ds vs G1 H1 e1 hv h1 => ?_⟩
  unfold tupM at h1
  split at h1
  · rename_i c
    rw [Bool.and_eq_true, decide_eq_true_eq] at c
    have q := drs_dq hv c.1
    refine ⟨?_, new_tup h1 e1.s q⟩
    rw [dqAll_len q, sizeLine_eq]; omega
  · exact h1.elim
theorem ev_lst (h : AV X P own es fs) : EV X P own (.List es pos) (fun ρ => (fs ρ).bind lstM) := by
  refine PE.weak (pe_lst h) fun σ H Q ⟨ρ, G, al, rl, h⟩ => ?_
  (try dsimp only at h)
  refine ⟨ρ, G, al, rl, h.bind fun ds vs G1 H1 e1 hv h1 => ?_⟩
  unfold lstM at h1
  split at h1
  · rename_i c
    rw [Bool.and_eq_true, decide_eq_true_eq] at c
    have q := drs_dq hv c.1
    refine ⟨?_, new_lst h1 e1.s q⟩
    rw [dqAll_len q, sizeLine_eq]; omega
  · exact h1.elim
theorem ev_idx (hu : X.A.units + 1 < cLine) (ha : EX X P own a fa) (hb : EX X P own b fb) (hs : PlainIx b) : EV X P own (.Subscript a b pos) (fun ρ => (fa ρ).bind fun d => (fb ρ).bind fun e => idxD d e) := by
  obtain ⟨r, hr, hg⟩ := idx_ok hu
  refine PE.weak (pe_ix hr ha hb hs) fun σ H Q ⟨ρ, G, al, rl, h⟩ => ?_
  (try dsimp only at h)
  refine ⟨ρ, G, al, rl, h.bind fun d x G1 H1 e1 hx h1 => ⟨ρ, G1, al, rl.mono e1, h1.bind fun e y G2 H2 e2 hy h2 => ?_⟩⟩
  exact hg P σ G2 H2 x y d e Q e2.s (dx_mono e2 hx) hy h2
/-- a slice's part -/
def toI : PyData → Res (Option Int)
  | .int i => .ok (some i)
  | _ => .stuck
abbrev OV (X : Cx) (P : Pm) (own : List Nat) (e : Option Expr) (f : Rho → Res (Option Int)) : Prop := PO X e (tG X.K P own (fun _ _ (b : Option Int) a => b = a) f)
theorem ov_none : OV X P own none (fun _ => .ok none) := by
  refine ⟨fun pins s σ H Q I ⟨ρ, G, al, rl, h⟩ => ?_⟩
  exact po_none.run pins s σ H Q I (h.ok rl.sub rfl)
theorem ov_some (ha : EX X P own a fa) : OV X P own (some a) (fun ρ => (fa ρ).bind toI) := by
  refine ⟨fun pins s σ H Q I ⟨ρ, G, al, rl, h⟩ => ?_⟩
  refine (po_some ha).run pins s σ H Q I ⟨ρ, G, al, rl, h.bind fun d x G1 H1 e1 hx h1 => ?_⟩
  unfold toI at h1
  split at h1
  · exact ⟨_, dx_int hx, h1.ok e1.s rfl⟩
  · exact h1.elim
theorem ev_sli {lo hi : Option Expr} {p2 : Pos} {fl fh : Rho → Res (Option Int)} (ha : EX X P own a fa) (hl : OV X P own lo fl) (hh : OV X P own hi fh) : EV X P own (.Subscript a (.Slice lo hi none p2) pos) (fun ρ => (fa ρ).bind fun d => (fl ρ).bind fun l => (fh ρ).bind fun u => sliD l u d) := by
  obtain ⟨r, hr, hg⟩ := sli_ok (X := X)
  refine PE.weak (pe_slice hr ha hl hh) fun σ H Q ⟨ρ, G, al, rl, h⟩ => ?_
  (try dsimp only at h)
  refine ⟨ρ, G, al, rl, h.bind fun d x G1 H1 e1 hx h1 => ⟨ρ, G1, al, rl.mono e1, h1.bind fun l l' G2 H2 e2 hl' h2 => ⟨ρ, G2, al, (rl.mono e1).mono e2, h2.bind fun u u' G3 H3 e3 hu' h3 => ?_⟩⟩⟩
  subst hl' hu'
  exact hg P σ G3 H3 x l' u' d Q e3.s (dx_mono (e2.trans e3) hx) h3
theorem ev_rev {k : Nat} {p1 p2 p3 : Pos} (ha : EX X P own a fa) : EV X P own (.Subscript a (.Slice none none (some (.UnaryOp .USub (.Constant (.int 1) k p1) p2)) p3) pos) (fun ρ => (fa ρ).bind revD) := by
  refine PE.weak (pe_revL ha) fun σ H Q ⟨ρ, G, al, rl, h⟩ => ?_
  (try dsimp only at h)
  refine ⟨ρ, G, al, rl, h.bind fun d x G1 H1 e1 hx h1 => ?_⟩
  unfold revD at h1
  split at h1
  · obtain ⟨p, vs, rfl, ga, qa⟩ := dx_list e1.s hx
    exact ⟨p, vs, rfl, SqL.of ga, new_lst h1 e1.s (dqAll_rev qa)⟩
  · exact h1.elim
end
end Bv
set_option Elab.async false
set_option linter.all false
set_option maxRecDepth 100000
set_option maxHeartbeats 1000000
namespace Bv
open PySem PySem.Spec L2
/-- a def's promise: what its function on data gives -/
def spF (K : PySem.W.Frag) (ea : Str → Addr) (φ : List PyData → Res PyData) : Sp := fun vs H Q E =>
  ∃ ds G, Same G H ∧ DRs K G vs ds ∧ Pst ⟨fun cls d _ H => E cls d H, ea⟩ (DRr K) [] G H (φ ds) Q
def noexc {α : Type} : Res α → Res α
  | .exc _ => .stuck
  | r => r
inductive Ty where
  | int | bool | tuple | str | list
  deriving DecidableEq
def tyS : Ty → String
  | .int => "int"
  | .bool => "bool"
  | .tuple => "tuple"
  | .str => "str"
  | .list => "list"
def tyN : Ty → Str
  | .int => "int"
  | .bool => "bool"
  | .tuple => "tuple"
  | .str => "str"
  | .list => "list"
def isiD (t : Ty) : PyData → Res PyData
  | .none => .ok (.bool false)
  | .bool _ => .ok (.bool (match t with
    | .int => true
    | .bool => true
    | _ => false))
  | .int _ => .ok (.bool (match t with
    | .int => true
    | _ => false))
  | .str _ => .ok (.bool (match t with
    | .str => true
    | _ => false))
  | .list _ => .ok (.bool (match t with
    | .list => true
    | _ => false))
  | .tuple _ => .ok (.bool (match t with
    | .tuple => true
    | _ => false))
  | .dict _ => .stuck
def isDic : PyData → Bool
  | .dict ((.bool _, .none) :: _) => true
  | _ => false
def rngL : List PyData → Res (List Int)
  | [.int n] => if n ≤ 16777216 ∧ -16777216 ≤ n then .ok ((List.range n.toNat).map fun (i : Nat) => (i : Int)) else .stuck
  | [.int a, .int b] => if a ≤ 1000000 ∧ -1000000 ≤ a ∧ b ≤ 1000000 ∧ -1000000 ≤ b then .ok ((List.range (b - a).toNat).map fun (i : Nat) => a + (i : Int)) else .stuck
  | [.int a, .int b, .int c] => if c ≠ 0 ∧ c.natAbs < 1073741824 ∧ Builtin.Range.small a b c = true ∧ (Builtin.Range.rangeSize a b c).toNat ≤ 16777216 then
      .ok ((List.range (Builtin.Range.rangeSize a b c).toNat).map fun (i : Nat) => a + (i : Int) * c) else .stuck
  | _ => .stuck
section
variable {X : Cx} {P : Pm} {own : List Nat} {a b c e o : Expr} {es : List Expr} {pos apos p : Pos} {fa fb fc f fo : Rho → Res PyData} {fs : Rho → Res (List PyData)} {x : Str}
theorem pst_sig {α β : Type} {ea : Str → Addr} {W : WX} {E : XK} {R : Hp → Hp → β → α → Prop} {σ : L2.St} {G H : Hp} {r : Res α} {Q : β → Hp → Prop} (hE : ∀ c H', E (.ref (ea c)) none H' = W (.ref (ea c)) none σ H') (h : Pst ⟨W, ea⟩ R σ G H r Q) :
    Pst ⟨fun cls d _ H => E cls d H, ea⟩ R [] G H r Q := by
  cases r with
  | ok d => exact h
  | exc c =>
    intro G' H' x
    show E (.ref (ea c)) none H'
    rw [hE]
    exact h G' H' x
  | stuck => exact h
theorem ev_call {k : Nat} {f : Addr} {fd : FuncData} {ps : List Str} {φ : List PyData → Res PyData} (F : FnOk X.prog X.w X.K X.mg X.base (L2.CX X.prog X.w) k f fd ps (spF X.K P.ea φ)) (hr : Room k X.A) (tk : Takes X P.W) (hg : Gl X x) (hm : X.mg x = some (.ref f))
    (hk : PySem.W.keepIn X.K (.ref f) = true) (hb : Binds X.K fd ps []) (ha : AV X P own (e :: es) fs) (hdb : (x == ("__debug__" : Str)) = false) (he : starEach (e :: es) X.env = (false, eval e X.env) :: starEach es X.env) (hpl : (backTo pos (starEach es X.env)).any (·.1) = false) :
    EV X P own (.Call (.Name x p) (e :: es) [] pos) (fun ρ => (fs ρ).bind φ) := by
  refine PE.weak (pe_callS F hr hg hm hk hb (fun σ => passAt tk σ) ha hdb he hpl) fun σ H Q ⟨ρ, G, al, rl, h⟩ => ?_
  (try dsimp only at h)
  exact ⟨ρ, G, al, rl, h.bind fun ds vs G1 H1 e1 hv h1 => ⟨ds, G1, e1.s, hv, pst_sig (fun _ _ => rfl) h1⟩⟩
theorem ev_call0 {k : Nat} {f : Addr} {fd : FuncData} {ps : List Str} {φ : List PyData → Res PyData} (F : FnOk X.prog X.w X.K X.mg X.base (L2.CX X.prog X.w) k f fd ps (spF X.K P.ea φ)) (hr : Room k X.A) (hg : Gl X x) (hm : X.mg x = some (.ref f))
    (hk : PySem.W.keepIn X.K (.ref f) = true) (hb : Binds X.K fd ps []) (hdb : (x == ("__debug__" : Str)) = false) : EV X P own (.Call (.Name x p) [] [] pos) (fun _ => noexc (φ [])) := by
  refine PE.weak (pe_call0 F hr hg hm hk hb .nil passL hdb) fun σ H Q ⟨ρ, G, al, rl, h⟩ => ?_
  (try dsimp only at h)
  refine ⟨[], G, rl.sub, .nil, ?_⟩
  unfold noexc at h
  cases q : φ [] with
  | ok d => rw [q] at h; exact h
  | exc c => rw [q] at h; exact h.elim
  | stuck => rw [q] at h; exact h.elim
theorem ev_blt {id : String} {g : List PyData → Res PyData} (hc : CaD X (.builtin id) g) (hg : Gl X x) (hm : X.mg x = none) (hv : bootBuiltins x = some (.builtin id)) (ha : AX X P own (e :: es) fs) (hn : x ≠ "__name__") (hdb : (x == ("__debug__" : Str)) = false)
    (he : starEach (e :: es) X.env = (false, eval e X.env) :: starEach es X.env) (hpl : (backTo pos (starEach es X.env)).any (·.1) = false) : EV X P own (.Call (.Name x p) (e :: es) [] pos) (fun ρ => (fs ρ).bind g) := by
  obtain ⟨r, hr, hg'⟩ := hc
  refine PE.weak (pe_callB hr hg hm hv ha hn hdb he hpl) fun σ H Q ⟨ρ, G, al, rl, h⟩ => ?_
  (try dsimp only at h)
  exact ⟨ρ, G, al, rl, h.bind fun ds vs G1 H1 e1 hv h1 => hg' P σ G1 H1 vs ds Q e1.s hv h1⟩
theorem ev_bty {T : String} {g : List PyData → Res PyData} (hc : CaD X (.type T) g) (hg : Gl X x) (hm : X.mg x = none) (hv : bootBuiltins x = some (.type T)) (ha : AX X P own (e :: es) fs) (hn : x ≠ "__name__") (hdb : (x == ("__debug__" : Str)) = false)
    (he : starEach (e :: es) X.env = (false, eval e X.env) :: starEach es X.env) (hpl : (backTo pos (starEach es X.env)).any (·.1) = false) : EV X P own (.Call (.Name x p) (e :: es) [] pos) (fun ρ => (fs ρ).bind g) := by
  obtain ⟨r, hr, hg'⟩ := hc
  refine PE.weak (pe_callTy hr hg hm hv ha hn hdb he hpl) fun σ H Q ⟨ρ, G, al, rl, h⟩ => ?_
  (try dsimp only at h)
  exact ⟨ρ, G, al, rl, h.bind fun ds vs G1 H1 e1 hv h1 => hg' P σ G1 H1 vs ds Q e1.s hv h1⟩
theorem ev_bi (hcalm : X.calm = true) (hu : X.A.units + 65 < cLine) (b : Bi) (hg : Gl X (biN b)) (hm : X.mg (biN b) = none) (ha : AX X P own (e :: es) fs)
    (he : starEach (e :: es) X.env = (false, eval e X.env) :: starEach es X.env) (hpl : (backTo pos (starEach es X.env)).any (·.1) = false) : EV X P own (.Call (.Name (biN b) p) (e :: es) [] pos) (fun ρ => (fs ρ).bind (biD b)) := by
  have h := bi_ok hcalm hu b
  have hb := bi_boot b
  cases b <;> first
    | exact ev_blt h hg hm hb ha (by decide) (by decide) he hpl
    | exact ev_bty h hg hm hb ha (by decide) (by decide) he hpl
def tyOfD : PyData → String
  | .none => "NoneType"
  | .bool _ => "bool"
  | .int _ => "int"
  | .str _ => "str"
  | .list _ => "list"
  | .tuple _ => "tuple"
  | .dict _ => "dict"
theorem kit_none (t : Ty) : kitB "NoneType" (tyS t) = some false := by cases t <;> decide +kernel
theorem kit_bool (t : Ty) : kitB "bool" (tyS t) = some (match t with
    | .int => true
    | .bool => true
    | _ => false) := by cases t <;> decide +kernel
theorem kit_int (t : Ty) : kitB "int" (tyS t) = some (match t with
    | .int => true
    | _ => false) := by cases t <;> decide +kernel
theorem kit_str (t : Ty) : kitB "str" (tyS t) = some (match t with
    | .str => true
    | _ => false) := by cases t <;> decide +kernel
theorem kit_list (t : Ty) : kitB "list" (tyS t) = some (match t with
    | .list => true
    | _ => false) := by cases t <;> decide +kernel
theorem kit_tuple (t : Ty) : kitB "tuple" (tyS t) = some (match t with
    | .tuple => true
    | _ => false) := by cases t <;> decide +kernel
theorem isi_kit (t : Ty) (d : PyData) (b : Bool) (h : isiD t d = .ok (.bool b)) : kitB (tyOfD d) (tyS t) = some b := by
  cases d with
  | dict _ => cases h
  | none => cases h; exact kit_none t
  | bool _ => injection h with h; injection h with h; rw [← h]; exact kit_bool t
  | int _ => injection h with h; injection h with h; rw [← h]; exact kit_int t
  | str _ => injection h with h; injection h with h; rw [← h]; exact kit_str t
  | list _ => injection h with h; injection h with h; rw [← h]; exact kit_list t
  | tuple _ => injection h with h; injection h with h; rw [← h]; exact kit_tuple t
theorem isi_bool (t : Ty) (d : PyData) : isiD t d = .stuck ∨ ∃ b, isiD t d = .ok (.bool b) := by
  cases d with
  | dict _ => exact .inl rfl
  | _ => exact .inr ⟨_, rfl⟩
theorem dx_ty {K : PySem.W.Frag} {G H : Hp} (s : Same G H) {d : PyData} {v : V} (h : DX K G H v d) (hn : ∀ kvs, d ≠ .dict kvs) : TyX K H v (.type (tyOfD d)) := by
  cases d with
  | none => rw [dx_non h]; exact .base .non
  | bool b => rw [dx_bl h]; exact .base (.bl b)
  | int b => rw [dx_int h]; exact .base (.int b)
  | str b => rw [dx_str h]; exact .base (.str b)
  | list l => obtain ⟨a, vs, rfl, g, _⟩ := dx_list s h; exact .base (.lst g)
  | tuple l => obtain ⟨a, vs, rfl, g, _⟩ := dx_tup h; exact .base (.tup (s _ _ g))
  | dict l => exact absurd rfl (hn _)
theorem ev_isi {p2 : Pos} (t : Ty) (hg : Gl X "isinstance") (hm : X.mg "isinstance" = none) (hg2 : Gl X (tyN t)) (hm2 : X.mg (tyN t) = none) (ha : EX X P own a fa) (hs : starEach [a, .Name (tyN t) p2] X.env = (false, eval a X.env) :: starEach [.Name (tyN t) p2] X.env) :
    EV X P own (.Call (.Name "isinstance" p) [a, .Name (tyN t) p2] [] pos) (fun ρ => (fa ρ).bind (isiD t)) := by
  have hv : bootBuiltins (tyN t) = some (.type (tyS t)) := by cases t <;> decide +kernel
  have hn : (tyN t) ≠ ("__name__" : Str) := by cases t <;> decide
  have hd : ((tyN t) == ("__debug__" : Str)) = false := by cases t <;> decide
  have p2' : PE X (.Name (tyN t) p2) (tC (.ty (tyS t))) := pe_bltn hg2 hm2 hv rfl hn hd
  refine PE.weak (pe_callB call_isi hg hm (by decide +kernel) (pa_cons ha (pa_cons p2' pa_nil) hs) (by decide) (by decide) hs (by rfl)) fun σ H Q ⟨ρ, G, al, rl, h⟩ => ?_
  (try dsimp only at h)
  refine ⟨ρ, G, al, rl, h.bind fun d v G1 H1 e1 hv h1 => ?_⟩
  rcases isi_bool t d with q | ⟨k, q⟩
  · rw [q] at h1; exact h1.elim
  · rw [q] at h1
    refine ⟨v, .ty (tyS t), _, .type (tyS t), k, rfl, .ty _, dx_ty e1.s hv ?_, kit_ty (isi_kit t d k q), h1.ok e1.s (drB k)⟩
    rintro kvs rfl
    cases q
theorem ev_mt (hu : X.A.units + 65 < cLine) (m : Mt) (ho : EX X P own o fo) (ha : AX X P own (e :: es) fs) (hbase : attributeBase o (mtN m) X.env (eval o X.env) = eval o X.env)
    (hfew : ((backTo pos (starEach (e :: es) X.env)).all (fun x => !x.1) && (backToKw pos (keywordEach [] X.env)).all (fun x => x.1.isSome) && decide ((e :: es).length + ([] : List Keyword).length + (if ([] : List Keyword).isEmpty then 0 else 1) < 30)) = true)
    (hline : (apos.endLine == pos.line) = true) (hs : starEach (e :: es) X.env = (false, eval e X.env) :: starEach es X.env) (hplain : (backTo pos (starEach es X.env)).any (·.1) = false) :
    EV X P own (.Call (.Attribute o (mtN m) apos) (e :: es) [] pos) (fun ρ => (fo ρ).bind fun d => if recvB m d then (fs ρ).bind fun ds => mtD m d ds else .stuck) := by
  obtain ⟨r, hr, hg⟩ := mt_ok hu m
  have pe : PE X (.Call (.Attribute o (mtN m) apos) (e :: es) [] pos) (tBM X.K (mtT m) r (tX X.K P own fo) (tXs X.K P own fs)) := by
    cases m with
    | lindex => exact pe_bm PySem.F.plainAttrs_list PySem.F.slot_list_index PySem.F.type_list_index hr ho ha hbase hfew hline hs hplain
    | tindex => exact pe_bm PySem.F.plainAttrs_tuple PySem.F.slot_tuple_index PySem.F.type_tuple_index hr ho ha hbase hfew hline hs hplain
    | lcount => exact pe_bm PySem.F.plainAttrs_list PySem.F.slot_list_count PySem.F.type_list_count hr ho ha hbase hfew hline hs hplain
    | split => exact pe_bm PySem.F.plainAttrs_str PySem.F.slot_str_split PySem.F.type_str_split hr ho ha hbase hfew hline hs hplain
    | join => exact pe_bm PySem.F.plainAttrs_str PySem.F.slot_str_join PySem.F.type_str_join hr ho ha hbase hfew hline hs hplain
    | partition => exact pe_bm PySem.F.plainAttrs_str PySem.F.slot_str_partition PySem.F.type_str_partition hr ho ha hbase hfew hline hs hplain
  refine PE.weak pe fun σ H Q ⟨ρ, G, al, rl, h⟩ => ?_
  (try dsimp only at h)
  refine ⟨ρ, G, al, rl, h.bind fun d v G1 H1 e1 hv h1 => ?_⟩
  split at h1
  · rename_i c
    exact ⟨recv_ok c e1.s hv, ρ, G1, al, rl.mono e1, h1.bind fun ds vs G2 H2 e2 hvs h2 => hg P σ G2 H2 v vs d ds Q e2.s (dx_mono e2 hv) hvs h2⟩
  · exact h1.elim
theorem isDic_ok {K : PySem.W.Frag} {G H : Hp} (s : Same G H) {d : PyData} {v : V} (h : DX K G H v d) (c : isDic d = true) : ∃ a, v = .ref a ∧ IsD H a := by
  unfold isDic at c
  split at c
  · rename_i k r
    cases k with
    | false => obtain ⟨a, ks, rfl, g, _⟩ := dx_dk s h; exact ⟨a, rfl, .inl ⟨ks, g⟩⟩
    | true => obtain ⟨a, ks, rfl, g, _⟩ := dx_dt s h; exact ⟨a, rfl, .inr ⟨ks, g⟩⟩
  · cases c
def dicD (d k : PyData) : Res (Option PyData) := match d with
  | .dict kvs => dlook kvs k
  | _ => .stuck
theorem dicD_ok {K : PySem.W.Frag} {G H : Hp} {x y : V} {d k : PyData} {o : Option PyData} (s : Same G H) (hx : DX K G H x d) (hy : DX K G H y k) (h : dicD d k = .ok o) :
    ∃ a ov, x = .ref a ∧ DGet H a y ov ∧ ((o = none ∧ ov = none) ∨ ∃ v d, ov = some v ∧ o = some d ∧ Dq K G v d) := by
  unfold dicD at h
  split at h
  · exact dlook_ok s hx hy h
  · cases h
theorem dicD_noexc {d k : PyData} (c : Str) : dicD d k ≠ .exc c := by
  intro e
  unfold dicD at e
  split at e
  · exact dlook_noexc c e
  · cases e
theorem ev_get1 (hu : X.A.units + 1 < cLine) (ho : EX X P own o fo) (ha : EX X P own a fa) (m : M1 X o "get" apos a pos) : EV X P own (.Call (.Attribute o "get" apos) [a] [] pos) (fun ρ => (fo ρ).bind fun d => if isDic d then (fa ρ).bind fun k => (dicD d k).bind fun r => .ok (r.getD .none) else .stuck) := by
  refine PE.weak (pe_dget1 hu ho ha m) fun σ H Q ⟨ρ, G, al, rl, h⟩ => ?_
  (try dsimp only at h)
  refine ⟨ρ, G, al, rl, h.bind fun d v G1 H1 e1 hv h1 => ?_⟩
  split at h1
  · rename_i c
    obtain ⟨p, rfl, hp⟩ := isDic_ok e1.s hv c
    refine ⟨p, rfl, hp, ρ, G1, al, rl.mono e1, h1.bind fun k y G2 H2 e2 hy h2 => ?_⟩
    obtain ⟨r, er, h3⟩ := pst_bind_ok h2 fun c => dicD_noexc c
    obtain ⟨q, ov, eq, g, w⟩ := dicD_ok e2.s (dx_mono e2 hv) hy er
    cases eq
    refine ⟨ov, g, ?_⟩
    rcases w with ⟨rfl, rfl⟩ | ⟨v, d', rfl, rfl, w⟩
    · exact h3.ok e2.s drN
    · exact h3.ok e2.s (.dq w)
  · exact h1.elim
theorem ev_get2 (hu : X.A.units + 1 < cLine) (ho : EX X P own o fo) (ha : EX X P own a fa) (hb : EV X P own b fb) (m : M2 X o "get" apos a b pos) : EV X P own (.Call (.Attribute o "get" apos) [a, b] [] pos) (fun ρ => (fo ρ).bind fun d => if isDic d then (fa ρ).bind fun k => (fb ρ).bind fun z => (dicD d k).bind fun r => .ok (r.getD z) else .stuck) := by
  refine PE.weak (pe_dget2 hu ho ha hb m) fun σ H Q ⟨ρ, G, al, rl, h⟩ => ?_
  (try dsimp only at h)
  refine ⟨ρ, G, al, rl, h.bind fun d v G1 H1 e1 hv h1 => ?_⟩
  split at h1
  · rename_i c
    obtain ⟨p, rfl, hp⟩ := isDic_ok e1.s hv c
    refine ⟨p, rfl, hp, ρ, G1, al, rl.mono e1, h1.bind fun k y G2 H2 e2 hy h2 => ⟨ρ, G2, al, (rl.mono e1).mono e2, h2.bind fun z w G3 H3 e3 hz h3 => ?_⟩⟩
    obtain ⟨r, er, h4⟩ := pst_bind_ok h3 fun c => dicD_noexc c
    obtain ⟨q, ov, eq, g, u⟩ := dicD_ok e3.s (dx_mono (e2.trans e3) hv) (dx_mono e3 hy) er
    cases eq
    refine ⟨ov, g, ?_⟩
    rcases u with ⟨rfl, rfl⟩ | ⟨v, d', rfl, rfl, u⟩
    · exact h4.ok e3.s hz
    · exact h4.ok e3.s (.dq u)
  · exact h1.elim
theorem items_vals {a c : Int} {n : Nat} {acc : Array Value} (h : ItemsOf (fun i v => ∃ t, v = .int (a + i * c) t) acc n) : Vals (((List.range n).map fun (i : Nat) => a + (i : Int) * c).map V.int) acc.toList := by
  have e : acc.toList.length = n := by rw [Array.length_toList]; exact h.1
  subst e
  rw [List.map_map]
  refine vals_of_get acc.toList _ fun j u hj => ?_
  obtain ⟨t, rfl⟩ := h.2 j u (by rw [← hj, Array.getElem?_toList])
  exact ⟨t, rfl⟩
/-- the ints of a range read as a new list -/
theorem new_ints {K : PySem.W.Frag} {σ : L2.St} {G H : Hp} {Q : VK} {ns : List Int} (h : Pst P (DRr K) σ G H (.ok (.list (ns.map .int))) Q) (s : Same G H) : ∀ p, H p = none → Q (.ref p) (upd H p (.lst (ns.map V.int))) :=
  new_lst h s (dqAll_ofInts ns)
theorem ev_lrng1 {p2 q2 : Pos} (hc : X.calm = true) (hg : Gl X "list") (hm : X.mg "list" = none) (hg2 : Gl X "range") (hm2 : X.mg "range" = none) (ha : EX X P own a fa) (na : starEach [a] X.env = (false, eval a X.env) :: starEach [] X.env)
    (nc : starEach [Expr.Call (.Name "range" p2) [a] [] q2] X.env = (false, eval (Expr.Call (.Name "range" p2) [a] [] q2) X.env) :: starEach [] X.env) :
    EV X P own (.Call (.Name "list" p) [.Call (.Name "range" p2) [a] [] q2] [] pos) (fun ρ => (fa ρ).bind fun d => (rngL [d]).bind fun ns => .ok (.list (ns.map .int))) := by
  refine PE.weak (pe_listRg hc hg hm (prg_1 hg2 hm2 ha na) nc) fun σ H Q ⟨ρ, G, al, rl, h⟩ => ?_
  (try dsimp only at h)
  refine ⟨ρ, G, al, rl, h.bind fun d v G1 H1 e1 hv h1 => ?_⟩
  unfold rngL at h1
  split at h1
  · split at h1
    · rename_i n hd c
      cases hd
      refine ⟨n, dx_int hv, ⟨by omega, by omega, by omega, by omega, by omega⟩, ?_⟩
      have e : rgV 0 n = ((List.range n.toNat).map fun (i : Nat) => (i : Int)).map V.int := by
        unfold rgV
        rw [List.map_map, Int.sub_zero]
        exact List.map_congr_left fun i _ => by simp
      rw [e]
      exact new_ints h1 e1.s
    · exact h1.elim
  · rename_i hd; cases hd
  · rename_i hd; cases hd
  · exact h1.elim
theorem ev_lrng2 {p2 q2 : Pos} (hc : X.calm = true) (hg : Gl X "list") (hm : X.mg "list" = none) (hg2 : Gl X "range") (hm2 : X.mg "range" = none) (ha : EX X P own a fa) (hb : EX X P own b fb) (na : starEach [a, b] X.env = (false, eval a X.env) :: starEach [b] X.env)
    (nb : starEach [b] X.env = (false, eval b X.env) :: starEach [] X.env) (hp : (backTo q2 (starEach [b] X.env)).any (·.1) = false) (nc : starEach [Expr.Call (.Name "range" p2) [a, b] [] q2] X.env = (false, eval (Expr.Call (.Name "range" p2) [a, b] [] q2) X.env) :: starEach [] X.env) :
    EV X P own (.Call (.Name "list" p) [.Call (.Name "range" p2) [a, b] [] q2] [] pos) (fun ρ => (fa ρ).bind fun d => (fb ρ).bind fun e => (rngL [d, e]).bind fun ns => .ok (.list (ns.map .int))) := by
  refine PE.weak (pe_listRg hc hg hm (prg_2 hg2 hm2 ha hb na nb hp) nc) fun σ H Q ⟨ρ, G, al, rl, h⟩ => ?_
  (try dsimp only at h)
  refine ⟨ρ, G, al, rl, h.bind fun d v G1 H1 e1 hv h1 => ⟨ρ, G1, al, rl.mono e1, h1.bind fun e w G2 H2 e2 hw h2 => ?_⟩⟩
  unfold rngL at h2
  split at h2
  · rename_i hd; cases hd
  · split at h2
    · rename_i i j hd c
      cases hd
      refine ⟨i, j, dx_int hv, dx_int hw, ⟨by omega, by omega, by omega, by omega, by omega⟩, ?_⟩
      have e : rgV i j = ((List.range (j - i).toNat).map fun (k : Nat) => i + (k : Int)).map V.int := by
        unfold rgV
        rw [List.map_map]
        rfl
      rw [e]
      exact new_ints h2 e2.s
    · exact h2.elim
  · rename_i hd; cases hd
  · exact h2.elim
/-- list(range(a, b, c)) -/
def tLr3 (t : TA) : TE := fun σ H Q => t σ H fun vs H1 => ∃ (i j c : Int) (n : Nat), vs = [.int i, .int j, .int c] ∧ RgC i j c n ∧ n ≤ 16777216 ∧ ∀ p, H1 p = none → Q (.ref p) (upd H1 p (.lst (((List.range n).map fun (k : Nat) => i + (k : Int) * c).map V.int)))
theorem pe_lr3 {t : TA} {p2 q2 : Pos} (hcalm : X.calm = true) (hg : Gl X "list") (hm : X.mg "list" = none) (hg2 : Gl X "range") (hm2 : X.mg "range" = none) (ha : PA X [a, b, c] t) (na : starEach [a, b, c] X.env = (false, eval a X.env) :: starEach [b, c] X.env)
    (hp : (backTo q2 (starEach [b, c] X.env)).any (·.1) = false) (nc : starEach [Expr.Call (.Name "range" p2) [a, b, c] [] q2] X.env = (false, eval (Expr.Call (.Name "range" p2) [a, b, c] [] q2) X.env) :: starEach [] X.env) :
    PE X (.Call (.Name "list" p) [.Call (.Name "range" p2) [a, b, c] [] q2] [] pos) (tLr3 t) := by
  refine ⟨fun pins s σ H Q I h => ?_⟩
  have inner := ha.run q2 pins s σ H _ I h
  refine PyProof.Rows.Call_ (ld_blt I hg hm PyProof.Rows.boot_list (PyProof.Rows.callWith_type1 (PyProof.Rows.args_cons (PyProof.Rows.Call_ (ld_blt I hg2 hm2 PyProof.Rows.boot_range (PyProof.Rows.callWith_type1 (thn inner fun us s1 hus => ?_) na hp))) nc) nc))
  obtain ⟨vs, H1, I1, rv, i, j, k, n, rfl, ⟨c0, c1, c2, c3⟩, hn, fin⟩ := hus
  obtain ⟨w1, us1, rfl, r1, rv1⟩ : ∃ w us1, us = w :: us1 ∧ RelV (.int i) w ∧ Vals [.int j, .int k] us1 := by cases rv with | cons r t => exact ⟨_, _, rfl, r, t⟩
  obtain ⟨w2, w3, rfl, r2, r3⟩ := vals2 rv1
  obtain ⟨t1, rfl⟩ := r1
  obtain ⟨t2, rfl⟩ := r2
  obtain ⟨t3, rfl⟩ := r3
  refine call_range_3 c0 (PyProof.Rows.args_nil ?_) (.inl (PyProof.noPylong_small c1))
  have I2 : Inv X pins σ H1 { s1 with heap := s1.heap.push { cls := .type "range", data := .fields #[.int i t1, .int j t2, .int k t3] } } := I1.kept (t' := s1.toks) fun b o e => Heap.get?_push_of_some _ e
  refine call_list_range (n := n) (I2.ok.hd hcalm) (IsRange.new ..) c2 c3 (by omega) fun h' tk acc c' hk e' hi => ?_
  refine ⟨.ref _, _, I2.laid (t' := tk) hk (Nat.le_refl _) (o := .lst (((List.range n).map fun (k' : Nat) => i + (k' : Int) * k).map V.int)) ⟨?_, acc.toList, c', items_vals hi, ?_⟩, rfl, fin _ (I2.hok.fresh (Nat.le_refl _))⟩
  · rw [List.length_map, List.length_map, List.length_range, sizeLine_eq]; omega
  · rw [Array.toArray_toList]; exact e'
theorem ev_lrng3 {p2 q2 : Pos} (hcalm : X.calm = true) (hg : Gl X "list") (hm : X.mg "list" = none) (hg2 : Gl X "range") (hm2 : X.mg "range" = none) (ha : AX X P own [a, b, c] fs) (na : starEach [a, b, c] X.env = (false, eval a X.env) :: starEach [b, c] X.env)
    (hp : (backTo q2 (starEach [b, c] X.env)).any (·.1) = false) (nc : starEach [Expr.Call (.Name "range" p2) [a, b, c] [] q2] X.env = (false, eval (Expr.Call (.Name "range" p2) [a, b, c] [] q2) X.env) :: starEach [] X.env) :
    EV X P own (.Call (.Name "list" p) [.Call (.Name "range" p2) [a, b, c] [] q2] [] pos) (fun ρ => (fs ρ).bind fun ds => if ds.length = 3 then (rngL ds).bind fun ns => .ok (.list (ns.map .int)) else .stuck) := by
  refine PE.weak (pe_lr3 hcalm hg hm hg2 hm2 ha na hp nc) fun σ H Q ⟨ρ, G, al, rl, h⟩ => ?_
  (try dsimp only at h)
  refine ⟨ρ, G, al, rl, h.bind fun ds vs G1 H1 e1 hv h1 => ?_⟩
  split at h1
  · rename_i hl
    unfold rngL at h1
    split at h1
    · simp at hl
    · simp at hl
    · split at h1
      · rename_i i j k cc
        cases hv with
        | cons x1 t =>
          obtain ⟨w2, w3, rfl, x2, x3⟩ := drs2 t
          refine ⟨i, j, k, (Builtin.Range.rangeSize i j k).toNat, by rw [dx_int x1, dx_int x2, dx_int x3], ⟨cc.1, cc.2.1, cc.2.2.1, PyProof.Rows.rangeSize_toNat i j k⟩, cc.2.2.2, ?_⟩
          exact new_ints h1 e1.s
      · exact h1.elim
    · exact h1.elim
  · exact h1.elim
end
end Bv
set_option Elab.async false
set_option linter.all false
set_option maxRecDepth 100000
set_option maxHeartbeats 1000000
namespace Bv
open PySem PySem.Spec L2
/-- the iterator gives these data, while what is read by value stands -/
def Walks (K : PySem.W.Frag) (J : It) (ds : List PyData) (G1 : Hp) : Prop := ∀ i G H, Same G1 G → Same G H →
  (∀ d, ds[i]? = some d → J.go i H ∧ ∀ x H', J.yld i H x H' → ∃ G', Ex2 G H G' H' ∧ DR K G' x d) ∧ (ds.length = i → J.stop i H)
def IR (K : PySem.W.Frag) : Hp → Hp → It → List PyData → Prop := fun G _ J ds => Walks K J ds G ∧ ds.length ≤ sizeLine
abbrev tI (K : PySem.W.Frag) (P : Pm) (own : List Nat) (f : Rho → Res (List PyData)) : TI := tG K P own (IR K) f
abbrev IV (X : Cx) (P : Pm) (own : List Nat) (tg iter : Expr) (f : Rho → Res (List PyData)) : Prop := PI X tg iter (tI X.K P own f)
theorem PI.weak {X : Cx} {tg iter : Expr} {t t' : TI} (h : PI X tg iter t) (w : ∀ σ H R, t' σ H R → t σ H R) : PI X tg iter t' := ⟨fun pins s σ H R I q => h.run pins s σ H R I (w σ H R q)⟩
section
variable {K : PySem.W.Frag} {G H : Hp}
theorem walks_list {a : Addr} {vs : List V} {ds : List PyData} (g : G a = some (.lst vs)) (q : DqAll K G vs ds) : Walks K (Itl K a) ds G := by
  intro i G' H' s1 s2
  have hl : SqL K H' a vs := SqL.of (s2 _ _ (s1 _ _ g))
  refine ⟨fun d hd => ?_, fun hi => ⟨vs, hl, by rw [dqAll_len q]; exact Nat.le_of_eq hi⟩⟩
  obtain ⟨v, hv, qv⟩ := dqAll_at' q hd
  refine ⟨⟨vs, v, hl, hv⟩, fun x H2 hy => ?_⟩
  obtain ⟨rfl, hy⟩ := hy
  have e := hy vs hl
  rw [hv] at e
  cases e
  exact ⟨G', Ex2.refl s2, .dq (dq_same s1 _ _ qv)⟩
theorem walks_tup {a : Addr} {vs : List V} {ds : List PyData} (g : G a = some (.tup vs)) (q : DqAll K G vs ds) : Walks K (Itt K a) ds G := by
  intro i G' H' s1 s2
  have hl : SqT K H' a vs := SqT.of (s2 _ _ (s1 _ _ g))
  refine ⟨fun d hd => ?_, fun hi => ⟨vs, hl, by rw [dqAll_len q]; exact Nat.le_of_eq hi⟩⟩
  obtain ⟨v, hv, qv⟩ := dqAll_at' q hd
  refine ⟨⟨vs, v, hl, hv⟩, fun x H2 hy => ?_⟩
  obtain ⟨rfl, hy⟩ := hy
  have e := hy vs hl
  rw [hv] at e
  cases e
  exact ⟨G', Ex2.refl s2, .dq (dq_same s1 _ _ qv)⟩
theorem walks_rng {lo : Int} {n : Nat} : Walks K (Itr lo n) (((List.range n).map fun (i : Nat) => lo + (i : Int)).map .int) G := by
  intro i G' H' s1 s2
  refine ⟨fun d hd => ?_, fun hi => by rw [List.length_map, List.length_map, List.length_range] at hi; exact Nat.le_of_eq hi⟩
  rw [List.getElem?_map, List.getElem?_map] at hd
  by_cases hin : i < n
  · rw [List.getElem?_range hin] at hd
    cases hd
    refine ⟨hin, fun x H2 hy => ?_⟩
    obtain ⟨rfl, rfl⟩ := hy
    exact ⟨G', Ex2.refl s2, drI _⟩
  · rw [List.getElem?_eq_none (by rw [List.length_range]; omega)] at hd
    cases hd
theorem walks_rngC {lo c : Int} {n : Nat} : Walks K (Itc lo c n) (((List.range n).map fun (i : Nat) => lo + (i : Int) * c).map .int) G := by
  intro i G' H' s1 s2
  refine ⟨fun d hd => ?_, fun hi => by rw [List.length_map, List.length_map, List.length_range] at hi; exact Nat.le_of_eq hi⟩
  rw [List.getElem?_map, List.getElem?_map] at hd
  by_cases hin : i < n
  · rw [List.getElem?_range hin] at hd
    cases hd
    refine ⟨hin, fun x H2 hy => ?_⟩
    obtain ⟨rfl, rfl⟩ := hy
    exact ⟨G', Ex2.refl s2, drI _⟩
  · rw [List.getElem?_eq_none (by rw [List.length_range]; omega)] at hd
    cases hd
def zipD (l m : List PyData) : List PyData := (l.zip m).map fun p => .tuple [p.1, p.2]
theorem walks_pair {J : It} {ds : List PyData} {l m : List PyData} (hd : ds = zipD l m)
    (hgo : ∀ i G' H' d e, Same G G' → Same G' H' → l[i]? = some d → m[i]? = some e → J.go i H' ∧ ∀ x H2, J.yld i H' x H2 → ∃ T v w, x = .ref T ∧ H' T = none ∧ H2 = upd H' T (.tup [v, w]) ∧ Dq K G' v d ∧ Dq K G' w e)
    (hst : ∀ i G' H', Same G G' → Same G' H' → min l.length m.length = i → J.stop i H') : Walks K J ds G := by
  subst hd
  intro i G' H' s1 s2
  refine ⟨fun d hd => ?_, fun hi => hst i G' H' s1 s2 ?_⟩
  · unfold zipD at hd
    rw [List.getElem?_map] at hd
    cases e : (l.zip m)[i]? with
    | none => rw [e] at hd; cases hd
    | some p =>
      rw [e] at hd
      cases hd
      rw [List.getElem?_zip_eq_some] at e
      obtain ⟨h1, h2⟩ := hgo i G' H' p.1 p.2 s1 s2 e.1 e.2
      refine ⟨h1, fun x H2 hy => ?_⟩
      obtain ⟨T, v, w, rfl, hT, rfl, q1, q2⟩ := h2 x H2 hy
      refine ⟨upd G' T (.tup [v, w]), Ex2.new _ s2 hT, .dq (.tup upd_same (.cons ?_ (.cons ?_ .nil)))⟩
      · exact dq_same (same_upd (s2.free hT)) _ _ q1
      · exact dq_same (same_upd (s2.free hT)) _ _ q2
  · unfold zipD at hi
    rw [List.length_map, List.length_zip] at hi
    omega
theorem walks_zipL {a b : Addr} {xs ys : List V} {l m : List PyData} (ga : G a = some (.lst xs)) (gb : G b = some (.lst ys)) (qa : DqAll K G xs l) (qb : DqAll K G ys m) : Walks K (Itz K a b) (zipD l m) G := by
  refine walks_pair rfl (fun i G' H' d e s1 s2 hd he => ?_) fun i G' H' s1 s2 h => ⟨xs, ys, SqL.of (s2 _ _ (s1 _ _ ga)), SqL.of (s2 _ _ (s1 _ _ gb)), by rw [dqAll_len qa, dqAll_len qb]; omega⟩
  obtain ⟨v, hv, q1⟩ := dqAll_at' qa hd
  obtain ⟨w, hw, q2⟩ := dqAll_at' qb he
  have la : SqL K H' a xs := SqL.of (s2 _ _ (s1 _ _ ga))
  have lb : SqL K H' b ys := SqL.of (s2 _ _ (s1 _ _ gb))
  refine ⟨⟨xs, ys, v, w, la, lb, hv, hw⟩, fun x H2 hy => ?_⟩
  obtain ⟨T, v', w', rfl, hT, rfl, h1, h2⟩ := hy
  have e1 := h1 xs la
  have e2 := h2 ys lb
  rw [hv] at e1
  rw [hw] at e2
  cases e1
  cases e2
  exact ⟨T, v, w, rfl, hT, rfl, dq_same s1 _ _ q1, dq_same s1 _ _ q2⟩
theorem walks_zipT {a b : Addr} {xs ys : List V} {l m : List PyData} (ga : G a = some (.tup xs)) (gb : G b = some (.tup ys)) (qa : DqAll K G xs l) (qb : DqAll K G ys m) : Walks K (RZ.ItzT K a b) (zipD l m) G := by
  refine walks_pair rfl (fun i G' H' d e s1 s2 hd he => ?_) fun i G' H' s1 s2 h => ⟨xs, ys, SqT.of (s2 _ _ (s1 _ _ ga)), SqT.of (s2 _ _ (s1 _ _ gb)), by rw [dqAll_len qa, dqAll_len qb]; omega⟩
  obtain ⟨v, hv, q1⟩ := dqAll_at' qa hd
  obtain ⟨w, hw, q2⟩ := dqAll_at' qb he
  have la : SqT K H' a xs := SqT.of (s2 _ _ (s1 _ _ ga))
  have lb : SqT K H' b ys := SqT.of (s2 _ _ (s1 _ _ gb))
  refine ⟨⟨xs, ys, v, w, la, lb, hv, hw⟩, fun x H2 hy => ?_⟩
  obtain ⟨T, v', w', rfl, hT, rfl, h1, h2⟩ := hy
  have e1 := h1 xs la
  have e2 := h2 ys lb
  rw [hv] at e1
  rw [hw] at e2
  cases e1
  cases e2
  exact ⟨T, v, w, rfl, hT, rfl, dq_same s1 _ _ q1, dq_same s1 _ _ q2⟩
def enumD (l : List PyData) : List PyData := zipD ((List.range l.length).map fun (i : Nat) => .int (i : Int)) l
theorem walks_enum {a : Addr} {xs : List V} {l : List PyData} (ga : G a = some (.lst xs)) (qa : DqAll K G xs l) : Walks K (Ite K a) (enumD l) G := by
  refine walks_pair rfl (fun i G' H' d e s1 s2 hd he => ?_) fun i G' H' s1 s2 h => ⟨xs, SqL.of (s2 _ _ (s1 _ _ ga)), by rw [dqAll_len qa]; rw [List.length_map, List.length_range] at h; omega⟩
  have hi : i < l.length := (List.getElem?_eq_some_iff.mp he).1
  rw [List.getElem?_map, List.getElem?_range hi] at hd
  cases hd
  obtain ⟨v, hv, q1⟩ := dqAll_at' qa he
  have la : SqL K H' a xs := SqL.of (s2 _ _ (s1 _ _ ga))
  refine ⟨⟨xs, v, la, hv⟩, fun x H2 hy => ?_⟩
  obtain ⟨T, w, rfl, hT, rfl, h1⟩ := hy
  have e1 := h1 xs la
  rw [hv] at e1
  cases e1
  exact ⟨T, _, v, rfl, hT, rfl, .int _, dq_same s1 _ _ q1⟩
theorem walks_enumT {a : Addr} {xs : List V} {l : List PyData} (ga : G a = some (.tup xs)) (qa : DqAll K G xs l) : Walks K (IteT K a) (enumD l) G := by
  refine walks_pair rfl (fun i G' H' d e s1 s2 hd he => ?_) fun i G' H' s1 s2 h => ⟨xs, SqT.of (s2 _ _ (s1 _ _ ga)), by rw [dqAll_len qa]; rw [List.length_map, List.length_range] at h; omega⟩
  have hi : i < l.length := (List.getElem?_eq_some_iff.mp he).1
  rw [List.getElem?_map, List.getElem?_range hi] at hd
  cases hd
  obtain ⟨v, hv, q1⟩ := dqAll_at' qa he
  have la : SqT K H' a xs := SqT.of (s2 _ _ (s1 _ _ ga))
  refine ⟨⟨xs, v, la, hv⟩, fun x H2 hy => ?_⟩
  obtain ⟨T, w, rfl, hT, rfl, h1⟩ := hy
  have e1 := h1 xs la
  rw [hv] at e1
  cases e1
  exact ⟨T, _, v, rfl, hT, rfl, .int _, dq_same s1 _ _ q1⟩
end
section
variable {X : Cx} {P : Pm} {own : List Nat} {tg a b c e : Expr} {es : List Expr} {pos p : Pos} {fa fb f : Rho → Res PyData} {fs : Rho → Res (List PyData)}
/-- a list or a tuple, walked; how long it is -/
def iSq (K : PySem.W.Frag) (tl : TE) : TI := fun σ H R => tl σ H fun x H1 => (∃ a xs, x = .ref a ∧ SqL K H1 a xs ∧ (xs.length ≤ sizeLine → R (Itl K a) H1)) ∨ (∃ a xs, x = .ref a ∧ SqT K H1 a xs ∧ (xs.length ≤ sizeLine → R (Itt K a) H1)) ∨ ∃ z, x = .str z ∧ R (Its z) H1
theorem pi_sq {l : Expr} {tl : TE} (hl : PE X l tl) : PI X tg l (iSq X.K tl) := by
  refine ⟨fun pins s σ H R I h => ?_⟩
  refine thn (hl.run pins s σ H _ I h) fun v s1 hv => ?_
  obtain ⟨x, H1, I1, r1, q⟩ := hv
  have one : ∀ (b : Addr), b ∈ [s1.heap.objs.size] → b = s1.heap.objs.size := fun b hb => by simpa using hb
  rcases q with ⟨a, xs, rfl, hq, fin⟩ | ⟨a, xs, rfl, hq, fin⟩ | ⟨z, rfl, fin⟩
  · cases r1
    obtain ⟨its, rv, pl, hz⟩ := I1.list hq
    refine wpAny_pyIter_list pl.isList ⟨s1.heap.objs.size, [s1.heap.objs.size], _, _, H1, rfl, I1.kept (t' := s1.toks) fun b o e => Heap.get?_push_of_some _ e, turn_list a _, ⟨_, Heap.get?_push_size _ rfl, rfl, rfl⟩, fun b hb => ?_, fin hz⟩
    rw [one b hb]
    exact I1.fpOk (Nat.le_refl _) (I1.hok.fresh (Nat.le_refl _))
  · cases r1
    obtain ⟨its, rv, pl, hz⟩ := I1.tuple hq
    have pl' : s1.heap.IsTuple a its.toArray := pl
    refine wpAny_pyIter_tuple pl' ⟨s1.heap.objs.size, [s1.heap.objs.size], _, _, H1, rfl, I1.kept (t' := s1.toks) fun b o e => Heap.get?_push_of_some _ e, turn_tuple a _, ⟨_, Heap.get?_push_size _ rfl, rfl, rfl⟩, fun b hb => ?_, fin hz⟩
    rw [one b hb]
    exact I1.fpOk (Nat.le_refl _) (I1.hok.fresh (Nat.le_refl _))
  · obtain ⟨tk, rfl⟩ := r1
    cases ha : z.cps.all (· < 128)
    · exact wpAny_pyIter_wide ha (pi_one (tk := s1.toks) I1 _ (turn_str _ z tk "str_iterator" (.inr rfl)) ⟨_, Heap.get?_push_size _ rfl, rfl, rfl⟩ fin)
    · exact wpAny_pyIter_ascii ha (pi_one (tk := s1.toks) I1 _ (turn_str _ z tk "str_ascii_iterator" (.inl rfl)) ⟨_, Heap.get?_push_size _ rfl, rfl, rfl⟩ fin)
theorem walks_str {K : PySem.W.Frag} {G : Hp} {z : Str} : Walks K (Its z) (z.cps.toList.map fun c => .str ⟨#[c]⟩) G := by
  intro i G' H' s1 s2
  refine ⟨fun d hd => ?_, fun hi => ?_⟩
  · rw [List.getElem?_map] at hd
    cases c : z.cps.toList[i]? with
    | none => rw [c] at hd; cases hd
    | some k =>
      rw [c] at hd
      have hd' : PyData.str ⟨#[k]⟩ = d := Option.some.inj hd
      subst hd'
      have hc : z.cps[i]? = some k := by rw [← Array.getElem?_toList]; exact c
      have hlt : i < z.cps.size := by
        have := (List.getElem?_eq_some_iff.mp c).1
        simpa using this
      refine ⟨hlt, fun x H2 hy => ?_⟩
      obtain ⟨rfl, k', hk', rfl⟩ := hy
      rw [hc] at hk'
      cases hk'
      exact ⟨G', Ex2.refl s2, .dq (.str _)⟩
  · have : z.cps.size = i := by simpa using hi
    exact Nat.le_of_eq this
def seqD : PyData → Res (List PyData)
  | .list l => .ok l
  | .tuple l => .ok l
  | .str z => if z.length ≤ sizeLine then .ok (z.cps.toList.map fun c => .str ⟨#[c]⟩) else .stuck
  | _ => .stuck
theorem iv_seq (ha : EV X P own a fa) : IV X P own tg a (fun ρ => (fa ρ).bind seqD) := by
  refine PI.weak (pi_sq ha) fun σ H R ⟨ρ, G, al, rl, h⟩ => ?_
  (try dsimp only at h)
  refine ⟨ρ, G, al, rl, h.bind fun d x G1 H1 e1 hx h1 => ?_⟩
  unfold seqD at h1
  split at h1
  · obtain ⟨p, vs, rfl, g, q⟩ := dr_list hx
    exact .inl ⟨p, vs, rfl, SqL.of (e1.s _ _ g), fun hz => h1 _ G1 H1 (Ex2.refl e1.s) ⟨walks_list g q, by rw [← dqAll_len q]; exact hz⟩⟩
  · obtain ⟨p, vs, rfl, g, q⟩ := dr_tup hx
    exact .inr (.inl ⟨p, vs, rfl, SqT.of (e1.s _ _ g), fun hz => h1 _ G1 H1 (Ex2.refl e1.s) ⟨walks_tup g q, by rw [← dqAll_len q]; exact hz⟩⟩)
  · split at h1
    · rename_i z cc
      exact .inr (.inr ⟨z, dr_str hx, h1 _ G1 H1 (Ex2.refl e1.s) ⟨walks_str, by rw [List.length_map, Array.length_toList]; exact cc⟩⟩)
    · exact h1.elim
  · exact h1.elim
theorem iv_rng1 (hg : Gl X "range") (hm : X.mg "range" = none) (ha : AX X P own [a] fs) (hs : starEach [a] X.env = [(false, eval a X.env)]) : IV X P own tg (.Call (.Name "range" p) [a] [] pos) (fun ρ => (fs ρ).bind fun ds => if ds.length = 1 then (rngL ds).bind fun ns => .ok (ns.map .int) else .stuck) := by
  refine PI.weak (pi_range1 hg hm ha hs) fun σ H R ⟨ρ, G, al, rl, h⟩ => ?_
  (try dsimp only at h)
  refine ⟨ρ, G, al, rl, h.bind fun ds vs G1 H1 e1 hv h1 => ?_⟩
  split at h1
  · rename_i hl
    unfold rngL at h1
    split at h1
    · split at h1
      · rename_i n cc
        obtain ⟨v, rfl, hx⟩ := drs1 hv
        refine ⟨n, by rw [dx_int hx], by omega, by omega, h1 _ G1 H1 (Ex2.refl e1.s) ⟨?_, by rw [List.length_map, List.length_map, List.length_range, sizeLine_eq]; omega⟩⟩
        have e : ((List.range n.toNat).map fun (i : Nat) => (i : Int)) = (List.range n.toNat).map fun (i : Nat) => (0 : Int) + (i : Int) := List.map_congr_left fun i _ => by simp
        rw [e]
        exact walks_rng
      · exact h1.elim
    · simp at hl
    · simp at hl
    · exact h1.elim
  · exact h1.elim
theorem iv_rng2 (hg : Gl X "range") (hm : X.mg "range" = none) (ha : AX X P own [a, b] fs) (hs : starEach [a, b] X.env = [(false, eval a X.env), (false, eval b X.env)]) (hs2 : starEach [b] X.env = [(false, eval b X.env)]) :
    IV X P own tg (.Call (.Name "range" p) [a, b] [] pos) (fun ρ => (fs ρ).bind fun ds => if ds.length = 2 then (rngL ds).bind fun ns => .ok (ns.map .int) else .stuck) := by
  refine PI.weak (pi_range2 hg hm ha hs hs2) fun σ H R ⟨ρ, G, al, rl, h⟩ => ?_
  (try dsimp only at h)
  refine ⟨ρ, G, al, rl, h.bind fun ds vs G1 H1 e1 hv h1 => ?_⟩
  split at h1
  · rename_i hl
    unfold rngL at h1
    split at h1
    · simp at hl
    · split at h1
      · rename_i i j cc
        obtain ⟨v, w, rfl, hx, hy⟩ := drs2 hv
        refine ⟨i, j, by rw [dx_int hx, dx_int hy], ⟨by omega, by omega, by omega, by omega⟩, h1 _ G1 H1 (Ex2.refl e1.s) ⟨walks_rng, by rw [List.length_map, List.length_map, List.length_range, sizeLine_eq]; omega⟩⟩
      · exact h1.elim
    · simp at hl
    · exact h1.elim
  · exact h1.elim
theorem iv_rng3 (hg : Gl X "range") (hm : X.mg "range" = none) (ha : AX X P own [a, b, c] fs) (hs : starEach [a, b, c] X.env = (false, eval a X.env) :: starEach [b, c] X.env) (hpl : (backTo pos (starEach [b, c] X.env)).any (·.1) = false) :
    IV X P own tg (.Call (.Name "range" p) [a, b, c] [] pos) (fun ρ => (fs ρ).bind fun ds => if ds.length = 3 then (rngL ds).bind fun ns => .ok (ns.map .int) else .stuck) := by
  refine PI.weak (pi_range3 hg hm ha hs hpl) fun σ H R ⟨ρ, G, al, rl, h⟩ => ?_
  (try dsimp only at h)
  refine ⟨ρ, G, al, rl, h.bind fun ds vs G1 H1 e1 hv h1 => ?_⟩
  split at h1
  · rename_i hl
    unfold rngL at h1
    split at h1
    · simp at hl
    · simp at hl
    · split at h1
      · rename_i i j k cc
        cases hv with
        | cons x1 t =>
          obtain ⟨w2, w3, rfl, x2, x3⟩ := drs2 t
          refine ⟨i, j, k, _, by rw [dx_int x1, dx_int x2, dx_int x3], ⟨cc.1, cc.2.1, cc.2.2.1, PyProof.Rows.rangeSize_toNat i j k⟩, h1 _ G1 H1 (Ex2.refl e1.s) ⟨walks_rngC, by rw [List.length_map, List.length_map, List.length_range, sizeLine_eq]; exact cc.2.2.2⟩⟩
      · exact h1.elim
    · exact h1.elim
  · exact h1.elim
def zip2D : List PyData → Res (List PyData)
  | [.list l, .list m] => if l.length ≤ sizeLine then .ok (zipD l m) else .stuck
  | [.tuple l, .tuple m] => if l.length ≤ sizeLine then .ok (zipD l m) else .stuck
  | _ => .stuck
theorem zipD_len (l m : List PyData) : (zipD l m).length ≤ l.length := by
  unfold zipD
  rw [List.length_map, List.length_zip]
  exact Nat.min_le_left _ _
theorem iv_zip {elts : List Expr} {kk : Nat} {tpos : Pos} (hg : Gl X "zip") (hm : X.mg "zip" = none) (ha : AV X P own [a, b] fs) (hs : starEach [a, b] X.env = (false, eval a X.env) :: starEach [b] X.env) (hpl : (backTo pos (starEach [b] X.env)).any (·.1) = false) :
    IV X P own (.Tuple elts kk tpos) (.Call (.Name "zip" p) [a, b] [] pos) (fun ρ => (fs ρ).bind zip2D) := by
  refine PI.weak (RZ.pi_zipA hg hm ha hs hpl) fun σ H R ⟨ρ, G, al, rl, h⟩ => ?_
  (try dsimp only at h)
  refine ⟨ρ, G, al, rl, h.bind fun ds vs G1 H1 e1 hv h1 => ?_⟩
  unfold zip2D at h1
  split at h1
  · split at h1
    · rename_i l m cc
      cases hv with
      | cons x1 t =>
        cases t with
        | cons x2 t =>
          cases t
          obtain ⟨p1, v1, rfl, g1, q1⟩ := dr_list x1
          obtain ⟨p2, v2, rfl, g2, q2⟩ := dr_list x2
          exact ⟨p1, p2, v1, v2, rfl, .inl ⟨SqL.of (e1.s _ _ g1), SqL.of (e1.s _ _ g2), h1 _ G1 H1 (Ex2.refl e1.s) ⟨walks_zipL g1 g2 q1 q2, Nat.le_trans (zipD_len _ _) cc⟩⟩⟩
    · exact h1.elim
  · split at h1
    · rename_i l m cc
      cases hv with
      | cons x1 t =>
        cases t with
        | cons x2 t =>
          cases t
          obtain ⟨p1, v1, rfl, g1, q1⟩ := dr_tup x1
          obtain ⟨p2, v2, rfl, g2, q2⟩ := dr_tup x2
          exact ⟨p1, p2, v1, v2, rfl, .inr ⟨SqT.of (e1.s _ _ g1), SqT.of (e1.s _ _ g2), h1 _ G1 H1 (Ex2.refl e1.s) ⟨walks_zipT g1 g2 q1 q2, Nat.le_trans (zipD_len _ _) cc⟩⟩⟩
    · exact h1.elim
  · exact h1.elim
def enuD : List PyData → Res (List PyData)
  | [.list l] => if l.length ≤ sizeLine then .ok (enumD l) else .stuck
  | [.tuple l] => if l.length ≤ sizeLine then .ok (enumD l) else .stuck
  | _ => .stuck
theorem iv_enum {elts : List Expr} {kk : Nat} {tpos : Pos} (hg : Gl X "enumerate") (hm : X.mg "enumerate" = none) (ha : AV X P own [a] fs) (hs : starEach [a] X.env = [(false, eval a X.env)]) :
    IV X P own (.Tuple elts kk tpos) (.Call (.Name "enumerate" p) [a] [] pos) (fun ρ => (fs ρ).bind enuD) := by
  refine PI.weak (pi_enumA hg hm ha hs) fun σ H R ⟨ρ, G, al, rl, h⟩ => ?_
  (try dsimp only at h)
  refine ⟨ρ, G, al, rl, h.bind fun ds vs G1 H1 e1 hv h1 => ?_⟩
  unfold enuD at h1
  split at h1
  · split at h1
    · rename_i l cc
      cases hv with
      | cons x1 t =>
        cases t
        obtain ⟨p1, v1, rfl, g1, q1⟩ := dr_list x1
        exact ⟨p1, v1, rfl, .inl ⟨SqL.of (e1.s _ _ g1), h1 _ G1 H1 (Ex2.refl e1.s) ⟨walks_enum g1 q1, Nat.le_trans (zipD_len _ _) (by rw [List.length_map, List.length_range]; exact cc)⟩⟩⟩
    · exact h1.elim
  · split at h1
    · rename_i l cc
      cases hv with
      | cons x1 t =>
        cases t
        obtain ⟨p1, v1, rfl, g1, q1⟩ := dr_tup x1
        exact ⟨p1, v1, rfl, .inr ⟨SqT.of (e1.s _ _ g1), h1 _ G1 H1 (Ex2.refl e1.s) ⟨walks_enumT g1 q1, Nat.le_trans (zipD_len _ _) (by rw [List.length_map, List.length_range]; exact cc)⟩⟩⟩
    · exact h1.elim
  · exact h1.elim
end
end Bv
set_option Elab.async false
set_option linter.all false
set_option maxRecDepth 100000
set_option maxHeartbeats 1000000
namespace Bv
open PySem PySem.Spec L2
inductive Tg where
  | nm (i : Nat) | tp (is : List Nat)
def Tg.slots : Tg → List Nat
  | .nm i => [i]
  | .tp is => is
def setAll : Rho → List Nat → List PyData → Rho
  | ρ, i :: is, d :: ds => setAll (ρ.set i (some d)) is ds
  | ρ, _, _ => ρ
def bindT : Tg → PyData → Rho → Option Rho
  | .nm i, d, ρ => some (ρ.set i (some d))
  | .tp is, .tuple ds, ρ => if is.length = ds.length then some (setAll ρ is ds) else none
  | .tp _, _, _ => none
def gAll : List Nat → TGs
  | [] => gNil
  | i :: is => gCons (gName i) (gAll is)
def tgG (K : PySem.W.Frag) : Tg → TG
  | .nm i => gName i
  | .tp is => gTup K is.length (gAll is)
def wipeR (ρ : Rho) : List Nat → Rho
  | [] => ρ
  | v :: vs => (wipeR ρ vs).set v none
theorem wipeR_len (ρ : Rho) : ∀ vs : List Nat, (wipeR ρ vs).length = ρ.length
  | [] => rfl
  | v :: vs => by unfold wipeR; rw [List.length_set, wipeR_len ρ vs]
theorem wipeR_some {ρ : Rho} {i : Nat} {x : PyData} : ∀ {vs : List Nat}, (wipeR ρ vs)[i]? = some (some x) → ρ[i]? = some (some x) ∧ i ∉ vs
  | [], h => ⟨h, by simp⟩
  | v :: vs, h => by
    unfold wipeR at h
    by_cases e : v = i
    · subst e
      by_cases hv : v < (wipeR ρ vs).length
      · rw [List.getElem?_set_self hv] at h; cases h
      · rw [List.getElem?_eq_none (by simpa using hv)] at h; cases h
    · rw [List.getElem?_set_ne e] at h
      obtain ⟨h1, h2⟩ := wipeR_some h
      refine ⟨h1, fun z => ?_⟩
      rcases List.mem_cons.mp z with z | z
      · exact e z.symm
      · exact h2 z
theorem wipe_at {σ : L2.St} {i : Nat} : ∀ {vs : List Nat}, i ∈ vs → (wipe σ vs)[i]? = (σ[i]?).map fun _ => none
  | v :: vs, h => by
    have hl : (wipe σ vs).length = σ.length := wipe_length σ vs
    unfold wipe
    by_cases e : v = i
    · subst e
      by_cases hv : v < σ.length
      · rw [List.getElem?_set_self (by rw [hl]; exact hv), List.getElem?_eq_getElem hv]; rfl
      · rw [List.getElem?_eq_none (by rw [List.length_set, hl]; omega), List.getElem?_eq_none (by omega)]; rfl
    · rw [List.getElem?_set_ne e]
      rcases List.mem_cons.mp h with z | z
      · exact absurd z.symm e
      · exact wipe_at z
theorem wipe_out' {σ : L2.St} {i : Nat} : ∀ {vs : List Nat}, i ∉ vs → (wipe σ vs)[i]? = σ[i]?
  | [], _ => rfl
  | v :: vs, h => by
    unfold wipe
    rw [List.getElem?_set_ne (fun z => h (by rw [z]; exact List.mem_cons_self)), wipe_out' fun z => h (List.mem_cons_of_mem _ z)]
theorem wipe_set {σ : L2.St} {i : Nat} {x : Option V} {vs : List Nat} (h : i ∈ vs) : wipe (σ.set i x) vs = wipe σ vs := by
  refine List.ext_getElem? fun j => ?_
  by_cases hj : j ∈ vs
  · rw [wipe_at hj, wipe_at hj]
    by_cases e : i = j
    · subst e
      by_cases hv : i < σ.length
      · rw [List.getElem?_set_self hv, List.getElem?_eq_getElem hv]; rfl
      · rw [List.getElem?_eq_none (by rw [List.length_set]; omega), List.getElem?_eq_none (by omega)]
    · rw [List.getElem?_set_ne e]
  · rw [wipe_out' hj, wipe_out' hj, List.getElem?_set_ne (fun z => hj (by rw [← z]; exact h))]
theorem wipe_wipe {σ : L2.St} {vs : List Nat} : wipe (wipe σ vs) vs = wipe σ vs := by
  refine List.ext_getElem? fun j => ?_
  by_cases hj : j ∈ vs
  · rw [wipe_at hj, wipe_at hj]
    cases σ[j]? <;> rfl
  · rw [wipe_out' hj]
section
variable {K : PySem.W.Frag} {own : List Nat} {ρ ρ' : Rho} {σ : L2.St} {G H G0 H0 : Hp} {α : Nat → Addr}
theorem Rl.wiped (r : Rl K own ρ σ G H α) (vs : List Nat) : Rl K (own.filter fun i => !vs.contains i) (wipeR ρ vs) (wipe σ vs) G H α where
  sub := r.sub
  len := by rw [wipeR_len, wipe_length]; exact r.len
  sh := fun i d e hi => by
    obtain ⟨e1, hv⟩ := wipeR_some e
    have ho : i ∉ own := fun z => hi (List.mem_filter.mpr ⟨z, by simpa using hv⟩)
    obtain ⟨v, e2, q⟩ := r.sh i d e1 ho
    exact ⟨v, (wipe_out' hv).trans e2, q⟩
  ow := fun i d e hi => by
    obtain ⟨e1, hv⟩ := wipeR_some e
    obtain ⟨e2, q⟩ := r.ow i d e1 (List.mem_filter.mp hi).1
    exact ⟨(wipe_out' hv).trans e2, q⟩
  inj := fun i j d e hi hj h1 h2 => r.inj i j d e (List.mem_filter.mp hi).1 (List.mem_filter.mp hj).1 (wipeR_some h1).1 (wipeR_some h2).1
theorem set_some {γ : Type} {l : List (Option γ)} {i j : Nat} {x d : γ} (h : (l.set i (some x))[j]? = some (some d)) : (j = i ∧ d = x ∧ i < l.length) ∨ (j ≠ i ∧ l[j]? = some (some d)) := by
  by_cases e : i = j
  · subst e
    by_cases hv : i < l.length
    · rw [List.getElem?_set_self hv] at h
      cases h
      exact .inl ⟨rfl, rfl, hv⟩
    · rw [List.getElem?_eq_none (by rw [List.length_set]; omega)] at h
      cases h
  · rw [List.getElem?_set_ne e] at h
    exact .inr ⟨fun z => e z.symm, h⟩
theorem Rl.set (r : Rl K own ρ σ G H α) {i : Nat} {v : V} {d : PyData} (hi : i ∉ own) (q : DR K G v d) : Rl K own (ρ.set i (some d)) (σ.set i (some v)) G H α where
  sub := r.sub
  len := by rw [List.length_set, List.length_set]; exact r.len
  sh := fun j e h hj => by
    rcases set_some h with ⟨rfl, rfl, hl⟩ | ⟨hn, h⟩
    · exact ⟨v, List.getElem?_set_self (by rw [← r.len]; exact hl), q⟩
    · obtain ⟨w, e1, q1⟩ := r.sh j e h hj
      exact ⟨w, by rw [List.getElem?_set_ne (fun z => hn z.symm)]; exact e1, q1⟩
  ow := fun j e h hj => by
    rcases set_some h with ⟨rfl, rfl, hl⟩ | ⟨hn, h⟩
    · exact absurd hj hi
    · obtain ⟨e1, q1⟩ := r.ow j e h hj
      exact ⟨by rw [List.getElem?_set_ne (fun z => hn z.symm)]; exact e1, q1⟩
  inj := fun j k d' e' hj hk h1 h2 => by
    rcases set_some h1 with ⟨rfl, rfl, hl⟩ | ⟨hn, h1⟩
    · exact absurd hj hi
    · rcases set_some h2 with ⟨rfl, rfl, hl⟩ | ⟨hn2, h2⟩
      · exact absurd hk hi
      · exact r.inj j k d' e' hj hk h1 h2
/-- a target bound -/
theorem bind_all : ∀ {is : List Nat} {ds : List PyData} {vs : List V} {ρ : Rho} {σ : L2.St}, Rl K own ρ σ G H α → (∀ i ∈ is, i ∉ own) → is.length = ds.length → DqAll K G vs ds →
    ∀ {Q : L2.St → Hp → Prop}, (∀ σ', Rl K own (setAll ρ is ds) σ' G H α → (∀ ws, (∀ i ∈ is, i ∈ ws) → wipe σ' ws = wipe σ ws) → Q σ' H) → gAll is vs σ H Q
  | [], [], _, ρ, σ, r, _, _, h, Q, k => by
    cases h
    exact ⟨rfl, k σ r fun _ _ => rfl⟩
  | [], _ :: _, _, _, _, _, _, hl, _, _, _ => by simp at hl
  | _ :: _, [], _, _, _, _, _, hl, _, _, _ => by simp at hl
  | i :: is, d :: ds, _, ρ, σ, r, ho, hl, h, Q, k => by
    cases h with
    | @cons v vs _ _ h1 h2 =>
      refine ⟨v, vs, rfl, bind_all (r.set (ho i List.mem_cons_self) (.dq h1)) (fun j hj => ho j (List.mem_cons_of_mem _ hj)) (by simpa using hl) h2 fun σ' r' w => k σ' r' fun ws hw => ?_⟩
      rw [w ws fun j hj => hw j (List.mem_cons_of_mem _ hj), wipe_set (hw i List.mem_cons_self)]
theorem bind_ok {tg : Tg} {d : PyData} {v : V} (r : Rl K own ρ σ G H α) (ho : ∀ i ∈ tg.slots, i ∉ own) (q : DR K G v d) (hb : bindT tg d ρ = some ρ') {Q : L2.St → Hp → Prop}
    (k : ∀ σ', Rl K own ρ' σ' G H α → (∀ ws, (∀ i ∈ tg.slots, i ∈ ws) → wipe σ' ws = wipe σ ws) → Q σ' H) : tgG K tg v σ H Q := by
  unfold bindT at hb
  split at hb
  · cases hb
    exact k _ (r.set (ho _ (by simp [Tg.slots])) q) fun ws hw => wipe_set (hw _ (by simp [Tg.slots]))
  · split at hb
    · rename_i c
      cases hb
      obtain ⟨a, vs, rfl, g, qa⟩ := dr_tup q
      exact ⟨a, vs, rfl, SqT.of (r.sub _ _ g), by rw [dqAll_len qa]; exact c.symm, bind_all r ho c qa k⟩
    · cases hb
  · cases hb
theorem bind_slots : ∀ {is : List Nat} {ds : List PyData} {ρ : Rho} {j : Nat} {x : PyData}, (setAll ρ is ds)[j]? = some (some x) → j ∉ is → ρ[j]? = some (some x)
  | [], _, _, _, _, h, _ => h
  | _ :: _, [], _, _, _, h, _ => h
  | i :: is, d :: ds, ρ, j, x, h, hn => by
    have h' := bind_slots (is := is) (ds := ds) h fun z => hn (List.mem_cons_of_mem _ z)
    rcases set_some h' with ⟨rfl, _, _⟩ | ⟨_, h2⟩
    · exact absurd List.mem_cons_self hn
    · exact h2
theorem bindT_at {tg : Tg} {d : PyData} (hb : bindT tg d ρ = some ρ') {j : Nat} {x : PyData} (h : ρ'[j]? = some (some x)) (hn : j ∉ tg.slots) : ρ[j]? = some (some x) := by
  unfold bindT at hb
  split at hb
  · cases hb
    rcases set_some h with ⟨rfl, _, _⟩ | ⟨_, h2⟩
    · exact absurd (by simp [Tg.slots]) hn
    · exact h2
  · split at hb
    · cases hb
      exact bind_slots h hn
    · cases hb
  · cases hb
theorem RS.bound {tg : Tg} {d : PyData} {v : V} (r : RS K own ρ σ G H α G0 H0) (ho : ∀ i ∈ tg.slots, i ∉ own) (q : DR K G v d) (hb : bindT tg d ρ = some ρ') {Q : L2.St → Hp → Prop}
    (k : ∀ σ', RS K own ρ' σ' G H α G0 H0 → Q σ' H) : tgG K tg v σ H Q :=
  bind_ok r.r ho q hb fun σ' r' _ => k σ' ⟨r', r.x, fun i e h hi => r.n i e (bindT_at hb h fun z => ho i z hi) hi⟩
end
section
variable {X : Cx}
theorem pgs_all : ∀ {is : List Nat} {es : List Expr}, X.N.Nodup → is.length = es.length → (∀ (j : Nat) (i : Nat) (e : Expr), is[j]? = some i → es[j]? = some e → ∃ x p, e = .Name x p ∧ X.N[i]? = some x ∧ Loc X.env.scope x ∧ (X.fn x = true ∨ X.env.scope.names.lookup x = some .local)) → PGs X es (gAll is)
  | [], [], _, _, _ => pgs_nil
  | [], _ :: _, _, h, _ => by simp at h
  | _ :: _, [], _, h, _ => by simp at h
  | i :: is, e :: es, hN, hl, h => by
    obtain ⟨x, p, rfl, h1, h2, h3⟩ := h 0 i e rfl rfl
    exact pgs_cons (pg_name hN h1 h2 h3) (pgs_all hN (by simpa using hl) fun j i' e' a b => h (j + 1) i' e' (by simpa using a) (by simpa using b)) (by rfl)
end
def compF (tg : Tg) (ft : Rho → Res Bool) (fe : Rho → Res PyData) (ρ : Rho) : List PyData → Res (List PyData)
  | [] => .ok []
  | d :: ds => match bindT tg d ρ with
    | none => .stuck
    | some ρ1 => (noexc (ft ρ1)).bind fun k => if k then (noexc (fe ρ1)).bind fun y => if nodict y then (compF tg ft fe ρ ds).bind fun ys => .ok (y :: ys) else .stuck else compF tg ft fe ρ ds
theorem noexc_ok {α : Type} {r : Res α} {a : α} (h : noexc r = .ok a) : r = .ok a := by
  cases r with
  | ok b => exact h
  | exc c => cases h
  | stuck => cases h
theorem bind_eq_ok {α β : Type} {r : Res α} {k : α → Res β} {b : β} (h : r.bind k = .ok b) : ∃ a, r = .ok a ∧ k a = .ok b := by
  cases r with
  | ok a => exact ⟨a, rfl, h⟩
  | exc c => cases h
  | stuck => cases h
/-- one turn of a comprehension -/
theorem compF_cons {tg : Tg} {ft : Rho → Res Bool} {fe : Rho → Res PyData} {ρ : Rho} {d : PyData} {ds r : List PyData} (h : compF tg ft fe ρ (d :: ds) = .ok r) :
    ∃ ρ1 k, bindT tg d ρ = some ρ1 ∧ ft ρ1 = .ok k ∧ ((k = true ∧ ∃ y ys, fe ρ1 = .ok y ∧ nodict y = true ∧ compF tg ft fe ρ ds = .ok ys ∧ r = y :: ys) ∨ (k = false ∧ compF tg ft fe ρ ds = .ok r)) := by
  unfold compF at h
  split at h
  · cases h
  · rename_i ρ1 e
    obtain ⟨k, hk, h⟩ := bind_eq_ok h
    refine ⟨ρ1, k, e, noexc_ok hk, ?_⟩
    cases k with
    | false => exact .inr ⟨rfl, h⟩
    | true =>
      refine .inl ⟨rfl, ?_⟩
      rw [if_pos rfl] at h
      obtain ⟨y, hy, h⟩ := bind_eq_ok h
      split at h
      · rename_i c
        obtain ⟨ys, hys, h⟩ := bind_eq_ok h
        cases h
        exact ⟨y, ys, noexc_ok hy, c, hys, rfl⟩
      · cases h
theorem compF_len {tg : Tg} {ft : Rho → Res Bool} {fe : Rho → Res PyData} {ρ : Rho} : ∀ {ds r : List PyData}, compF tg ft fe ρ ds = .ok r → r.length ≤ ds.length
  | [], r, h => by cases h; exact Nat.le_refl _
  | d :: ds, r, h => by
    obtain ⟨ρ1, k, _, _, ⟨_, y, ys, _, _, h3, rfl⟩ | ⟨_, h3⟩⟩ := compF_cons h
    · exact Nat.succ_le_succ (compF_len h3)
    · exact Nat.le_succ_of_le (compF_len h3)
theorem compF_noexc {tg : Tg} {ft : Rho → Res Bool} {fe : Rho → Res PyData} {ρ : Rho} (c : Str) : ∀ {ds : List PyData}, compF tg ft fe ρ ds ≠ .exc c
  | [] => fun h => by cases h
  | d :: ds => fun h => by
    unfold compF at h
    split at h
    · cases h
    · rename_i ρ1 _
      cases q : noexc (ft ρ1) with
      | ok k =>
        rw [q] at h
        cases k with
        | false => exact compF_noexc c h
        | true =>
          replace h : ((noexc (fe ρ1)).bind fun y => if nodict y then (compF tg ft fe ρ ds).bind fun ys => .ok (y :: ys) else .stuck) = .exc c := h
          cases q2 : noexc (fe ρ1) with
          | ok y =>
            rw [q2] at h
            replace h : (if nodict y then (compF tg ft fe ρ ds).bind fun ys => .ok (y :: ys) else .stuck) = .exc c := h
            split at h
            · cases q3 : compF tg ft fe ρ ds with
              | ok ys => rw [q3] at h; cases h
              | exc c' => exact compF_noexc c' q3
              | stuck => rw [q3] at h; cases h
            · cases h
          | exc c' =>
            cases e : fe ρ1 with
            | ok y => rw [e] at q2; cases q2
            | exc _ => rw [e] at q2; cases q2
            | stuck => rw [e] at q2; cases q2
          | stuck => rw [q2] at h; cases h
      | exc c' =>
        cases e : ft ρ1 with
        | ok y => rw [e] at q; cases q
        | exc _ => rw [e] at q; cases q
        | stuck => rw [e] at q; cases q
      | stuck => rw [q] at h; cases h
/-- where nothing is raised -/
def P0 (P : Pm) : Pm := ⟨fun _ _ _ _ => False, P.ea⟩
theorem pst_of_ok {α β : Type} {P : Pm} {R : Hp → Hp → β → α → Prop} {σ : L2.St} {G H : Hp} {r : Res α} {a : α} {Q : β → Hp → Prop} (e : r = .ok a) (h : ∀ b G' H', Ex2 G H G' H' → R G' H' b a → Q b H') : Pst P R σ G H r Q := by
  rw [e]; exact h
theorem hidden {G H G' H' : Hp} {p : Addr} {xs : List V} (x : Ex2 G H G' H') (h : H p = some (.lst xs)) (g : G p = none) : H' p = some (.lst xs) ∧ G' p = none := ⟨x.h _ _ h, x.f p _ h rfl g⟩
/-- an item more in the hidden list -/
theorem Ex2.upd_hid {G H G' H' : Hp} {p : Addr} {o : HO} (x : Ex2 G H G' H') (h : H p = none) (g : G' p = none) : Ex2 G H G' (upd H' p o) where
  g := x.g
  h := fun a u e => by rw [upd_ne (ne_of_none e h)]; exact x.h a u e
  s := fun a u e => by rw [upd_ne (ne_of_none e g)]; exact x.s a u e
  f := x.f
theorem Ex2.show_ {G H G' H' : Hp} {p : Addr} {o : HO} (x : Ex2 G H G' H') (h : H p = none) (h' : H' p = some o) (g : G' p = none) : Ex2 G H (upd G' p o) H' where
  g := x.g.trans (same_upd g)
  h := x.h
  s := fun a u e => by
    by_cases c : a = p
    · subst c; rw [upd_same] at e; cases e; exact h'
    · rw [upd_ne c] at e; exact x.s a u e
  f := fun a u h1 hn h2 => by
    rw [upd_ne (by intro c; rw [c, h] at h1; cases h1)]
    exact x.f a u h1 hn h2
section
variable {K : PySem.W.Frag} {P : Pm} {own ob : List Nat} {vs : List Nat} {tg : Tg} {ft : Rho → Res Bool} {fe : Rho → Res PyData} {fi : Rho → Res (List PyData)} {σ : L2.St} {H : Hp} {Q : VK}
theorem comp_core {ds : List PyData} {J : It} {ρ : Rho} {G G1 H1 : Hp} {al : Nat → Addr} (hob : ob = own.filter fun i => !vs.contains i) (hsl : ∀ i ∈ tg.slots, i ∈ vs) (rl : Rl K own ρ σ G H al) (e1 : Ex2 G H G1 H1) (wk : Walks K J ds G1) (hlen : ds.length ≤ sizeLine)
    (h1 : Pst P (DRr K) σ G1 H1 ((compF tg ft fe (wipeR ρ vs) ds).bind fun r => .ok (.list r)) Q) : ∀ D, H1 D = none → ∃ W : Nat → Nat → Hp → Prop, (∃ m, W 0 m (upd H1 D (.lst []))) ∧ ∀ i m H, W i m H →
  (J.stop i H ∧ Q (.ref D) H) ∨ (J.go i H ∧ ∃ Nx : Hp → Prop, (∀ H', Nx H' → ∃ m', m' < m ∧ W (i + 1) m' H') ∧ ∀ x H', J.yld i H x H' → tgG K tg x (wipe σ vs) H' fun σ2 H2 => wipe σ2 vs = wipe σ vs ∧ tBl K (P0 P) ob ft σ2 H2 fun b H3 =>
    if b = true then tD K (P0 P) ob fe σ2 H3 fun y H4 => ∃ acc, H4 D = some (.lst acc) ∧ acc.length < sizeLine ∧ Nx (upd H4 D (.lst (acc ++ [y]))) else Nx H3) := by
  obtain ⟨r, hr, h2⟩ := pst_bind_ok h1 fun c => compF_noexc c
  intro D hD
  have hrl : r.length ≤ sizeLine := Nat.le_trans (compF_len hr) hlen
  refine ⟨fun i m H' => m = ds.length - i ∧ i ≤ ds.length ∧ ∃ G' acc accd rest, Ex2 G1 H1 G' H' ∧ G' D = none ∧ H' D = some (.lst acc) ∧ DqAll K G' acc accd ∧ compF tg ft fe (wipeR ρ vs) (ds.drop i) = .ok rest ∧ r = accd ++ rest,
    ⟨ds.length, by simp, Nat.zero_le _, G1, [], [], r, (Ex2.refl e1.s).trans (Ex2.hid _ e1.s hD), e1.s.free hD, upd_same, .nil, by simpa using hr, rfl⟩, ?_⟩
  rintro i m H' ⟨rfl, hi, G', acc, accd, rest, x', gD, hH, qa, hrest, er⟩
  obtain ⟨w1, w2⟩ := wk i G' H' x'.g x'.s
  by_cases hlt : i < ds.length
  · obtain ⟨go, yl⟩ := w1 ds[i] (List.getElem?_eq_getElem hlt)
    refine .inr ⟨go, fun H2 => ∃ G2 acc accd rest, Ex2 G1 H1 G2 H2 ∧ G2 D = none ∧ H2 D = some (.lst acc) ∧ DqAll K G2 acc accd ∧ compF tg ft fe (wipeR ρ vs) (ds.drop (i + 1)) = .ok rest ∧ r = accd ++ rest, fun H2 h2 => ⟨ds.length - (i + 1), by omega, rfl, hlt, h2⟩, fun x H2 hy => ?_⟩
    obtain ⟨G2, x2, qx⟩ := yl x H2 hy
    rw [List.drop_eq_getElem_cons hlt] at hrest
    obtain ⟨ρ1, k, hb, hk, cases2⟩ := compF_cons hrest
    have rl2 : Rl K ob (wipeR ρ vs) (wipe σ vs) G2 H2 al := by
      rw [hob]
      exact (rl.mono ((e1.trans x').trans x2)).wiped vs
    refine bind_ok rl2 (fun j hj => ?_) qx hb fun σ3 rl3 hw => ⟨(hw vs hsl).trans wipe_wipe, ?_⟩
    · rw [hob]
      intro z
      have := (List.mem_filter.mp z).2
      simp [hsl j hj] at this
    refine ⟨ρ1, G2, al, rl3, pst_of_ok hk fun b G3 H3 x3 eb => ?_⟩
    subst eb
    have x3' := (x'.trans x2).trans x3
    obtain ⟨hH3, gD3⟩ := hidden (x2.trans x3) hH gD
    rcases cases2 with ⟨rfl, y, ys, hy1, hy2, hy3, rfl⟩ | ⟨rfl, hy3⟩
    · rw [if_pos rfl]
      refine ⟨ρ1, G3, al, rl3.mono x3, pst_of_ok hy1 fun v G4 H4 x4 qv => ?_⟩
      obtain ⟨hH4, gD4⟩ := hidden x4 hH3 gD3
      have hacc : acc.length < sizeLine := by
        have e2 := congrArg List.length er
        rw [List.length_append, List.length_cons] at e2
        rw [dqAll_len qa]
        omega
      refine ⟨acc, hH4, hacc, G4, acc ++ [v], accd ++ [y], ys, (x3'.trans x4).upd_hid hD gD4, gD4, upd_same, dqAll_append (dqAll_same ((x2.trans x3).trans x4).g _ _ qa) (.cons (qv.data hy2) .nil), hy3, by rw [er]; simp⟩
    · rw [if_neg Bool.false_ne_true]
      exact ⟨G3, acc, accd, rest, x3', gD3, hH3, dqAll_same (x2.trans x3).g _ _ qa, hy3, er⟩
  · have ei : i = ds.length := by omega
    subst ei
    refine .inl ⟨w2 rfl, ?_⟩
    rw [List.drop_length] at hrest
    cases hrest
    rw [List.append_nil] at er
    subst er
    exact h2 _ _ _ (x'.show_ hD hH gD) (.dq (.lst upd_same (dqAll_same (same_upd gD) _ _ qa)))
theorem comp_ok (hob : ob = own.filter fun i => !vs.contains i) (hsl : ∀ i ∈ tg.slots, i ∈ vs) (h : tD K P own (fun ρ => (fi ρ).bind fun ds => (compF tg ft fe (wipeR ρ vs) ds).bind fun r => .ok (.list r)) σ H Q) :
    tLc (tI K P own fi) (tgG K tg) (tBl K (P0 P) ob ft) (tD K (P0 P) ob fe) vs σ H Q := by
  obtain ⟨ρ, G, al, rl, h⟩ := h
  (try dsimp only at h)
  exact ⟨ρ, G, al, rl, h.bind fun ds J G1 H1 e1 hJ h1 => comp_core hob hsl rl e1 hJ.1 hJ.2 h1⟩
end
end Bv
set_option Elab.async false
set_option linter.all false
set_option maxRecDepth 100000
set_option maxHeartbeats 1000000
namespace Bv
open PySem PySem.Spec L2
/-- what a statement comes to -/
inductive SR where
  | nx (ρ : Rho) | rt (d : PyData) | ex (c : Str) (ρ : Rho) | stuck
def Res.st {α : Type} (r : Res α) (ρ : Rho) (k : α → SR) : SR := match r with
  | .ok a => k a
  | .exc c => .ex c ρ
  | .stuck => .stuck
def SR.seq (r : SR) (k : Rho → SR) : SR := match r with
  | .nx ρ => k ρ
  | .rt d => .rt d
  | .ex c ρ => .ex c ρ
  | .stuck => .stuck
def SR.res : SR → Res PyData
  | .nx _ => .ok .none
  | .rt d => .ok d
  | .ex c _ => .exc c
  | .stuck => .stuck
def SPst (K : PySem.W.Frag) (P : Pm) (own : List Nat) (G0 H0 : Hp) (E : Ends) : SR → Prop
  | .nx ρ => ∀ σ G H al, RS K own ρ σ G H al G0 H0 → E.nx σ H
  | .rt d => ∀ v G H, Ex2 G0 H0 G H → DR K G v d → E.rt v H
  | .ex c ρ => ∀ σ G H al, RS K [] ρ σ G H al G0 H0 → P.Ex σ c H
  | .stuck => False
def tS (K : PySem.W.Frag) (P : Pm) (own own' : List Nat) (f : Rho → SR) : TS := fun E σ H => ∃ ρ G al G0 H0, RS K own ρ σ G H al G0 H0 ∧ SPst K P own' G0 H0 E (f ρ)
abbrev SV (X : Cx) (P : Pm) (own own' : List Nat) (st : Stmt) (f : Rho → SR) : Prop := PS X st (tS X.K P own own' f)
abbrev SVs (X : Cx) (P : Pm) (own own' : List Nat) (st : List Stmt) (f : Rho → SR) : Prop := PSs X st (tS X.K P own own' f)
def subB (a b : List Nat) : Bool := a.all fun i => b.contains i
theorem subB_ok {a b : List Nat} (h : subB a b = true) : ∀ i, i ∈ a → i ∈ b := fun i hi => by
  have := List.all_eq_true.mp h i hi
  simpa using this
/-- a: those of b without l -/
def outB (a b l : List Nat) : Bool := subB a b && a.all fun i => !l.contains i
theorem outB_ok {a b l : List Nat} (h : outB a b l = true) : (∀ i, i ∈ a → i ∈ b) ∧ ∀ i ∈ l, i ∉ a := by
  unfold outB at h
  rw [Bool.and_eq_true] at h
  refine ⟨subB_ok h.1, fun i hi hz => ?_⟩
  have := List.all_eq_true.mp h.2 i hz
  simp [hi] at this
section
variable {K : PySem.W.Frag} {P : Pm} {own own' : List Nat} {ρ ρ' : Rho} {σ : L2.St} {G H G' H' G0 H0 : Hp} {al : Nat → Addr} {E : Ends}
theorem RS.pst {α β : Type} {R : Hp → Hp → β → α → Prop} {res : Res α} {k : α → SR} {Q : β → Hp → Prop} (r : RS K own ρ σ G H al G0 H0) (h : SPst K P own' G0 H0 E (res.st ρ k)) (hk : ∀ a b G' H', Ex2 G H G' H' → R G' H' b a → SPst K P own' G0 H0 E (k a) → Q b H') : Pst P R σ G H res Q := by
  cases res with
  | ok a => exact fun b G' H' x q => hk a b G' H' x q h
  | exc c =>
    intro G' H' x
    obtain ⟨G2, _, r2⟩ := (r.mono x).drop (own' := []) fun i hi => absurd hi List.not_mem_nil
    exact h σ G2 H' al r2
  | stuck => exact h
theorem SPst.weak {r : SR} (h : SPst K P own' G0 H0 E r) (hs : ∀ i, i ∈ own' → i ∈ own) : SPst K P own G0 H0 E r := by
  cases r with
  | nx ρ =>
    intro σ G H al r
    obtain ⟨G2, _, r2⟩ := r.drop hs
    exact h σ G2 H al r2
  | rt d => exact h
  | ex c ρ => exact h
  | stuck => exact h
theorem RS.set {i : Nat} {v : V} {d : PyData} (r : RS K own ρ σ G H al G0 H0) (hi : i ∉ own) (q : DR K G v d) : RS K own (ρ.set i (some d)) (σ.set i (some v)) G H al G0 H0 :=
  ⟨r.r.set hi q, r.x, fun j e h hj => by
    rcases set_some h with ⟨rfl, _, _⟩ | ⟨_, h⟩
    · exact absurd hj hi
    · exact r.n j e h hj⟩
/-- what an own slot holds changes -/
theorem Rl.put {i : Nat} {d d' : PyData} {o : HO} (r : Rl K own ρ σ G H al) (hi : i ∈ own) (e : ρ[i]? = some (some d)) (w : Own K G (upd H (al i) o) (al i) d') : Rl K own (ρ.set i (some d')) σ G (upd H (al i) o) al := by
  obtain ⟨e1, g1, o1⟩ := r.ow i d e hi
  have hlt : i < ρ.length := (List.getElem?_eq_some_iff.mp e).1
  refine ⟨fun a u h => ?_, by rw [List.length_set]; exact r.len, fun j x h hj => ?_, fun j x h hj => ?_, fun j k x y hj hk h1 h2 => ?_⟩
  · rw [upd_ne (ne_of_none h g1)]
    exact r.sub a u h
  · rcases set_some h with ⟨rfl, _, _⟩ | ⟨_, h⟩
    · exact absurd hi hj
    · exact r.sh j x h hj
  · rcases set_some h with ⟨rfl, rfl, _⟩ | ⟨hn, h⟩
    · exact ⟨e1, g1, w⟩
    · obtain ⟨e2, g2, o2⟩ := r.ow j x h hj
      exact ⟨e2, g2, o2.mono (Same.refl _) (upd_ne fun z => hn (r.inj j i x d hj hi h e z))⟩
  · have h1' : ∃ x', ρ[j]? = some (some x') := by
      rcases set_some h1 with ⟨rfl, _, _⟩ | ⟨_, h⟩
      · exact ⟨_, e⟩
      · exact ⟨_, h⟩
    have h2' : ∃ x', ρ[k]? = some (some x') := by
      rcases set_some h2 with ⟨rfl, _, _⟩ | ⟨_, h⟩
      · exact ⟨_, e⟩
      · exact ⟨_, h⟩
    obtain ⟨x', h1'⟩ := h1'
    obtain ⟨y', h2'⟩ := h2'
    exact r.inj j k x' y' hj hk h1' h2'
theorem RS.put {i : Nat} {d d' : PyData} {o : HO} (r : RS K own ρ σ G H al G0 H0) (hi : i ∈ own) (e : ρ[i]? = some (some d)) (w : Own K G (upd H (al i) o) (al i) d') : RS K own (ρ.set i (some d')) σ G (upd H (al i) o) al G0 H0 := by
  have g1 := (r.r.ow i d e hi).2.1
  refine ⟨r.r.put hi e w, ⟨r.x.g, fun a u h => ?_, fun a u h => ?_, r.x.f⟩, fun j x h hj => ?_⟩
  · rw [upd_ne (ne_of_none h (r.n i d e hi))]
    exact r.x.h a u h
  · rw [upd_ne (ne_of_none h g1)]
    exact r.x.s a u h
  · rcases set_some h with ⟨rfl, _, _⟩ | ⟨_, h⟩
    · exact r.n _ _ e hj
    · exact r.n _ _ h hj
/-- a slot gets a container of its own -/
theorem RS.gain {i : Nat} {p : Addr} {d : PyData} (r : RS K own ρ σ G H al G0 H0) (hi : i ∉ own) (x : Ex2 G H G' H') (hp : H p = none) (g : G' p = none) (w : Own K G' H' p d) :
    RS K (i :: own) (ρ.set i (some d)) (σ.set i (some (.ref p))) G' H' (fun j => if j = i then p else al j) G0 H0 := by
  have r' := r.mono x
  have ne : ∀ {j : Nat}, j ∈ own → j ≠ i := fun hj z => hi (z ▸ hj)
  have old : ∀ {j : Nat} {y : PyData}, j ∈ own → ρ[j]? = some (some y) → al j ≠ p := fun hj h z => by
    obtain ⟨u, hu⟩ := (r.r.ow _ _ h hj).2.2.some
    rw [z, hp] at hu
    cases hu
  refine ⟨⟨r'.r.sub, by rw [List.length_set, List.length_set]; exact r'.r.len, fun j y h hj => ?_, fun j y h hj => ?_, fun j k y z hj hk h1 h2 e => ?_⟩, r'.x, fun j y h hj => ?_⟩
  · have hj1 : j ≠ i := fun z => hj (by rw [z]; exact List.mem_cons_self)
    rcases set_some h with ⟨rfl, _, _⟩ | ⟨_, h⟩
    · exact absurd rfl hj1
    · obtain ⟨v, e1, q⟩ := r'.r.sh j y h fun z => hj (List.mem_cons_of_mem _ z)
      exact ⟨v, by rw [List.getElem?_set_ne (fun z => hj1 z.symm)]; exact e1, q⟩
  · rcases set_some h with ⟨rfl, rfl, hl⟩ | ⟨hn, h⟩
    · (try dsimp only)
      rw [if_pos rfl]
      exact ⟨List.getElem?_set_self (by rw [← r'.r.len]; exact hl), g, w⟩
    · have hj' : j ∈ own := by
        rcases List.mem_cons.mp hj with z | z
        · exact absurd z hn
        · exact z
      (try dsimp only)
      rw [if_neg hn]
      obtain ⟨e1, g1, o1⟩ := r'.r.ow j y h hj'
      exact ⟨by rw [List.getElem?_set_ne (fun z => hn z.symm)]; exact e1, g1, o1⟩
  · have cases' : ∀ {j : Nat} {y : PyData}, j ∈ i :: own → (ρ.set i (some d))[j]? = some (some y) → j = i ∨ (j ≠ i ∧ j ∈ own ∧ ρ[j]? = some (some y)) := fun {j y} hj h => by
      rcases set_some h with ⟨rfl, _, _⟩ | ⟨hn, h⟩
      · exact .inl rfl
      · rcases List.mem_cons.mp hj with z | z
        · exact absurd z hn
        · exact .inr ⟨hn, z, h⟩
    (try dsimp only at e)
    rcases cases' hj h1 with k1 | ⟨n1, o1, k1⟩
    · rcases cases' hk h2 with k2 | ⟨n2, o2, k2⟩
      · rw [k1, k2]
      · rw [if_pos k1, if_neg n2] at e
        exact absurd e.symm (old o2 k2)
    · rcases cases' hk h2 with k2 | ⟨n2, o2, k2⟩
      · rw [if_neg n1, if_pos k2] at e
        exact absurd e (old o1 k1)
      · rw [if_neg n1, if_neg n2] at e
        exact r.r.inj j k y z o1 o2 k1 k2 e
  · rcases set_some h with ⟨rfl, _, _⟩ | ⟨hn, h⟩
    · (try dsimp only)
      rw [if_pos rfl]
      exact r.x.h.free hp
    · (try dsimp only)
      rw [if_neg hn]
      rcases List.mem_cons.mp hj with z | z
      · exact absurd z hn
      · exact r.n j y h z
end
/-- a fresh container, not shown yet -/
def FR (K : PySem.W.Frag) (H : Hp) : Hp → Hp → V → PyData → Prop := fun G' H' v d => ∃ p, v = .ref p ∧ H p = none ∧ G' p = none ∧ Own K G' H' p d
def tFr (K : PySem.W.Frag) (P : Pm) (own : List Nat) (f : Rho → Res PyData) : TE := fun σ H Q => ∃ ρ G al, Rl K own ρ σ G H al ∧ Pst P (FR K H) σ G H (f ρ) Q
abbrev FV (X : Cx) (P : Pm) (own : List Nat) (e : Expr) (f : Rho → Res PyData) : Prop := PE X e (tFr X.K P own f)
section
variable {X : Cx} {P : Pm} {own own' own2 : List Nat} {a b c e : Expr} {es : List Expr} {st : Stmt} {sts rest : List Stmt} {pos pos' p : Pos} {fa fb fc fe : Rho → Res PyData} {fs : Rho → Res (List PyData)} {ft : Rho → Res Bool} {f g : Rho → SR} {fi : Rho → Res (List PyData)}
theorem own_dr {K : PySem.W.Frag} {G H : Hp} {p : Addr} {d : PyData} (h : Own K G H p d) (g : G p = none) : ∃ o, H p = some o ∧ DR K (upd G p o) (.ref p) d := by
  cases d with
  | list ds =>
    obtain ⟨vs, e, q⟩ := h
    exact ⟨_, e, .dq (.lst upd_same (dqAll_same (same_upd g) _ _ q))⟩
  | dict kvs =>
    obtain ⟨o, e, q⟩ := h
    exact ⟨o, e, .dc upd_same (dcAt_same (same_upd g) q).rd⟩
  | _ => exact False.elim h
/-- .. shown -/
theorem FV.ev (h : FV X P own e fe) : EV X P own e fe := PE.weak h fun σ H Q ⟨ρ, G, al, rl, p⟩ => ⟨ρ, G, al, rl, by
  cases q : fe ρ with
  | ok d =>
    rw [q] at p
    intro v G' H' x ⟨p', ev, hp, hg, w⟩
    obtain ⟨o, ho, r⟩ := own_dr w hg
    subst ev
    exact p _ _ _ (x.show_ hp ho hg) r
  | exc c => rw [q] at p; exact p
  | stuck => rw [q] at p; exact p⟩
theorem svs_nil : SVs X P own own [] (fun ρ => .nx ρ) := PSs.weak pss_nil fun E σ H ⟨ρ, G, al, G0, H0, r, h⟩ => h σ G H al r
theorem svs_cons (h1 : SV X P own own' st f) (h2 : SVs X P own' own2 rest g) : SVs X P own own2 (st :: rest) (fun ρ => (f ρ).seq g) := by
  refine PSs.weak (pss_cons h1 h2) fun E σ H ⟨ρ, G, al, G0, H0, r, h⟩ => ?_
  (try dsimp only at h)
  refine ⟨ρ, G, al, G0, H0, r, ?_⟩
  cases q : f ρ with
  | nx ρ' =>
    rw [q] at h
    exact fun σ' G' H' al' r' => ⟨ρ', G', al', G0, H0, r', h⟩
  | rt d => rw [q] at h; exact h
  | ex c ρ' => rw [q] at h; exact h
  | stuck => rw [q] at h; exact h
theorem svs_one (h : SV X P own own' st f) : SVs X P own own' [st] f := pss_one h
/-- slots are given up ahead -/
theorem sv_drop (h : SV X P own own' st f) (hs : subB own own2 = true) : SV X P own2 own' st f := PS.weak h fun E σ H ⟨ρ, G, al, G0, H0, r, h⟩ => by
  obtain ⟨G2, _, r2⟩ := r.drop (subB_ok hs)
  exact ⟨ρ, G2, al, G0, H0, r2, h⟩
theorem svs_drop (h : SVs X P own own' sts f) (hs : subB own own2 = true) : SVs X P own2 own' sts f := PSs.weak h fun E σ H ⟨ρ, G, al, G0, H0, r, h⟩ => by
  obtain ⟨G2, _, r2⟩ := r.drop (subB_ok hs)
  exact ⟨ρ, G2, al, G0, H0, r2, h⟩
/-- .. behind -/
theorem svs_weak (h : SVs X P own own' sts f) (hs : subB own2 own' = true) : SVs X P own own2 sts f := PSs.weak h fun E σ H ⟨ρ, G, al, G0, H0, r, h⟩ => ⟨ρ, G, al, G0, H0, r, h.weak (subB_ok hs)⟩
theorem sv_ret (he : EV X P own e fe) : SV X P own own' (.Return (some e) pos) (fun ρ => (fe ρ).st ρ fun d => .rt d) := by
  refine PS.weak (ps_ret he) fun E σ H ⟨ρ, G, al, G0, H0, r, h⟩ => ?_
  (try dsimp only at h)
  exact ⟨ρ, G, al, r.r, r.pst h fun d v G' H' x q h' => h' v G' H' (r.x.trans x) q⟩
theorem sv_expr (he : EV X P own e fe) (hs : swapsWith e none pos.line X.env = pure false) : SV X P own own (.Expr e pos) (fun ρ => (fe ρ).st ρ fun _ => .nx ρ) := by
  refine PS.weak (ps_expr he hs) fun E σ H ⟨ρ, G, al, G0, H0, r, h⟩ => ?_
  (try dsimp only at h)
  exact ⟨ρ, G, al, r.r, r.pst h fun d v G' H' x q h' => h' σ G' H' al (r.mono x)⟩
theorem sv_if (hc : TV X P own c ft) (ha : SVs X P own own' sts f) (hb : SVs X P own own' rest g) : SV X P own own' (.If c sts rest pos) (fun ρ => (ft ρ).st ρ fun k => if k then f ρ else g ρ) := by
  refine PS.weak (ps_if hc ha hb) fun E σ H ⟨ρ, G, al, G0, H0, r, h⟩ => ?_
  (try dsimp only at h)
  refine ⟨ρ, G, al, r.r, r.pst h fun k k' G' H' x q h' => ?_⟩
  subst q
  cases k' with
  | true => exact ⟨ρ, G', al, G0, H0, r.mono x, h'⟩
  | false => exact ⟨ρ, G', al, G0, H0, r.mono x, h'⟩
theorem sv_set {i : Nat} {x : Str} (hN : X.N.Nodup) (hi : X.N[i]? = some x) (hx : Loc X.env.scope x) (he : EV X P own e fe) (hs : swapsWith e (some (.Name x pos')) pos.line X.env = pure false) (hf : X.fn x = true ∨ X.env.scope.names.lookup x = some .local) (ho : outB own' own [i] = true) :
    SV X P own own' (.Assign [.Name x pos'] e pos) (fun ρ => (fe ρ).st ρ fun d => .nx (ρ.set i (some d))) := by
  obtain ⟨o1, o2⟩ := outB_ok ho
  refine PS.weak (ps_set hN hi hx he hs hf) fun E σ H ⟨ρ, G, al, G0, H0, r, h⟩ => ?_
  (try dsimp only at h)
  refine ⟨ρ, G, al, r.r, r.pst h fun d v G' H' x q h' => ?_⟩
  obtain ⟨G2, s2, r2⟩ := (r.mono x).drop o1
  exact h' _ G2 H' al (r2.set (o2 i List.mem_cons_self) (dr_same s2 q))
/-- name = a container of its own -/
theorem sv_own {i : Nat} {x : Str} (hN : X.N.Nodup) (hi : X.N[i]? = some x) (hx : Loc X.env.scope x) (he : FV X P own2 e fe) (hs : swapsWith e (some (.Name x pos')) pos.line X.env = pure false) (hf : X.fn x = true ∨ X.env.scope.names.lookup x = some .local) (ho : outB own2 own [i] = true) :
    SV X P own (i :: own2) (.Assign [.Name x pos'] e pos) (fun ρ => (fe ρ).st ρ fun d => .nx (ρ.set i (some d))) := by
  obtain ⟨o1, o2⟩ := outB_ok ho
  refine PS.weak (ps_set hN hi hx he hs hf) fun E σ H ⟨ρ, G, al, G0, H0, r0, h⟩ => ?_
  (try dsimp only at h)
  obtain ⟨G2, s2, r⟩ := r0.drop o1
  refine ⟨ρ, G2, al, r.r, r.pst h fun d v G' H' x q h' => ?_⟩
  obtain ⟨p, rfl, hp, hg, w⟩ := q
  exact h' _ G' H' _ (r.gain (o2 i List.mem_cons_self) x hp hg w)
/-- name = [..] on one line -/
theorem sv_bind {i : Nat} {st : Stmt} (h : PS X st (tAsg (tD X.K P own fe) (gName i))) (ho : outB own' own [i] = true) : SV X P own own' st (fun ρ => (fe ρ).st ρ fun d => .nx (ρ.set i (some d))) := by
  obtain ⟨o1, o2⟩ := outB_ok ho
  refine PS.weak h fun E σ H ⟨ρ, G, al, G0, H0, r, h⟩ => ?_
  (try dsimp only at h)
  refine ⟨ρ, G, al, r.r, r.pst h fun d v G' H' x q h' => ?_⟩
  obtain ⟨G2, s2, r2⟩ := (r.mono x).drop o1
  exact h' _ G2 H' al (r2.set (o2 i List.mem_cons_self) (dr_same s2 q))
theorem sv_unpack {tg : Tg} {te : Expr} (he : EV X P own e fe) (hg : PG X te (tgG X.K tg)) (ho : outB own' own tg.slots = true) (hs : swapsWithSole [te] e pos.line X.env = pure false) (hw : swappedStores [te] e X.env = pure none)
    (h1 : (assignEach [te] X.env).map (·.2) = [assign te X.env]) : SV X P own own' (.Assign [te] e pos) (fun ρ => (fe ρ).st ρ fun d => match bindT tg d ρ with
      | some ρ' => .nx ρ'
      | none => .stuck) := by
  obtain ⟨o1, o2⟩ := outB_ok ho
  refine PS.weak (ps_asg he hg hs hw h1) fun E σ H ⟨ρ, G, al, G0, H0, r, h⟩ => ?_
  (try dsimp only at h)
  refine ⟨ρ, G, al, r.r, r.pst h fun d v G' H' x q h' => ?_⟩
  (try dsimp only at h')
  split at h'
  · rename_i ρ' eb
    obtain ⟨G2, s2, r2⟩ := (r.mono x).drop o1
    exact RS.bound r2 o2 (dr_same s2 q) eb fun σ' r' => h' _ _ _ _ r'
  · exact h'.elim
theorem rs_setAll {K : PySem.W.Frag} {own : List Nat} {G H G0 H0 : Hp} {al : Nat → Addr} : ∀ {is : List Nat} {ds : List PyData} {vs : List V} {ρ : Rho} {σ : L2.St}, RS K own ρ σ G H al G0 H0 → (∀ i ∈ is, i ∉ own) → DRs K G vs ds → is.length = ds.length →
    ∃ σ', RS K own (setAll ρ is ds) σ' G H al G0 H0
  | [], [], _, _, σ, r, _, _, _ => ⟨σ, r⟩
  | [], _ :: _, _, _, _, _, _, _, hl => by simp at hl
  | _ :: _, [], _, _, _, _, _, _, hl => by simp at hl
  | i :: is, d :: ds, _, ρ, σ, r, ho, h, hl => by
    cases h with
    | cons h1 h2 =>
      show ∃ σ', RS K own (setAll (ρ.set i (some d)) is ds) σ' G H al G0 H0
      exact rs_setAll (r.set (ho i List.mem_cons_self) h1) (fun j hj => ho j (List.mem_cons_of_mem _ hj)) h2 (by simpa using hl)
def parM (is : List Nat) (ds : List PyData) (ρ : Rho) : SR := if is.length = ds.length then .nx (setAll ρ is ds) else .stuck
theorem sv_par {i j : Nat} {st : Stmt} (h : PS X st (tPar i j (tDs X.K P own fs))) (ho : outB own' own [i, j] = true) : SV X P own own' st (fun ρ => (fs ρ).st ρ fun ds => parM [i, j] ds ρ) := by
  obtain ⟨o1, o2⟩ := outB_ok ho
  refine PS.weak h fun E σ H ⟨ρ, G, al, G0, H0, r, h⟩ => ?_
  (try dsimp only at h)
  refine ⟨ρ, G, al, r.r, r.pst h fun ds vs G' H' x q h' => ?_⟩
  obtain ⟨G2, s2, r2⟩ := (r.mono x).drop o1
  unfold parM at h'
  split at h'
  · rename_i hl
    match ds, vs, drs_same s2 q, hl with
    | [d1, d2], [v1, v2], .cons q1 (.cons q2 .nil), _ =>
      exact ⟨v1, v2, rfl, h' _ G2 H' al ((r2.set (o2 i (by simp)) q1).set (o2 j (by simp)) q2)⟩
  · exact h'.elim
theorem sv_par3 {i j l : Nat} {st : Stmt} (h : PS X st (tPar3 i j l (tDs X.K P own fs))) (ho : outB own' own [i, j, l] = true) : SV X P own own' st (fun ρ => (fs ρ).st ρ fun ds => parM [i, j, l] ds ρ) := by
  obtain ⟨o1, o2⟩ := outB_ok ho
  refine PS.weak h fun E σ H ⟨ρ, G, al, G0, H0, r, h⟩ => ?_
  (try dsimp only at h)
  refine ⟨ρ, G, al, r.r, r.pst h fun ds vs G' H' x q h' => ?_⟩
  obtain ⟨G2, s2, r2⟩ := (r.mono x).drop o1
  unfold parM at h'
  split at h'
  · rename_i hl
    match ds, vs, drs_same s2 q, hl with
    | [d1, d2, d3], [v1, v2, v3], .cons q1 (.cons q2 (.cons q3 .nil)), _ =>
      exact ⟨v1, v2, v3, rfl, h' _ G2 H' al (((r2.set (o2 i (by simp)) q1).set (o2 j (by simp)) q2).set (o2 l (by simp)) q3)⟩
  · exact h'.elim
def forF (tg : Tg) (body : Rho → SR) : List PyData → Rho → SR
  | [], ρ => .nx ρ
  | d :: ds, ρ => match bindT tg d ρ with
    | none => .stuck
    | some ρ1 => (body ρ1).seq (forF tg body ds)
theorem for_core {K : PySem.W.Frag} {tg : Tg} {E : Ends} {σ : L2.St} {H1 : Hp} {J : It} {ds : List PyData} {ρ : Rho} {G1 G0 H0 : Hp} {al : Nat → Addr} (ho : ∀ i ∈ tg.slots, i ∉ own) (r0 : RS K own ρ σ G1 H1 al G0 H0) (wk : Walks K J ds G1) (h1 : SPst K P own G0 H0 E (forF tg f ds ρ)) :
    ∃ W : Nat → Nat → L2.St → Hp → Prop, (∃ m, W 0 m σ H1) ∧ ∀ i m σ H, W i m σ H →
  (J.stop i H ∧ E.nx σ H) ∨ (J.go i H ∧ ∃ N : L2.St → Hp → Prop, (∀ σ' H', N σ' H' → ∃ m', m' < m ∧ W (i + 1) m' σ' H') ∧ ∀ x H', J.yld i H x H' → tgG K tg x σ H' fun σ2 H2 => tS K P own own f { E with nx := N, ct := N, bk := E.nx } σ2 H2) := by
  refine ⟨fun i m σ H => m = ds.length - i ∧ i ≤ ds.length ∧ ∃ ρ G al, RS K own ρ σ G H al G0 H0 ∧ Same G1 G ∧ SPst K P own G0 H0 E (forF tg f (ds.drop i) ρ), ⟨ds.length, by simp, Nat.zero_le _, ρ, G1, al, r0, Same.refl _, h1⟩, ?_⟩
  rintro i m σ' H' ⟨rfl, hi, ρ', G', al', r', s', h'⟩
  obtain ⟨w1, w2⟩ := wk i G' H' s' r'.r.sub
  by_cases hlt : i < ds.length
  · obtain ⟨go, yl⟩ := w1 ds[i] (List.getElem?_eq_getElem hlt)
    refine .inr ⟨go, fun σ H => ∃ ρ G al, RS K own ρ σ G H al G0 H0 ∧ Same G1 G ∧ SPst K P own G0 H0 E (forF tg f (ds.drop (i + 1)) ρ), fun σ2 H2 h2 => ⟨ds.length - (i + 1), by omega, rfl, hlt, h2⟩, fun v H2 hy => ?_⟩
    obtain ⟨G2, x2, qx⟩ := yl v H2 hy
    rw [List.drop_eq_getElem_cons hlt] at h'
    unfold forF at h'
    split at h'
    · exact h'.elim
    · rename_i ρ1 eb
      refine RS.bound (r'.mono x2) ho qx eb fun σ3 r3 => ?_
      obtain ⟨F, xF, sF, rF⟩ := r3.again
      refine ⟨ρ1, G2, al', G2, F, rF, ?_⟩
      cases q : f ρ1 with
      | nx ρ2 =>
        rw [q] at h'
        exact fun σ4 G4 H4 al4 r4 => ⟨ρ2, G4, al4, r4.outer xF, s'.trans (x2.g.trans r4.x.g), h'⟩
      | rt d =>
        rw [q] at h'
        exact fun v4 G4 H4 x4 q4 => h' v4 G4 H4 (xF.trans x4) q4
      | ex c ρ2 =>
        rw [q] at h'
        exact fun σ4 G4 H4 al4 r4 => h' σ4 G4 H4 al4 (r4.outer xF)
      | stuck => rw [q] at h'; exact h'.elim
  · have ei : i = ds.length := by omega
    subst ei
    rw [List.drop_length] at h'
    exact .inl ⟨w2 rfl, h' σ' G' H' al' r'⟩
theorem for_ok {K : PySem.W.Frag} {tg : Tg} {E : Ends} {σ : L2.St} {H : Hp} (ho : ∀ i ∈ tg.slots, i ∉ own) (h : tS K P own own (fun ρ => (fi ρ).st ρ fun ds => forF tg f ds ρ) E σ H) : tFor (tI K P own fi) (tgG K tg) (tS K P own own f) E σ H := by
  obtain ⟨ρ, G, al, G0, H0, r, h⟩ := h
  (try dsimp only at h)
  exact ⟨ρ, G, al, r.r, r.pst h fun ds J G1 H1 x hJ h1 => for_core ho (r.mono x) hJ.1 h1⟩
theorem sv_for {tg : Tg} {te iter : Expr} (hp : PassesOwn (model X.prog X.w) X.A X.env X.xe) (hc : X.calm = true) (hi : IV X P own te iter fi) (hg : PG X te (tgG X.K tg)) (hb : SVs X P own own sts f) (ho : outB own own tg.slots = true) (hs : ∀ x, foldedSetIterable iter X.env x = pure x) :
    SV X P own own (.For te iter sts [] pos) (fun ρ => (fi ρ).st ρ fun ds => forF tg f ds ρ) :=
  PS.weak (ps_for hp hc hi hg hb hs) fun E σ H h => for_ok (outB_ok ho).2 h
def whileN (ft : Rho → Res Bool) (body : Rho → SR) : Nat → Rho → SR
  | 0, _ => .stuck
  | n + 1, ρ => (ft ρ).st ρ fun k => if k then (body ρ).seq (whileN ft body n) else .nx ρ
theorem whileN_succ {ft : Rho → Res Bool} {body : Rho → SR} : ∀ {n : Nat} {ρ : Rho}, whileN ft body n ρ ≠ .stuck → whileN ft body (n + 1) ρ = whileN ft body n ρ
  | 0, ρ, h => absurd rfl h
  | n + 1, ρ, h => by
    rw [whileN]
    conv => rhs; rw [whileN]
    rw [whileN] at h
    cases q : ft ρ with
    | ok k =>
      rw [q] at h
      cases k with
      | true =>
        show (body ρ).seq (whileN ft body (n + 1)) = (body ρ).seq (whileN ft body n)
        cases q2 : body ρ with
        | nx ρ2 =>
          refine whileN_succ (n := n) (ρ := ρ2) fun z => h ?_
          show (body ρ).seq (whileN ft body n) = .stuck
          rw [q2]; exact z
        | _ => rfl
      | false => rfl
    | _ => rfl
theorem whileN_more {ft : Rho → Res Bool} {body : Rho → SR} {n : Nat} {ρ : Rho} (h : whileN ft body n ρ ≠ .stuck) : ∀ k, whileN ft body (n + k) ρ = whileN ft body n ρ
  | 0 => rfl
  | k + 1 => by
    have ih := whileN_more h k
    rw [← ih] at h
    rw [← Nat.add_assoc, whileN_succ h, ih]
open Classical in
noncomputable def whileV (ft : Rho → Res Bool) (body : Rho → SR) (ρ : Rho) : SR := if h : ∃ n, whileN ft body n ρ ≠ .stuck then whileN ft body (choose h) ρ else .stuck
theorem whileV_eq {ft : Rho → Res Bool} {body : Rho → SR} {n : Nat} {ρ : Rho} (h : whileN ft body n ρ ≠ .stuck) : whileV ft body ρ = whileN ft body n ρ := by
  have ex : ∃ n, whileN ft body n ρ ≠ .stuck := ⟨n, h⟩
  unfold whileV
  rw [dif_pos ex]
  have hc := Classical.choose_spec ex
  rw [← whileN_more hc n, Nat.add_comm, whileN_more h]
theorem whileV_stop {ft : Rho → Res Bool} {body : Rho → SR} {ρ : Rho} (h : ft ρ = .ok false) : whileV ft body ρ = .nx ρ := by
  rw [whileV_eq (n := 1)] <;> (rw [whileN, h]; intros; first | rfl | (intro z; cases z))
theorem whileV_go {ft : Rho → Res Bool} {body : Rho → SR} {ρ ρ2 : Rho} (h : ft ρ = .ok true) (hb : body ρ = .nx ρ2) : whileV ft body ρ = whileV ft body ρ2 := by
  have e : ∀ n, whileN ft body (n + 1) ρ = whileN ft body n ρ2 := fun n => by rw [whileN, h, Res.st, if_pos rfl, hb]; rfl
  by_cases ex : ∃ n, whileN ft body n ρ2 ≠ .stuck
  · obtain ⟨n, hn⟩ := ex
    rw [whileV_eq (n := n + 1) (by rw [e]; exact hn), whileV_eq hn, e]
  · have ex1 : ¬ ∃ n, whileN ft body n ρ ≠ .stuck := fun ⟨n, hn⟩ => by
      cases n with
      | zero => exact hn rfl
      | succ n => exact ex ⟨n, by rw [← e]; exact hn⟩
    unfold whileV
    rw [dif_neg ex, dif_neg ex1]
theorem sv_while (hp : PassesOwn (model X.prog X.w) X.A X.env X.xe) (hc : TV X P own c ft) (hb : SVs X P own own sts f) : SV X P own own (.While c sts [] pos) (whileV ft f) := by
  refine PS.weak (ps_while hp hc hb) fun E σ H ⟨ρ, G, al, G0, H0, r, h⟩ => ?_
  obtain ⟨n, hn⟩ : ∃ n, whileN ft f n ρ ≠ .stuck := Classical.byContradiction fun z => by
    unfold whileV at h
    rw [dif_neg z] at h
    exact h
  rw [whileV_eq hn] at h
  refine ⟨fun m σ H => ∃ ρ G al, RS X.K own ρ σ G H al G0 H0 ∧ SPst X.K P own G0 H0 E (whileN ft f m ρ), ⟨n, ρ, G, al, r, h⟩, ?_⟩
  rintro m σ' H' ⟨ρ', G', al', r', h'⟩
  cases m with
  | zero => exact h'.elim
  | succ m =>
    rw [whileN] at h'
    refine ⟨ρ', G', al', r'.r, r'.pst h' fun k k' G2 H2 x2 q h2 => ?_⟩
    subst q
    cases k' with
    | false =>
      rw [if_neg Bool.false_ne_true]
      exact h2 σ' G2 H2 al' (r'.mono x2)
    | true =>
      rw [if_pos rfl]
      refine ⟨fun σ H => ∃ ρ G al, RS X.K own ρ σ G H al G0 H0 ∧ SPst X.K P own G0 H0 E (whileN ft f m ρ), fun σ3 H3 h3 => ⟨m, Nat.lt_succ_self m, h3⟩, ρ', G2, al', G0, H0, r'.mono x2, ?_⟩
      replace h2 : SPst X.K P own G0 H0 E ((f ρ').seq (whileN ft f m)) := h2
      cases q : f ρ' with
      | nx ρ2 => rw [q] at h2; exact fun σ4 G4 H4 al4 r4 => ⟨ρ2, G4, al4, r4, h2⟩
      | rt d => rw [q] at h2; exact h2
      | ex c ρ2 => rw [q] at h2; exact h2
      | stuck => rw [q] at h2; exact h2
end
end Bv
set_option Elab.async false
set_option linter.all false
set_option maxRecDepth 100000
set_option maxHeartbeats 1000000
namespace Bv
open PySem PySem.Spec L2
section
variable {X : Cx} {P : Pm} {own own' own2 : List Nat} {a b c e : Expr} {es : List Expr} {st : Stmt} {pos pos' p apos xp : Pos} {fa fb fc fe : Rho → Res PyData} {fs : Rho → Res (List PyData)} {ft : Rho → Res Bool} {fi : Rho → Res (List PyData)}
theorem new_fr {K : PySem.W.Frag} {σ : L2.St} {G H0 H : Hp} {Q : VK} {d : PyData} {o : HO} (h : Pst P (FR K H0) σ G H (.ok d) Q) (s : Same G H) (s0 : Same H0 H) (w : ∀ p, H p = none → Own K G (upd H p o) p d) : ∀ p, H p = none → Q (.ref p) (upd H p o) := fun p hp =>
  h (.ref p) G _ (Ex2.hid _ s hp) ⟨p, rfl, s0.free hp, s.free hp, w p hp⟩
theorem fv_lst (h : AV X P own es fs) : FV X P own (.List es pos) (fun ρ => (fs ρ).bind lstM) := by
  refine PE.weak (pe_lst h) fun σ H Q ⟨ρ, G, al, rl, h⟩ => ?_
  (try dsimp only at h)
  refine ⟨ρ, G, al, rl, h.bind fun ds vs G1 H1 e1 hv h1 => ?_⟩
  unfold lstM at h1
  split at h1
  · rename_i c
    rw [Bool.and_eq_true, decide_eq_true_eq] at c
    have q := drs_dq hv c.1
    refine ⟨?_, new_fr h1 e1.s e1.h fun p hp => ⟨vs, upd_same, q⟩⟩
    rw [dqAll_len q, sizeLine_eq]; omega
  · exact h1.elim
theorem fv_dk : FV X P own (.Dict [] [] pos) (fun _ => .ok (dkD [])) :=
  PE.weak pe_dnewK fun σ H Q ⟨ρ, G, al, rl, h⟩ => new_fr h rl.sub (Same.refl _) fun p hp => ⟨.dK [], upd_same, .inl ⟨[], [], rfl, rfl, .nil⟩⟩
theorem fv_dt : FV X P own (.Dict [] [] pos) (fun _ => .ok (dtD [])) :=
  PE.weak pe_dnewT fun σ H Q ⟨ρ, G, al, rl, h⟩ => new_fr h rl.sub (Same.refl _) fun p hp => ⟨.dT [], upd_same, .inr ⟨[], [], rfl, rfl, .nil⟩⟩
def appD (x y : PyData) : Res PyData := match x with
  | .list ds => if nodict y && decide (ds.length < 1000000) then .ok (.list (ds ++ [y])) else .stuck
  | _ => .stuck
def extD (x y : PyData) : Res PyData := match x, y with
  | .list ds, .list es => if ds.length + es.length ≤ 1000000 then .ok (.list (ds ++ es)) else .stuck
  | _, _ => .stuck
def putD (x k y : PyData) : Res PyData := if nodict y then match x with
  | .dict ((.bool false, .none) :: r) => match keyOf k with
    | some _ => if r.length < 1000000 then .ok (dkD (dput r k y)) else .stuck
    | none => .stuck
  | .dict ((.bool true, .none) :: r) => match k with
    | .tuple ds => match keysOf ds with
      | some _ => if r.length < 1000000 then .ok (dtD (dput r k y)) else .stuck
      | none => .stuck
    | _ => .stuck
  | _ => .stuck else .stuck
theorem ow_at {K : PySem.W.Frag} {ρ : Rho} {σ : L2.St} {G H : Hp} {al : Nat → Addr} {i : Nat} {d : PyData} (r : Rl K own ρ σ G H al) (ho : i ∈ own) (h : ρ[i]? = some (some d)) : σ[i]? = some (some (.ref (al i))) ∧ G (al i) = none ∧ Own K G H (al i) d := r.ow i d h ho
theorem gv_some {ρ : Rho} {i : Nat} {d : PyData} (h : gv ρ i = .ok d) : ρ[i]? = some (some d) := by
  unfold gv at h
  split at h
  · rename_i q; cases h; exact q
  · cases h
theorem gv_noexc {ρ : Rho} {i : Nat} (c : Str) : gv ρ i ≠ .exc c := by
  unfold gv
  split <;> (intro h; cases h)
theorem st_ok {α : Type} {res : Res α} {ρ : Rho} {k : α → SR} {K : PySem.W.Frag} {G0 H0 : Hp} {E : Ends} (h : SPst K P own G0 H0 E (res.st ρ k)) (hn : ∀ c, res ≠ .exc c) : ∃ a, res = .ok a ∧ SPst K P own G0 H0 E (k a) := by
  cases res with
  | ok a => exact ⟨a, rfl, h⟩
  | exc c => exact absurd rfl (hn c)
  | stuck => exact h.elim
def isLst : PyData → Bool
  | .list _ => true
  | _ => false
theorem isLst_eq {d : PyData} (h : isLst d = true) : ∃ ds, d = .list ds := by
  cases d with
  | list ds => exact ⟨ds, rfl⟩
  | _ => cases h
theorem appD_noexc {d y : PyData} (c : Str) : appD d y ≠ .exc c := by
  unfold appD
  split
  · split <;> (intro h; cases h)
  · intro h; cases h
theorem extD_noexc {d y : PyData} (c : Str) : extD d y ≠ .exc c := by
  unfold extD
  split
  · split <;> (intro h; cases h)
  · intro h; cases h
theorem putD_noexc {x k y : PyData} (c : Str) : putD x k y ≠ .exc c := by
  unfold putD
  intro h
  split at h
  · split at h
    · split at h
      · split at h <;> cases h
      · cases h
    · split at h
      · split at h
        · split at h <;> cases h
        · cases h
      · cases h
    · cases h
  · cases h
theorem sv_append {i : Nat} {x : Str} (hN : X.N[i]? = some x) (hv : Vis X.env.scope x) (hd : (x == ("__debug__" : Str)) = false) (hcd : (x == ("__classdict__" : Str)) = false) (ho : own.contains i = true) (ha : EV X P own e fe)
    (hsw : swapsWith (.Call (.Attribute (.Name x xp) "append" apos) [e] [] p) none pos.line X.env = pure false) (hbase : attributeBase (.Name x xp) "append" X.env (eval (.Name x xp) X.env) = eval (.Name x xp) X.env)
    (hfew : ((backTo p (starEach [e] X.env)).all (fun x => !x.1) && (backToKw p (keywordEach [] X.env)).all (fun x => x.1.isSome) && decide (([e] : List Expr).length + ([] : List Keyword).length + (if ([] : List Keyword).isEmpty then 0 else 1) < 30)) = true)
    (hline : (apos.endLine == p.line) = true) (hs : starEach [e] X.env = (false, eval e X.env) :: starEach [] X.env) (hpl : (backTo p (starEach [] X.env)).any (·.1) = false) :
    SV X P own own (.Expr (.Call (.Attribute (.Name x xp) "append" apos) [e] [] p) pos) (fun ρ => (gv ρ i).st ρ fun d => if isLst d then (fe ρ).st ρ fun y => (appD d y).st ρ fun d' => .nx (ρ.set i (some d')) else .stuck) := by
  have hi : i ∈ own := by simpa using ho
  refine PS.weak (ps_expr (pe_bm PySem.F.plainAttrs_list PySem.F.slot_list_append PySem.F.type_list_append mt_append (pe_var hN hv hd hcd) (pa_cons ha pa_nil hs) hbase hfew hline hs hpl) hsw) fun E σ H ⟨ρ, G, al, G0, H0, r, h⟩ => ?_
  (try dsimp only at h)
  obtain ⟨d, hd', h⟩ := st_ok h fun c => gv_noexc c
  obtain ⟨e1, g1, o1⟩ := ow_at r.r hi (gv_some hd')
  split at h
  · rename_i hl
    obtain ⟨ds, rfl⟩ := isLst_eq hl
    obtain ⟨vs, hH, hq⟩ := o1
    refine ⟨_, e1, .inl ⟨rfl, vs, SqL.of hH⟩, ρ, G, al, r.r, r.pst h fun y v G' H' x q h' => ?_⟩
    obtain ⟨d', hd2, h'⟩ := st_ok h' fun c => appD_noexc c
    replace hd2 : (if nodict y && decide (ds.length < 1000000) then Res.ok (PyData.list (ds ++ [y])) else .stuck) = .ok d' := hd2
    split at hd2
    · rename_i c
      rw [Bool.and_eq_true, decide_eq_true_eq] at c
      cases hd2
      have r' := r.mono x
      have hH' := x.h _ _ hH
      refine ⟨al i, vs, v, rfl, rfl, hH', by rw [dqAll_len hq, sizeLine_eq]; omega, ?_⟩
      exact h' σ G' _ al (r'.put hi (gv_some hd') ⟨_, upd_same, dqAll_append (dqAll_same x.g _ _ hq) (.cons (q.data c.1) .nil)⟩)
    · cases hd2
  · exact h.elim
theorem sv_extend {i : Nat} {x : Str} (hN : X.N[i]? = some x) (hv : Vis X.env.scope x) (hd : (x == ("__debug__" : Str)) = false) (hcd : (x == ("__classdict__" : Str)) = false) (ho : own.contains i = true) (ha : EV X P own e fe)
    (hsw : swapsWith (.Call (.Attribute (.Name x xp) "extend" apos) [e] [] p) none pos.line X.env = pure false) (hbase : attributeBase (.Name x xp) "extend" X.env (eval (.Name x xp) X.env) = eval (.Name x xp) X.env)
    (hfew : ((backTo p (starEach [e] X.env)).all (fun x => !x.1) && (backToKw p (keywordEach [] X.env)).all (fun x => x.1.isSome) && decide (([e] : List Expr).length + ([] : List Keyword).length + (if ([] : List Keyword).isEmpty then 0 else 1) < 30)) = true)
    (hline : (apos.endLine == p.line) = true) (hs : starEach [e] X.env = (false, eval e X.env) :: starEach [] X.env) (hpl : (backTo p (starEach [] X.env)).any (·.1) = false) :
    SV X P own own (.Expr (.Call (.Attribute (.Name x xp) "extend" apos) [e] [] p) pos) (fun ρ => (gv ρ i).st ρ fun d => if isLst d then (fe ρ).st ρ fun y => (extD d y).st ρ fun d' => .nx (ρ.set i (some d')) else .stuck) := by
  have hi : i ∈ own := by simpa using ho
  refine PS.weak (ps_expr (pe_bm PySem.F.plainAttrs_list PySem.F.slot_list_extend PySem.F.type_list_extend mt_extend (pe_var hN hv hd hcd) (pa_cons ha pa_nil hs) hbase hfew hline hs hpl) hsw) fun E σ H ⟨ρ, G, al, G0, H0, r, h⟩ => ?_
  (try dsimp only at h)
  obtain ⟨d, hd', h⟩ := st_ok h fun c => gv_noexc c
  obtain ⟨e1, g1, o1⟩ := ow_at r.r hi (gv_some hd')
  split at h
  · rename_i hl
    obtain ⟨ds, rfl⟩ := isLst_eq hl
    obtain ⟨vs, hH, hq⟩ := o1
    refine ⟨_, e1, .inl ⟨rfl, vs, SqL.of hH⟩, ρ, G, al, r.r, r.pst h fun y v G' H' x q h' => ?_⟩
    obtain ⟨d', hd2, h'⟩ := st_ok h' fun c => extD_noexc c
    unfold extD at hd2
    split at hd2
    · rename_i ds' es' hds
      cases hds
      split at hd2
      · rename_i c
        cases hd2
        have r' := r.mono x
        have hH' := x.h _ _ hH
        obtain ⟨b, ws, rfl, gb, qb⟩ := dr_list q
        refine ⟨al i, b, vs, ws, rfl, rfl, hH', x.s _ _ gb, by rw [dqAll_len hq, dqAll_len qb, sizeLine_eq]; omega, ?_⟩
        exact h' σ G' _ al (r'.put hi (gv_some hd') ⟨_, upd_same, dqAll_append (dqAll_same x.g _ _ hq) qb⟩)
      · cases hd2
    · cases hd2
  · exact h.elim
theorem putD_ok {K : PySem.W.Frag} {G H : Hp} {a : Addr} {x k y z : PyData} {vk v : V} (s : Same G H) (ho : Own K G H a x) (hk : DX K G H vk k) (hy : DR K G v y) (h : putD x k y = .ok z) : ∃ o, DPut H a vk v (upd H a o) ∧ Own K G (upd H a o) a z := by
  unfold putD at h
  split at h
  · rename_i hn
    split at h
    · split at h
      · rename_i kk hkk
        split at h
        · rename_i hl
          cases h
          obtain ⟨o, e, q⟩ := ho
          rcases q with ⟨ks, r', ek, rfl, q⟩ | ⟨ks, r', ek, rfl, q⟩
          · injection ek with _ ek
            subst ek
            have e2 := keyOf_eq hkk
            subst e2
            refine ⟨.dK (putK ks kk v), ?_, _, upd_same, .inl ⟨_, _, rfl, rfl, pd_put eqv_kD kk (hy.data hn) q⟩⟩
            refine .inl ⟨ks, kk, e, ?_, by rw [pd_len q, sizeLine_eq]; omega, rfl⟩
            cases kk with
            | inl i => exact dx_int hk
            | inr t => exact dx_str hk
          · injection ek with ek; injection ek with ek; injection ek with ek; cases ek
        · cases h
      · cases h
    · split at h
      · split at h
        · rename_i kk hkk
          split at h
          · rename_i hl
            cases h
            obtain ⟨o, e, q⟩ := ho
            rcases q with ⟨ks, r', ek, rfl, q⟩ | ⟨ks, r', ek, rfl, q⟩
            · injection ek with ek; injection ek with ek; injection ek with ek; cases ek
            · injection ek with _ ek
              subst ek
              have e2 := keysOf_eq hkk
              subst e2
              obtain ⟨b, ws, rfl, gb, qb⟩ := dx_tup hk
              rw [dqAll_keys qb] at gb
              exact ⟨.dT (putK ks kk v), .inr ⟨ks, kk, b, e, rfl, s _ _ gb, by rw [pd_len (enc := fun k : List Key => .tuple (k.map kD)) q, sizeLine_eq]; omega, rfl⟩, _, upd_same, .inr ⟨_, _, rfl, rfl, pd_put (enc := fun k : List Key => .tuple (k.map kD)) eqv_kTD kk (hy.data hn) q⟩⟩
          · cases h
        · cases h
      · cases h
    · cases h
  · cases h
theorem sv_put {i : Nat} {x : Str} {xp : Pos} {a : Expr} (hu : X.A.units + 1 < cLine) (hN : X.N[i]? = some x) (hv : Vis X.env.scope x) (hd : (x == ("__debug__" : Str)) = false) (hcd : (x == ("__classdict__" : Str)) = false) (ho : own.contains i = true) (ha : EX X P own a fa) (he : EV X P own e fe)
    (hs : swapsWith e (some (.Subscript (.Name x xp) a pos')) pos.line X.env = pure false) :
    SV X P own own (.Assign [.Subscript (.Name x xp) a pos'] e pos) (fun ρ => (fe ρ).st ρ fun y => (gv ρ i).st ρ fun d => (fa ρ).st ρ fun k => (putD d k y).st ρ fun d' => .nx (ρ.set i (some d'))) := by
  have hi : i ∈ own := by simpa using ho
  refine PS.weak (ps_dput hu (pe_var hN hv hd hcd) ha he hs) fun E σ H ⟨ρ, G, al, G0, H0, r, h⟩ => ?_
  (try dsimp only at h)
  refine ⟨ρ, G, al, r.r, r.pst h fun y v G' H' x q h' => ?_⟩
  obtain ⟨d, hd', h'⟩ := st_ok h' fun c => gv_noexc c
  have r' := r.mono x
  obtain ⟨e1, g1, o1⟩ := ow_at r'.r hi (gv_some hd')
  refine ⟨_, e1, ρ, G', al, r'.r, r'.pst h' fun k vk G2 H2 x2 q2 h2 => ?_⟩
  have r2 := r'.mono x2
  obtain ⟨z, hz, h2⟩ := st_ok h2 fun c => putD_noexc c
  obtain ⟨e2, g2, o2⟩ := ow_at r2.r hi (gv_some hd')
  obtain ⟨o, hp, w⟩ := putD_ok r2.r.sub o2 q2 (dr_same x2.g q) hz
  exact ⟨_, _, rfl, hp, h2 σ G2 _ al (r2.put hi (gv_some hd') w)⟩
theorem sv_raise {C : Str} {m : Str} {j : Nat} {p2 : Pos} (hc : X.calm = true) (tk : Takes X P.W) (q : PySem.W.excIn X.K (P.ea C) He.veBase "ValueError.__new__" = true) (gC : X.mg C = some (.ref (P.ea C))) (kC : PySem.W.keepIn X.K (.ref (P.ea C)) = true)
    (sC : PySem.W.subIn X.K (.ref (P.ea C)) (.type "BaseException") = some true) (tC : PySem.W.typeIn X.K (.ref (P.ea C)) = some (.type "type")) (hg : Gl X C) (hdb : (C == ("__debug__" : Str)) = false) :
    SV X P own own' (.Raise (some (.Call (.Name C p) [.Constant (.str m) j p2] [] pos')) none pos) (fun ρ => .ex C ρ) := by
  refine PS.weak (ps_raise hc tk (pmk_own PySem.F.excBase_ValueError q gC kC (raises_own sC tC) hg hdb)) fun E σ H ⟨ρ, G, al, G0, H0, r, h⟩ => ?_
  (try dsimp only at h)
  obtain ⟨G2, _, r2⟩ := r.drop (own' := []) fun i hi => absurd hi List.not_mem_nil
  exact h σ G2 H al r2
abbrev BX (X : Cx) (scope : Scope) (s : Shared) (H : Hp) (C : Addr) (cl : List (Str × Addr)) (fp : List Addr) : Cx := X.blk s H scope (compEnvC scope cl C X.env) fp
def allB (X : Cx) (scope : Scope) (J : Cx → Prop) : Prop := ∀ (s : Shared) (H : Hp) (C : Addr) (cl : List (Str × Addr)) (fp : List Addr), J (BX X scope s H C cl fp)
abbrev TS' (X : Cx) (P : Pm) (own : List Nat) (ifs : List Expr) (ft : Rho → Res Bool) : Prop := PTs X ifs (tBl X.K P own ft)
theorem ts_nil : TS' X P own [] (fun _ => .ok true) := ⟨fun pins s σ H Q I ⟨ρ, G, al, rl, h⟩ => pts_nil.run pins s σ H Q I (h.ok rl.sub rfl)⟩
theorem ts_one (h : TV X P own c ft) : TS' X P own [c] ft := pts_one h
variable {elt tg iter : Expr} {ifs : List Expr} {scope : Scope} {ow : List (Str × Nat)} {spos py : Pos} {y : Str} {i : Nat} {T : Tg}
def obOf (own : List Nat) (ow : List (Str × Nat)) : List Nat := own.filter fun i => !(ow.map (·.2)).contains i
theorem ev_comp (hc : X.calm = true) (hN : X.N.Nodup) (hi : IV X P own tg iter fi) (ok : blkC X.N X.env.scope scope ow = true) (hg : allB X scope fun X' => PG X' tg (tgG X.K T)) (ht : allB X scope fun X' => TS' X' (P0 P) (obOf own ow) ifs ft)
    (he : allB X scope fun X' => EV X' (P0 P) (obOf own ow) elt fe) (hs : ∀ x, foldedSetIterable iter X.env x = pure x) (hsl : subB T.slots (ow.map (·.2)) = true) :
    EV X P own (.ListComp elt [⟨tg, iter, ifs, 0⟩] scope pos) (fun ρ => (fi ρ).bind fun ds => (compF T ft fe (wipeR ρ (ow.map (·.2))) ds).bind fun r => .ok (.list r)) :=
  PE.weak (pe_lc (tt := tBl X.K (P0 P) (obOf own ow) ft) (te := tD X.K (P0 P) (obOf own ow) fe) hc hN hi (blkOk_by ok) hg ht he hs) fun σ H Q h => comp_ok rfl (subB_ok hsl) h
theorem sv_comp (hc : X.calm = true) (hN : X.N.Nodup) (hy : X.N[i]? = some y) (hyl : X.env.scope.names.lookup y = some .local) (hsw : swapsWith (.ListComp elt [⟨tg, iter, ifs, 0⟩] scope pos) (some (.Name y py)) spos.line X.env = pure true)
    (hi : IV X P own tg iter fi) (ok : blkC X.N X.env.scope scope ow = true) (hg : allB X scope fun X' => PG X' tg (tgG X.K T)) (ht : allB X scope fun X' => TS' X' (P0 P) (obOf own ow) ifs ft)
    (he : allB X scope fun X' => EV X' (P0 P) (obOf own ow) elt fe) (hs : ∀ x, foldedSetIterable iter X.env x = pure x) (hsl : subB T.slots (ow.map (·.2)) = true) (ho : outB own' own [i] = true) :
    SV X P own own' (.Assign [.Name y py] (.ListComp elt [⟨tg, iter, ifs, 0⟩] scope pos) spos) (fun ρ => ((fi ρ).bind fun ds => (compF T ft fe (wipeR ρ (ow.map (·.2))) ds).bind fun r => .ok (.list r)).st ρ fun d => .nx (ρ.set i (some d))) :=
  sv_bind (PS.weak (ps_setLc (tt := tBl X.K (P0 P) (obOf own ow) ft) (te := tD X.K (P0 P) (obOf own ow) fe) hc hN hy hyl hsw hi (blkOk_by ok) hg ht he hs) fun E σ H h => comp_ok rfl (subB_ok hsl) h) ho
def comp2F (tg : Tg) (ft : Rho → Res Bool) (fj : Rho → Res (List PyData)) (tg1 : Tg) (vs1 : List Nat) (ft1 : Rho → Res Bool) (fe : Rho → Res PyData) (ρ : Rho) : List PyData → Res (List PyData)
  | [] => .ok []
  | d :: ds => match bindT tg d ρ with
    | none => .stuck
    | some ρ1 => (noexc (ft ρ1)).bind fun k => if k then (noexc (fj ρ1)).bind fun es => (compF tg1 ft1 fe (wipeR ρ1 vs1) es).bind fun ys => (comp2F tg ft fj tg1 vs1 ft1 fe ρ ds).bind fun zs => .ok (ys ++ zs) else comp2F tg ft fj tg1 vs1 ft1 fe ρ ds
theorem noexc_ne {α : Type} {r : Res α} (c : Str) : noexc r ≠ .exc c := by
  cases r <;> (intro h; cases h)
theorem bind_ne {α β : Type} {r : Res α} {k : α → Res β} (h1 : ∀ c, r ≠ .exc c) (h2 : ∀ a c, r = .ok a → k a ≠ .exc c) (c : Str) : r.bind k ≠ .exc c := by
  cases r with
  | ok a => exact h2 a c rfl
  | exc c' => exact absurd rfl (h1 c')
  | stuck => intro h; cases h
theorem comp2F_noexc {tg tg1 : Tg} {ft ft1 : Rho → Res Bool} {fj : Rho → Res (List PyData)} {vs1 : List Nat} {fe : Rho → Res PyData} {ρ : Rho} : ∀ (c : Str) {ds : List PyData}, comp2F tg ft fj tg1 vs1 ft1 fe ρ ds ≠ .exc c
  | c, [] => fun h => by cases h
  | c, d :: ds => by
    unfold comp2F
    split
    · intro h; cases h
    · refine bind_ne (fun c => noexc_ne c) (fun k c _ => ?_) c
      cases k with
      | false => exact comp2F_noexc c
      | true =>
        refine bind_ne (fun c => noexc_ne c) (fun es c _ => ?_) c
        refine bind_ne (fun c => compF_noexc c) (fun ys c _ => ?_) c
        refine bind_ne (fun c => comp2F_noexc c) (fun zs c _ => ?_) c
        intro h
        cases h
theorem comp2F_cons {tg tg1 : Tg} {ft ft1 : Rho → Res Bool} {fj : Rho → Res (List PyData)} {vs1 : List Nat} {fe : Rho → Res PyData} {ρ : Rho} {d : PyData} {ds r : List PyData} (h : comp2F tg ft fj tg1 vs1 ft1 fe ρ (d :: ds) = .ok r) :
    ∃ ρ1 k, bindT tg d ρ = some ρ1 ∧ ft ρ1 = .ok k ∧ ((k = true ∧ ∃ es ys zs, fj ρ1 = .ok es ∧ compF tg1 ft1 fe (wipeR ρ1 vs1) es = .ok ys ∧ comp2F tg ft fj tg1 vs1 ft1 fe ρ ds = .ok zs ∧ r = ys ++ zs) ∨ (k = false ∧ comp2F tg ft fj tg1 vs1 ft1 fe ρ ds = .ok r)) := by
  unfold comp2F at h
  split at h
  · cases h
  · rename_i ρ1 e
    obtain ⟨k, hk, h⟩ := bind_eq_ok h
    refine ⟨ρ1, k, e, noexc_ok hk, ?_⟩
    cases k with
    | false => exact .inr ⟨rfl, h⟩
    | true =>
      rw [if_pos rfl] at h
      obtain ⟨es, he, h⟩ := bind_eq_ok h
      obtain ⟨ys, hy, h⟩ := bind_eq_ok h
      obtain ⟨zs, hz, h⟩ := bind_eq_ok h
      cases h
      exact .inl ⟨rfl, es, ys, zs, noexc_ok he, hy, hz, rfl⟩
def lenM (r : List PyData) : Res PyData := if r.length ≤ 1000000 then .ok (.list r) else .stuck
variable {tg1 iter1 : Expr} {ifs1 : List Expr} {vs1 : List Nat} {fj : Rho → Res (List PyData)} {ft1 : Rho → Res Bool} {T1 : Tg}
def mask (D : Addr) (H : Hp) : Hp := fun b => if b = D then none else H b
theorem mask_ne {D b : Addr} {H : Hp} (h : b ≠ D) : mask D H b = H b := if_neg h
theorem mask_some {D b : Addr} {H : Hp} {o : HO} (h : mask D H b = some o) : b ≠ D ∧ H b = some o := by
  unfold mask at h
  by_cases e : b = D
  · rw [if_pos e] at h; cases h
  · rw [if_neg e] at h; exact ⟨e, h⟩
theorem mask_upd {D : Addr} {H : Hp} {o : HO} : mask D (upd H D o) = mask D H := funext fun b => by
  unfold mask
  by_cases e : b = D
  · rw [if_pos e, if_pos e]
  · rw [if_neg e, if_neg e, upd_ne e]
theorem Ex2.mask {D : Addr} {G H G' H' : Hp} (z : Ex2 G H G' H') (g : G' D = none) : Ex2 G (mask D H) G' (mask D H') := by
  refine ⟨z.g, fun a u e => ?_, fun a u e => ?_, fun a u n1 hn n2 => ?_⟩
  · obtain ⟨ed, e⟩ := mask_some e
    rw [mask_ne ed]; exact z.h a u e
  · rw [mask_ne fun ed => by rw [ed, g] at e; cases e]; exact z.s a u e
  · by_cases ed : a = D
    · rw [ed]; exact g
    · rw [mask_ne ed] at n1; exact z.f a u n1 hn n2
theorem Rl.mask {K : PySem.W.Frag} {D : Addr} {ρ : Rho} {σ : L2.St} {G H : Hp} {al : Nat → Addr} (r : Rl K own ρ σ G H al) (g : G D = none) (hn : ∀ i d, i ∈ own → ρ[i]? = some (some d) → al i ≠ D) : Rl K own ρ σ G (mask D H) al where
  sub := fun a u e => by rw [mask_ne fun ed => by rw [ed, g] at e; cases e]; exact r.sub a u e
  len := r.len
  sh := r.sh
  ow := fun i d e hi => by
    obtain ⟨e1, g1, o⟩ := r.ow i d e hi
    exact ⟨e1, g1, o.mono (Same.refl _) (mask_ne (hn i d hi e))⟩
  inj := r.inj
theorem Rl.unmask {K : PySem.W.Frag} {D : Addr} {ρ : Rho} {σ : L2.St} {G H : Hp} {al : Nat → Addr} (r : Rl K own ρ σ G (Bv.mask D H) al) : Rl K own ρ σ G H al where
  sub := fun a u e => (mask_some (r.sub a u e)).2
  len := r.len
  sh := r.sh
  ow := fun i d e hi => by
    obtain ⟨e1, g1, o⟩ := r.ow i d e hi
    obtain ⟨u, hu⟩ := o.some
    exact ⟨e1, g1, o.mono (Same.refl _) (mask_ne (mask_some hu).1).symm⟩
  inj := r.inj
theorem comp2_ok {K : PySem.W.Frag} {ob : List Nat} {vs : List Nat} {tg tg1 : Tg} {σ : L2.St} {H : Hp} {Q : VK} (hob : ob = own.filter fun i => !vs.contains i) (hsl : ∀ i ∈ tg.slots, i ∈ vs) (hsl1 : ∀ i ∈ tg1.slots, i ∈ vs1) (hv1 : ∀ i ∈ vs1, i ∈ vs)
    (h : tD K P own (fun ρ => (fi ρ).bind fun ds => (comp2F tg ft fj tg1 vs1 ft1 fe (wipeR ρ vs) ds).bind lenM) σ H Q) :
    tLc2 (tI K P own fi) (tgG K tg) (tBl K (P0 P) ob ft) (tI K (P0 P) ob fj) (tgG K tg1) (tBl K (P0 P) ob ft1) (tD K (P0 P) ob fe) vs vs1 σ H Q := by
  have hobv : ∀ j ∈ ob, j ∉ vs := fun j hj z => by
    rw [hob] at hj
    have := (List.mem_filter.mp hj).2
    simp [z] at this
  have hob1 : (ob.filter fun i => !vs1.contains i) = ob := by
    rw [List.filter_eq_self]
    intro j hj
    have hj2 := hobv j hj
    simp
    exact fun z => hj2 (hv1 j z)
  obtain ⟨ρ, G, al, rl, h⟩ := h
  (try dsimp only at h)
  refine ⟨ρ, G, al, rl, h.bind fun ds J G1 H1 e1 hJ h1 => ?_⟩
  obtain ⟨wk, hlen⟩ := hJ
  obtain ⟨r, hr, h2⟩ := pst_bind_ok h1 fun c => comp2F_noexc c
  unfold lenM at h2
  by_cases hrl : r.length ≤ 1000000
  case neg => rw [if_neg hrl] at h2; exact h2.elim
  rw [if_pos hrl] at h2
  intro D hD
  refine ⟨fun i m H' => m = ds.length - i ∧ i ≤ ds.length ∧ ∃ G' acc accd rest, Ex2 G1 H1 G' H' ∧ G' D = none ∧ H' D = some (.lst acc) ∧ DqAll K G' acc accd ∧ comp2F tg ft fj tg1 vs1 ft1 fe (wipeR ρ vs) (ds.drop i) = .ok rest ∧ r = accd ++ rest,
    ⟨ds.length, by simp, Nat.zero_le _, G1, [], [], r, (Ex2.refl e1.s).trans (Ex2.hid _ e1.s hD), e1.s.free hD, upd_same, .nil, by simpa using hr, rfl⟩, ?_⟩
  rintro i m H' ⟨rfl, hi, G', acc, accd, rest, x', gD, hH, qa, hrest, er⟩
  obtain ⟨w1, w2⟩ := wk i G' H' x'.g x'.s
  by_cases hlt : i < ds.length
  · obtain ⟨go, yl⟩ := w1 ds[i] (List.getElem?_eq_getElem hlt)
    refine .inr ⟨go, fun H2 => ∃ G2 acc accd rest, Ex2 G1 H1 G2 H2 ∧ G2 D = none ∧ H2 D = some (.lst acc) ∧ DqAll K G2 acc accd ∧ comp2F tg ft fj tg1 vs1 ft1 fe (wipeR ρ vs) (ds.drop (i + 1)) = .ok rest ∧ r = accd ++ rest, fun H2 h2 => ⟨ds.length - (i + 1), by omega, rfl, hlt, h2⟩, fun x H2 hy => ?_⟩
    obtain ⟨G2, x2, qx⟩ := yl x H2 hy
    rw [List.drop_eq_getElem_cons hlt] at hrest
    obtain ⟨ρ1, k, hb, hk, cases2⟩ := comp2F_cons hrest
    have rl2 : Rl K ob (wipeR ρ vs) (wipe σ vs) G2 H2 al := by
      rw [hob]
      exact (rl.mono ((e1.trans x').trans x2)).wiped vs
    refine bind_ok rl2 (fun j hj z => hobv j z (hsl j hj)) qx hb fun σ3 rl3 hw => ⟨(hw vs hsl).trans wipe_wipe, ?_⟩
    refine ⟨ρ1, G2, al, rl3, pst_of_ok hk fun b G3 H3 x3 eb => ?_⟩
    subst eb
    have x3' := (x'.trans x2).trans x3
    obtain ⟨hH3, gD3⟩ := hidden (x2.trans x3) hH gD
    rcases cases2 with ⟨rfl, es, ys, zs, hj, hys, hzs, rfl⟩ | ⟨rfl, hy3⟩
    · rw [if_pos rfl]
      refine ⟨ρ1, G3, al, rl3.mono x3, pst_of_ok hj fun J1 G4 H4 x4 hJ1 => ?_⟩
      obtain ⟨wk1, hlen1⟩ := hJ1
      obtain ⟨hH4, gD4⟩ := hidden x4 hH3 gD3
      have x4' := x3'.trans x4
      have rl4 : Rl K ob ρ1 σ3 G4 (mask D H4) al := ((rl3.mono x3).mono x4).mask gD4 fun j d hj e z => by
        have e2 := (wipeR_some (bindT_at hb e fun z => hobv j hj (hsl j z))).1
        have hjo : j ∈ own := by rw [hob] at hj; exact (List.mem_filter.mp hj).1
        obtain ⟨u, hu⟩ := (rl.ow j d e2 hjo).2.2.some
        have := e1.h _ _ hu
        rw [z, hD] at this
        cases this
      refine ⟨fun j m H' => m = es.length - j ∧ j ≤ es.length ∧ ∃ G' acc acc1 rest, Ex2 G1 H1 G' H' ∧ Ex2 G4 (mask D H4) G' (mask D H') ∧ G' D = none ∧ H' D = some (.lst acc) ∧ DqAll K G' acc (accd ++ acc1) ∧ compF tg1 ft1 fe (wipeR ρ1 vs1) (es.drop j) = .ok rest ∧ ys = acc1 ++ rest,
        ⟨es.length, by simp, Nat.zero_le _, G4, acc, [], ys, x4', Ex2.refl rl4.sub, gD4, hH4, by simpa using dqAll_same ((x2.trans x3).trans x4).g _ _ qa, by simpa using hys, rfl⟩, ?_⟩
      rintro j m H5 ⟨rfl, hj', G5, acc5, acc1, rest5, x5, y5, gD5, hH5, qa5, hrest5, er5⟩
      obtain ⟨u1, u2⟩ := wk1 j G5 H5 y5.g x5.s
      by_cases hjt : j < es.length
      · obtain ⟨go1, yl1⟩ := u1 es[j] (List.getElem?_eq_getElem hjt)
        refine .inr ⟨go1, fun H6 => ∃ G' acc acc1 rest, Ex2 G1 H1 G' H6 ∧ Ex2 G4 (mask D H4) G' (mask D H6) ∧ G' D = none ∧ H6 D = some (.lst acc) ∧ DqAll K G' acc (accd ++ acc1) ∧ compF tg1 ft1 fe (wipeR ρ1 vs1) (es.drop (j + 1)) = .ok rest ∧ ys = acc1 ++ rest, fun H6 h6 => ⟨es.length - (j + 1), by omega, rfl, hjt, h6⟩, fun x6 H6 hy6 => ?_⟩
        obtain ⟨G6, x6', qx6⟩ := yl1 x6 H6 hy6
        rw [List.drop_eq_getElem_cons hjt] at hrest5
        obtain ⟨ρ2, k2, hb2, hk2, cases6⟩ := compF_cons hrest5
        obtain ⟨hH6, gD6⟩ := hidden x6' hH5 gD5
        have rl6 : Rl K ob (wipeR ρ1 vs1) (wipe σ3 vs1) G6 H6 al := by
          rw [← hob1]
          exact ((rl4.mono (y5.trans (x6'.mask gD6))).wiped vs1).unmask
        refine bind_ok rl6 (fun q hq z => hobv q z (hv1 q (hsl1 q hq))) qx6 hb2 fun σ7 rl7 hw7 => ⟨(hw7 vs1 hsl1).trans wipe_wipe, ?_⟩
        refine ⟨ρ2, G6, al, rl7, pst_of_ok hk2 fun b G7 H7 x7 eb => ?_⟩
        subst eb
        obtain ⟨hH7, gD7⟩ := hidden x7 hH6 gD6
        have y7 := y5.trans ((x6'.trans x7).mask gD7)
        have x7' := (x5.trans x6').trans x7
        rcases cases6 with ⟨rfl, yv, yys, hy1, hy2, hy3, rfl⟩ | ⟨rfl, hy3⟩
        · rw [if_pos rfl]
          refine ⟨ρ2, G7, al, rl7.mono x7, pst_of_ok hy1 fun v G8 H8 x8 qv => ?_⟩
          obtain ⟨hH8, gD8⟩ := hidden x8 hH7 gD7
          have hacc : acc5.length < sizeLine := by
            have e2 := congrArg List.length er
            have e3 := congrArg List.length er5
            simp only [List.length_append, List.length_cons] at e2 e3
            rw [dqAll_len qa5, List.length_append, sizeLine_eq]
            omega
          refine ⟨acc5, hH8, hacc, G8, acc5 ++ [v], acc1 ++ [yv], yys, (x7'.trans x8).upd_hid hD gD8, ?_, gD8, upd_same, ?_, hy3, by rw [er5]; simp⟩
          · rw [mask_upd]
            exact y7.trans (x8.mask gD8)
          · rw [← List.append_assoc]
            exact dqAll_append (dqAll_same ((x6'.trans x7).trans x8).g _ _ qa5) (.cons (qv.data hy2) .nil)
        · rw [if_neg Bool.false_ne_true]
          exact ⟨G7, acc5, acc1, rest5, x7', y7, gD7, hH7, dqAll_same (x6'.trans x7).g _ _ qa5, hy3, er5⟩
      · have ej : j = es.length := by omega
        subst ej
        rw [List.drop_length] at hrest5
        cases hrest5
        rw [List.append_nil] at er5
        subst er5
        exact .inl ⟨u2 rfl, G5, acc5, accd ++ ys, zs, x5, gD5, hH5, qa5, hzs, by rw [er]; simp⟩
    · rw [if_neg Bool.false_ne_true]
      exact ⟨G3, acc, accd, rest, x3', gD3, hH3, dqAll_same (x2.trans x3).g _ _ qa, hy3, er⟩
  · have ei : i = ds.length := by omega
    subst ei
    refine .inl ⟨w2 rfl, ?_⟩
    rw [List.drop_length] at hrest
    cases hrest
    rw [List.append_nil] at er
    subst er
    exact h2 _ _ _ (x'.show_ hD hH gD) (.dq (.lst upd_same (dqAll_same (same_upd gD) _ _ qa)))
theorem sv_comp2 (hc : X.calm = true) (hN : X.N.Nodup) (hy : X.N[i]? = some y) (hyl : X.env.scope.names.lookup y = some .local) (hsw : swapsWith (.ListComp elt [⟨tg, iter, ifs, 0⟩, ⟨tg1, iter1, ifs1, 0⟩] scope pos) (some (.Name y py)) spos.line X.env = pure true)
    (hi : IV X P own tg iter fi) (ok : blkC X.N X.env.scope scope ow = true) (hv : subB vs1 (ow.map (·.2)) = true) (hg : allB X scope fun X' => PG X' tg (tgG X.K T)) (ht : allB X scope fun X' => TS' X' (P0 P) (obOf own ow) ifs ft) (hi1 : allB X scope fun X' => IV X' (P0 P) (obOf own ow) tg1 iter1 fj)
    (hg1 : allB X scope fun X' => PG X' tg1 (tgG X.K T1)) (ht1 : allB X scope fun X' => TS' X' (P0 P) (obOf own ow) ifs1 ft1) (he : allB X scope fun X' => EV X' (P0 P) (obOf own ow) elt fe) (hs : ∀ x, foldedSetIterable iter X.env x = pure x) (hs1 : ∀ env x, foldedSetIterable iter1 env x = pure x)
    (hsl : subB T.slots (ow.map (·.2)) = true) (hsl1 : subB T1.slots vs1 = true) (ho : outB own' own [i] = true) :
    SV X P own own' (.Assign [.Name y py] (.ListComp elt [⟨tg, iter, ifs, 0⟩, ⟨tg1, iter1, ifs1, 0⟩] scope pos) spos) (fun ρ => ((fi ρ).bind fun ds => (comp2F T ft fj T1 vs1 ft1 fe (wipeR ρ (ow.map (·.2))) ds).bind lenM).st ρ fun d => .nx (ρ.set i (some d))) :=
  sv_bind (PS.weak (ps_setLc2 (tt := tBl X.K (P0 P) (obOf own ow) ft) (wi1 := tI X.K (P0 P) (obOf own ow) fj) (g1 := tgG X.K T1) (tt1 := tBl X.K (P0 P) (obOf own ow) ft1) (te := tD X.K (P0 P) (obOf own ow) fe) hc hN hy hyl hsw hi (blkOk_by ok) (subB_ok hv) hg ht hi1 hg1 ht1 he hs hs1) fun E σ H h => comp2_ok rfl (subB_ok hsl) (subB_ok hsl1) (subB_ok hv) h) ho
end
end Bv
set_option Elab.async false
set_option linter.all false
set_option maxRecDepth 100000
set_option maxHeartbeats 1000000
namespace Bv
open PySem PySem.Spec L2
abbrev FE := Rho → Res PyData
abbrev FA := Rho → Res (List PyData)
abbrev FT := Rho → Res Bool
abbrev FS := Rho → SR
def xV (i : Nat) : FE := fun ρ => gv ρ i
def xK (d : PyData) : FE := fun _ => .ok d
def xBin (op : Operator) (fa fb : FE) : FE := fun ρ => (fa ρ).bind fun d => (fb ρ).bind fun e => binD op d e
def xNeg (fa : FE) : FE := fun ρ => (fa ρ).bind negD
def xCmp (op : CmpOp) (fa fb : FE) : FE := fun ρ => (fa ρ).bind fun d => (fb ρ).bind fun e => cmpD op d e
def xChain (op op' : CmpOp) (fa fb fc : FE) : FE := fun ρ => (fa ρ).bind fun d => (fb ρ).bind fun e => ((cmpD op d e).bind toB).bind fun k => if k then (fc ρ).bind fun u => cmpD op' e u else .ok (.bool false)
def tV (fa : FE) : FT := fun ρ => (fa ρ).bind toB
def tAnd (ft fu : FT) : FT := fun ρ => (ft ρ).bind fun k => if k then fu ρ else .ok false
def tOr (ft fu : FT) : FT := fun ρ => (ft ρ).bind fun k => if k then .ok true else fu ρ
def tNot (ft : FT) : FT := fun ρ => (ft ρ).bind fun k => .ok (!k)
def tYs : FT := fun _ => .ok true
def xAnd (fa fb : FE) : FE := fun ρ => ((fa ρ).bind toB).bind fun k => if k then fb ρ else .ok (.bool false)
def xOr (fa fb : FE) : FE := fun ρ => ((fa ρ).bind toB).bind fun k => if k then .ok (.bool true) else fb ρ
def xNot (fa : FE) : FE := fun ρ => ((fa ρ).bind toB).bind fun k => .ok (.bool (!k))
def xIf (ft : FT) (fa fb : FE) : FE := fun ρ => (ft ρ).bind fun k => if k then fa ρ else fb ρ
def aN : FA := fun _ => .ok []
def aC (fa : FE) (fs : FA) : FA := fun ρ => (fa ρ).bind fun d => (fs ρ).bind fun ds => .ok (d :: ds)
def xTup (fs : FA) : FE := fun ρ => (fs ρ).bind tupM
def xLst (fs : FA) : FE := fun ρ => (fs ρ).bind lstM
def xIdx (fa fb : FE) : FE := fun ρ => (fa ρ).bind fun d => (fb ρ).bind fun e => idxD d e
def oN : Rho → Res (Option Int) := fun _ => .ok none
def oS (fa : FE) : Rho → Res (Option Int) := fun ρ => (fa ρ).bind toI
def xSli (fa : FE) (fl fh : Rho → Res (Option Int)) : FE := fun ρ => (fa ρ).bind fun d => (fl ρ).bind fun l => (fh ρ).bind fun u => sliD l u d
def xRev (fa : FE) : FE := fun ρ => (fa ρ).bind revD
def xCall (φ : List PyData → Res PyData) (fs : FA) : FE := fun ρ => (fs ρ).bind φ
def xCall0 (φ : List PyData → Res PyData) : FE := fun _ => noexc (φ [])
def xBi (b : Bi) (fs : FA) : FE := fun ρ => (fs ρ).bind (biD b)
def xIsi (t : Ty) (fa : FE) : FE := fun ρ => (fa ρ).bind (isiD t)
def xMt (m : Mt) (fo : FE) (fs : FA) : FE := fun ρ => (fo ρ).bind fun d => if recvB m d then (fs ρ).bind fun ds => mtD m d ds else .stuck
def xGet1 (fo fa : FE) : FE := fun ρ => (fo ρ).bind fun d => if isDic d then (fa ρ).bind fun k => (dicD d k).bind fun r => .ok (r.getD .none) else .stuck
def xGet2 (fo fa fb : FE) : FE := fun ρ => (fo ρ).bind fun d => if isDic d then (fa ρ).bind fun k => (fb ρ).bind fun z => (dicD d k).bind fun r => .ok (r.getD z) else .stuck
def xRng1 (fa : FE) : FE := fun ρ => (fa ρ).bind fun d => (rngL [d]).bind fun ns => .ok (.list (ns.map .int))
def xRng2 (fa fb : FE) : FE := fun ρ => (fa ρ).bind fun d => (fb ρ).bind fun e => (rngL [d, e]).bind fun ns => .ok (.list (ns.map .int))
def xRng3 (fs : FA) : FE := fun ρ => (fs ρ).bind fun ds => if ds.length = 3 then (rngL ds).bind fun ns => .ok (.list (ns.map .int)) else .stuck
def iSq' (fa : FE) : FA := fun ρ => (fa ρ).bind seqD
def iRg (n : Nat) (fs : FA) : FA := fun ρ => (fs ρ).bind fun ds => if ds.length = n then (rngL ds).bind fun ns => .ok (ns.map .int) else .stuck
def iZp (fs : FA) : FA := fun ρ => (fs ρ).bind zip2D
def iEn (fs : FA) : FA := fun ρ => (fs ρ).bind enuD
def xComp (fi : FA) (T : Tg) (ft : FT) (fe : FE) (vs : List Nat) : FE := fun ρ => (fi ρ).bind fun ds => (compF T ft fe (wipeR ρ vs) ds).bind fun r => .ok (.list r)
def xComp2 (fi : FA) (T : Tg) (ft : FT) (fj : FA) (T1 : Tg) (vs1 : List Nat) (ft1 : FT) (fe : FE) (vs : List Nat) : FE := fun ρ => (fi ρ).bind fun ds => (comp2F T ft fj T1 vs1 ft1 fe (wipeR ρ vs) ds).bind lenM
def sN : FS := fun ρ => .nx ρ
def sC (f g : FS) : FS := fun ρ => (f ρ).seq g
def sRet (fa : FE) : FS := fun ρ => (fa ρ).st ρ fun d => .rt d
def sExp (fa : FE) : FS := fun ρ => (fa ρ).st ρ fun _ => .nx ρ
def sIf (ft : FT) (f g : FS) : FS := fun ρ => (ft ρ).st ρ fun k => if k then f ρ else g ρ
def sSet (i : Nat) (fa : FE) : FS := fun ρ => (fa ρ).st ρ fun d => .nx (ρ.set i (some d))
def sUnp (T : Tg) (fa : FE) : FS := fun ρ => (fa ρ).st ρ fun d => match bindT T d ρ with
  | some ρ' => .nx ρ'
  | none => .stuck
def sPar (is : List Nat) (fs : FA) : FS := fun ρ => (fs ρ).st ρ fun ds => parM is ds ρ
def sFor (T : Tg) (fi : FA) (f : FS) : FS := fun ρ => (fi ρ).st ρ fun ds => forF T f ds ρ
noncomputable def sWhl (ft : FT) (f : FS) : FS := whileV ft f
def sApp (i : Nat) (fe : FE) : FS := fun ρ => (gv ρ i).st ρ fun d => if isLst d then (fe ρ).st ρ fun y => (appD d y).st ρ fun d' => .nx (ρ.set i (some d')) else .stuck
def sExt (i : Nat) (fe : FE) : FS := fun ρ => (gv ρ i).st ρ fun d => if isLst d then (fe ρ).st ρ fun y => (extD d y).st ρ fun d' => .nx (ρ.set i (some d')) else .stuck
def sPut (i : Nat) (fa fe : FE) : FS := fun ρ => (fe ρ).st ρ fun y => (gv ρ i).st ρ fun d => (fa ρ).st ρ fun k => (putD d k y).st ρ fun d' => .nx (ρ.set i (some d'))
def sRse (C : Str) : FS := fun ρ => .ex C ρ
section
variable {X : Cx} {P : Pm} {own own' own2 : List Nat} {a b c e o : Expr} {es : List Expr} {stm : Stmt} {sts rest : List Stmt} {pos pos' p apos xp p1 p2 p3 q2 : Pos} {fa fb fc fe fo : FE} {fs fi fj : FA} {ft fu ft1 : FT} {f g : FS} {x : Str} {T T1 : Tg} {te iter : Expr}
theorem nv (i : Nat) (hN : X.N[i]? = some x := by rfl) (hv : Vis X.env.scope x := by first | exact Or.inl rfl | exact Or.inr (Or.inl rfl) | exact Or.inr (Or.inr rfl)) (ho : own.contains i = false := by rfl) (hd : (x == ("__debug__" : Str)) = false := by decide) (hcd : (x == ("__classdict__" : Str)) = false := by decide) :
    EV X P own (.Name x pos) (xV i) := ev_var hN hv (fun z => by simp [z] at ho) hd hcd
theorem nx (i : Nat) (hN : X.N[i]? = some x := by rfl) (hv : Vis X.env.scope x := by first | exact Or.inl rfl | exact Or.inr (Or.inl rfl) | exact Or.inr (Or.inr rfl)) (hd : (x == ("__debug__" : Str)) = false := by decide) (hcd : (x == ("__classdict__" : Str)) = false := by decide) :
    EX X P own (.Name x pos) (xV i) := ex_var hN hv hd hcd
theorem ki {i : Int} {j : Nat} : EV X P own (.Constant (.int i) j pos) (xK (.int i)) := ev_int
theorem kb {i : Bool} {j : Nat} : EV X P own (.Constant (.bool i) j pos) (xK (.bool i)) := ev_bl
theorem ks {i : Str} {j : Nat} : EV X P own (.Constant (.str i) j pos) (xK (.str i)) := ev_str
theorem kn {j : Nat} : EV X P own (.Constant .none j pos) (xK .none) := ev_non
theorem gi {i : Int} (hm : ∃ t, X.mg x = some (.int i t)) (hg : Gl X x := by rfl) (hd : (x == ("__debug__" : Str)) = false := by decide) : EV X P own (.Name x pos) (xK (.int i)) := by
  obtain ⟨t, hm⟩ := hm
  exact ev_const (t := tC .non) (pe_glob (v := .int i) hg hm ⟨t, rfl⟩ hd) fun _ => drI i
theorem gs {i : Str} (hm : ∃ t, X.mg x = some (.str i t)) (hg : Gl X x := by rfl) (hd : (x == ("__debug__" : Str)) = false := by decide) : EV X P own (.Name x pos) (xK (.str i)) := by
  obtain ⟨t, hm⟩ := hm
  exact ev_const (t := tC .non) (pe_glob (v := .str i) hg hm ⟨t, rfl⟩ hd) fun _ => drS i
/-- a tuple that the top wrote -/
def KstOk (K : PySem.W.Frag) (a : Addr) (ds : List PyData) : Prop := ∀ G, DR K G (.ref a) (kstD ds)
theorem gk {i : Addr} {ds : List PyData} (hm : X.mg x = some (.ref i)) (hk : KstOk X.K i ds) (hg : Gl X x := by rfl) (hd : (x == ("__debug__" : Str)) = false := by decide) : EV X P own (.Name x pos) (xK (kstD ds)) :=
  ev_const (t := tC .non) (pe_glob (v := .ref i) hg hm rfl hd) hk
theorem bn {op : Operator} (ha : EX X P own a fa) (hb : EX X P own b fb) : EV X P own (.BinOp a op b pos) (xBin op fa fb) := ev_bin (bin_ok op) ha hb
theorem ng (ha : EX X P own a fa) : EV X P own (.UnaryOp .USub a pos) (xNeg fa) := ev_neg ha
theorem cm {op : CmpOp} (hu : X.A.units + 65 < cLine) (ha : EX X P own a fa) (hb : EX X P own b fb) (hm : behindInMarks op b = false := by rfl) : EV X P own (.Compare a [op] [b] pos) (xCmp op fa fb) := ev_cmp (cmp_ok hu op) ha hb hm
theorem tc {op : CmpOp} (hu : X.A.units + 65 < cLine) (ha : EX X P own a fa) (hb : EX X P own b fb) (hm : behindInMarks op b = false := by rfl) : TV X P own (.Compare a [op] [b] pos) (tV (xCmp op fa fb)) := tv_cmp (cmp_ok hu op) ha hb hm
theorem ch {op op' : CmpOp} (hu : X.A.units + 65 < cLine) (ha : EX X P own a fa) (hb : EX X P own b fb) (hc : EX X P own c fc) (hm : lastMarks [op, op'] [b, c] = false := by rfl) : EV X P own (.Compare a [op, op'] [b, c] pos) (xChain op op' fa fb fc) := ev_chain (cmp_ok hu op) (cmp_ok hu op') ha hb hc hm
theorem th {op op' : CmpOp} (hu : X.A.units + 65 < cLine) (ha : EX X P own a fa) (hb : EX X P own b fb) (hc : EX X P own c fc) (hm : lastMarks [op, op'] [b, c] = false := by rfl) : TV X P own (.Compare a [op, op'] [b, c] pos) (tV (xChain op op' fa fb fc)) := tv_chain (cmp_ok hu op) (cmp_ok hu op') ha hb hc hm
theorem tv (h : EV X P own e fe) (he : ∀ whole, isTrue e X.env whole = (do let v ← whole; standAt e.pos; holding [v] (truthy v)) := by intro _; rfl) : TV X P own e (tV fe) := tv_val h he
theorem t1 {op : BoolOp} (h : TV X P own a ft) : TW X P own (.BoolOp op [a] pos) ft := tw_one h
theorem ta (ha : TV X P own a ft) (hb : TW X P own (.BoolOp .And (b :: es) pos) fu) : TW X P own (.BoolOp .And (a :: b :: es) pos) (tAnd ft fu) := tw_and ha hb
theorem to (ha : TV X P own a ft) (hb : TW X P own (.BoolOp .Or (b :: es) pos) fu) : TW X P own (.BoolOp .Or (a :: b :: es) pos) (tOr ft fu) := tw_or ha hb
theorem tp (h : TW X P own e ft) : TV X P own e ft := h.pt
theorem tn (ha : TV X P own a ft) : TV X P own (.UnaryOp .Not a pos) (tNot ft) := tv_not ha
theorem e1 {op : BoolOp} (h : EV X P own a fa) : EV X P own (.BoolOp op [a] pos) fa := ev_one h
theorem ea (ha : EV X P own a fa) (hb : EV X P own (.BoolOp .And (b :: es) pos) fb) : EV X P own (.BoolOp .And (a :: b :: es) pos) (xAnd fa fb) := ev_and ha hb
theorem eo (ha : EV X P own a fa) (hb : EV X P own (.BoolOp .Or (b :: es) pos) fb) : EV X P own (.BoolOp .Or (a :: b :: es) pos) (xOr fa fb) := ev_or ha hb
theorem en (ha : EV X P own a fa) : EV X P own (.UnaryOp .Not a pos) (xNot fa) := ev_not ha
theorem fi' (hc : TV X P own c ft) (ha : EV X P own a fa) (hb : EV X P own b fb) : EV X P own (.IfExp c a b pos) (xIf ft fa fb) := ev_ite hc ha hb
theorem vn : AV X P own [] aN := av_nil
theorem vc (ha : EV X P own a fa) (hb : AV X P own es fs) (hs : starEach (a :: es) X.env = (false, eval a X.env) :: starEach es X.env := by rfl) : AV X P own (a :: es) (aC fa fs) := av_cons ha hb hs
theorem un : AX X P own [] aN := ax_nil
theorem uc (ha : EX X P own a fa) (hb : AX X P own es fs) (hs : starEach (a :: es) X.env = (false, eval a X.env) :: starEach es X.env := by rfl) : AX X P own (a :: es) (aC fa fs) := ax_cons ha hb hs
theorem tu {k : Nat} (h : AV X P own es fs) : EV X P own (.Tuple es k pos) (xTup fs) := ev_tup h
theorem ls (h : AV X P own es fs) : EV X P own (.List es pos) (xLst fs) := ev_lst h
theorem ix (hu : X.A.units + 65 < cLine) (ha : EX X P own a fa) (hb : EX X P own b fb) (hs : PlainIx b := by intro _ _; rfl) : EV X P own (.Subscript a b pos) (xIdx fa fb) := ev_idx (by omega) ha hb hs
theorem o0 : OV X P own none oN := ov_none
theorem o1 (ha : EX X P own a fa) : OV X P own (some a) (oS fa) := ov_some ha
theorem sl {lo hi : Option Expr} {fl fh : Rho → Res (Option Int)} (ha : EX X P own a fa) (hl : OV X P own lo fl) (hh : OV X P own hi fh) : EV X P own (.Subscript a (.Slice lo hi none p2) pos) (xSli fa fl fh) := ev_sli ha hl hh
theorem rv {k : Nat} (ha : EX X P own a fa) : EV X P own (.Subscript a (.Slice none none (some (.UnaryOp .USub (.Constant (.int 1) k p1) p2)) p3) pos) (xRev fa) := ev_rev ha
/-- a def: where it stands, what it gives -/
structure DOk (P : Program) (w : World) (K : PySem.W.Frag) (mg : Str → Option Value) (base : Heap) (k : Nat) (x : Str) (ps : List Str) (φ : List PyData → Res PyData) : Prop where
  ex : ∃ fd, FnOk P w K mg base (L2.CX P w) k (He.ga K x) fd ps (spF K (He.ga K) φ) ∧ Binds K fd ps [] ∧ ∃ oc od osl, K.lookup (He.ga K x) = some ⟨oc, od, .func fd, osl⟩
  kp : PySem.W.keepIn K (.ref (He.ga K x)) = true
  gm : mg x = some (.ref (He.ga K x))
theorem cl {k j : Nat} {ps : List Str} {φ : List PyData → Res PyData} (F : DOk X.prog X.w X.K X.mg X.base k x ps φ) (hr : Room j X.A) (ha : AV X P own (e :: es) fs) (hk : k ≤ j := by decide) (hea : P.ea = He.ga X.K := by rfl) (tk : Takes X P.W := by first | assumption | exact L2.takes0 | exact L2.takes_of rfl rfl rfl rfl)
    (hg : Gl X x := by rfl) (hdb : (x == ("__debug__" : Str)) = false := by decide) (he : starEach (e :: es) X.env = (false, eval e X.env) :: starEach es X.env := by rfl) (hpl : (backTo pos (starEach es X.env)).any (·.1) = false := by rfl) :
    EV X P own (.Call (.Name x p) (e :: es) [] pos) (xCall φ fs) := by
  obtain ⟨fd, h1, h2, _⟩ := F.ex
  have gm := F.gm
  have kp := F.kp
  rw [← hea] at h1 gm kp
  exact ev_call h1 (hr.mono hk) tk hg gm kp h2 ha hdb he hpl
theorem cl0 {k j : Nat} {ps : List Str} {φ : List PyData → Res PyData} (F : DOk X.prog X.w X.K X.mg X.base k x ps φ) (hr : Room j X.A) (hk : k ≤ j := by decide) (hea : P.ea = He.ga X.K := by rfl) (hg : Gl X x := by rfl) (hdb : (x == ("__debug__" : Str)) = false := by decide) :
    EV X P own (.Call (.Name x p) [] [] pos) (xCall0 φ) := by
  obtain ⟨fd, h1, h2, _⟩ := F.ex
  have gm := F.gm
  have kp := F.kp
  rw [← hea] at h1 gm kp
  exact ev_call0 h1 (hr.mono hk) hg gm kp h2 hdb
theorem bi (t : Bi) (hu : X.A.units + 65 < cLine) (hm : X.mg (biN t) = none) (ha : AX X P own (e :: es) fs) (hcalm : X.calm = true := by rfl) (hg : Gl X (biN t) := by rfl)
    (he : starEach (e :: es) X.env = (false, eval e X.env) :: starEach es X.env := by rfl) (hpl : (backTo pos (starEach es X.env)).any (·.1) = false := by rfl) : EV X P own (.Call (.Name (biN t) p) (e :: es) [] pos) (xBi t fs) := ev_bi hcalm hu t hg hm ha he hpl
theorem is (t : Ty) (hm : X.mg "isinstance" = none) (hm2 : X.mg (tyN t) = none) (ha : EX X P own a fa) (hg : Gl X "isinstance" := by rfl) (hg2 : Gl X (tyN t) := by rfl) (hs : starEach [a, .Name (tyN t) p2] X.env = (false, eval a X.env) :: starEach [.Name (tyN t) p2] X.env := by rfl) :
    EV X P own (.Call (.Name "isinstance" p) [a, .Name (tyN t) p2] [] pos) (xIsi t fa) := ev_isi t hg hm hg2 hm2 ha hs
theorem mt (m : Mt) (hu : X.A.units + 65 < cLine) (ho : EX X P own o fo) (ha : AX X P own (e :: es) fs) (hbase : attributeBase o (mtN m) X.env (eval o X.env) = eval o X.env := by rfl)
    (hfew : ((backTo pos (starEach (e :: es) X.env)).all (fun x => !x.1) && (backToKw pos (keywordEach [] X.env)).all (fun x => x.1.isSome) && decide ((e :: es).length + ([] : List Keyword).length + (if ([] : List Keyword).isEmpty then 0 else 1) < 30)) = true := by rfl)
    (hline : (apos.endLine == pos.line) = true := by rfl) (hs : starEach (e :: es) X.env = (false, eval e X.env) :: starEach es X.env := by rfl) (hplain : (backTo pos (starEach es X.env)).any (·.1) = false := by rfl) :
    EV X P own (.Call (.Attribute o (mtN m) apos) (e :: es) [] pos) (xMt m fo fs) := ev_mt hu m ho ha hbase hfew hline hs hplain
theorem g1 (hu : X.A.units + 65 < cLine) (ho : EX X P own o fo) (ha : EX X P own a fa) (m : M1 X o "get" apos a pos := by exact ⟨rfl, rfl, rfl, rfl⟩) : EV X P own (.Call (.Attribute o "get" apos) [a] [] pos) (xGet1 fo fa) := ev_get1 (by omega) ho ha m
theorem g2 (hu : X.A.units + 65 < cLine) (ho : EX X P own o fo) (ha : EX X P own a fa) (hb : EV X P own b fb) (m : M2 X o "get" apos a b pos := by exact ⟨rfl, rfl, rfl, rfl⟩) : EV X P own (.Call (.Attribute o "get" apos) [a, b] [] pos) (xGet2 fo fa fb) := ev_get2 (by omega) ho ha hb m
theorem lr1 (hm : X.mg "list" = none) (hm2 : X.mg "range" = none) (ha : EX X P own a fa) (hc : X.calm = true := by rfl) (hg : Gl X "list" := by rfl) (hg2 : Gl X "range" := by rfl) (na : starEach [a] X.env = (false, eval a X.env) :: starEach [] X.env := by rfl)
    (nc : starEach [Expr.Call (.Name "range" p2) [a] [] q2] X.env = (false, eval (Expr.Call (.Name "range" p2) [a] [] q2) X.env) :: starEach [] X.env := by rfl) : EV X P own (.Call (.Name "list" p) [.Call (.Name "range" p2) [a] [] q2] [] pos) (xRng1 fa) := ev_lrng1 hc hg hm hg2 hm2 ha na nc
theorem lr2 (hm : X.mg "list" = none) (hm2 : X.mg "range" = none) (ha : EX X P own a fa) (hb : EX X P own b fb) (hc : X.calm = true := by rfl) (hg : Gl X "list" := by rfl) (hg2 : Gl X "range" := by rfl) (na : starEach [a, b] X.env = (false, eval a X.env) :: starEach [b] X.env := by rfl)
    (nb : starEach [b] X.env = (false, eval b X.env) :: starEach [] X.env := by rfl) (hp : (backTo q2 (starEach [b] X.env)).any (·.1) = false := by rfl) (nc : starEach [Expr.Call (.Name "range" p2) [a, b] [] q2] X.env = (false, eval (Expr.Call (.Name "range" p2) [a, b] [] q2) X.env) :: starEach [] X.env := by rfl) :
    EV X P own (.Call (.Name "list" p) [.Call (.Name "range" p2) [a, b] [] q2] [] pos) (xRng2 fa fb) := ev_lrng2 hc hg hm hg2 hm2 ha hb na nb hp nc
theorem lr3 (hm : X.mg "list" = none) (hm2 : X.mg "range" = none) (ha : AX X P own [a, b, c] fs) (hcalm : X.calm = true := by rfl) (hg : Gl X "list" := by rfl) (hg2 : Gl X "range" := by rfl) (na : starEach [a, b, c] X.env = (false, eval a X.env) :: starEach [b, c] X.env := by rfl)
    (hp : (backTo q2 (starEach [b, c] X.env)).any (·.1) = false := by rfl) (nc : starEach [Expr.Call (.Name "range" p2) [a, b, c] [] q2] X.env = (false, eval (Expr.Call (.Name "range" p2) [a, b, c] [] q2) X.env) :: starEach [] X.env := by rfl) :
    EV X P own (.Call (.Name "list" p) [.Call (.Name "range" p2) [a, b, c] [] q2] [] pos) (xRng3 fs) := ev_lrng3 hcalm hg hm hg2 hm2 ha na hp nc
theorem isq (ha : EV X P own a fa) : IV X P own te a (iSq' fa) := iv_seq ha
theorem ir1 (hm : X.mg "range" = none) (ha : AX X P own [a] fs) (hg : Gl X "range" := by rfl) (hs : starEach [a] X.env = [(false, eval a X.env)] := by rfl) : IV X P own te (.Call (.Name "range" p) [a] [] pos) (iRg 1 fs) := iv_rng1 hg hm ha hs
theorem ir2 (hm : X.mg "range" = none) (ha : AX X P own [a, b] fs) (hg : Gl X "range" := by rfl) (hs : starEach [a, b] X.env = [(false, eval a X.env), (false, eval b X.env)] := by rfl) (hs2 : starEach [b] X.env = [(false, eval b X.env)] := by rfl) : IV X P own te (.Call (.Name "range" p) [a, b] [] pos) (iRg 2 fs) := iv_rng2 hg hm ha hs hs2
theorem ir3 (hm : X.mg "range" = none) (ha : AX X P own [a, b, c] fs) (hg : Gl X "range" := by rfl) (hs : starEach [a, b, c] X.env = (false, eval a X.env) :: starEach [b, c] X.env := by rfl) (hpl : (backTo pos (starEach [b, c] X.env)).any (·.1) = false := by rfl) : IV X P own te (.Call (.Name "range" p) [a, b, c] [] pos) (iRg 3 fs) := iv_rng3 hg hm ha hs hpl
theorem izp {elts : List Expr} {kk : Nat} {tpos : Pos} (hm : X.mg "zip" = none) (ha : AV X P own [a, b] fs) (hg : Gl X "zip" := by rfl) (hs : starEach [a, b] X.env = (false, eval a X.env) :: starEach [b] X.env := by rfl) (hpl : (backTo pos (starEach [b] X.env)).any (·.1) = false := by rfl) :
    IV X P own (.Tuple elts kk tpos) (.Call (.Name "zip" p) [a, b] [] pos) (iZp fs) := iv_zip hg hm ha hs hpl
theorem ien {elts : List Expr} {kk : Nat} {tpos : Pos} (hm : X.mg "enumerate" = none) (ha : AV X P own [a] fs) (hg : Gl X "enumerate" := by rfl) (hs : starEach [a] X.env = [(false, eval a X.env)] := by rfl) :
    IV X P own (.Tuple elts kk tpos) (.Call (.Name "enumerate" p) [a] [] pos) (iEn fs) := iv_enum hg hm ha hs
theorem gt1 (i : Nat) (hN : X.N.Nodup) (hi : X.N[i]? = some x := by rfl) (hx : Loc X.env.scope x := by first | exact Or.inl rfl | exact Or.inr rfl) (hf : X.fn x = true ∨ X.env.scope.names.lookup x = some .local := by first | exact .inl rfl | exact .inr rfl) : PG X (.Name x pos) (tgG X.K (.nm i)) := pg_name hN hi hx hf
theorem gn : PGs X [] (gAll []) := pgs_nil
theorem gc (i : Nat) {is : List Nat} (hN : X.N.Nodup) (h : PGs X es (gAll is)) (hi : X.N[i]? = some x := by rfl) (hx : Loc X.env.scope x := by first | exact Or.inl rfl | exact Or.inr rfl) (hf : X.fn x = true ∨ X.env.scope.names.lookup x = some .local := by first | exact .inl rfl | exact .inr rfl)
    (hs : (assignEach (.Name x pos :: es) X.env).map (·.2) = assign (.Name x pos) X.env :: (assignEach es X.env).map (·.2) := by rfl) : PGs X (.Name x pos :: es) (gAll (i :: is)) := pgs_cons (pg_name hN hi hx hf) h hs
theorem gt {is : List Nat} {k : Nat} (h : PGs X es (gAll is)) (hc : X.calm = true := by rfl) (hn : (assignEach es X.env).length = is.length := by rfl) (hst : (assignEach es X.env).findIdx? (·.1) = none := by rfl) : PG X (.Tuple es k pos) (tgG X.K (.tp is)) := pg_tup hc h hn hst
variable {elt tg : Expr} {ifs : List Expr} {scope : Scope} {ow : List (Str × Nat)} {spos py : Pos} {y : Str}
theorem q0 : TS' X P own [] tYs := ts_nil
theorem q1 (h : TV X P own c ft) : TS' X P own [c] ft := ts_one h
theorem lc (ow : List (Str × Nat)) (hN : X.N.Nodup) (hi : IV X P own tg iter fi) (hg : allB X scope fun X' => PG X' tg (tgG X.K T)) (ht : allB X scope fun X' => TS' X' (P0 P) (obOf own ow) ifs ft) (he : allB X scope fun X' => EV X' (P0 P) (obOf own ow) elt fe)
    (ok : blkC X.N X.env.scope scope ow = true := by first | kernel_rfl | rfl) (hc : X.calm = true := by rfl) (hs : ∀ x, foldedSetIterable iter X.env x = pure x := by intro _; rfl) (hsl : subB T.slots (ow.map (·.2)) = true := by rfl) :
    EV X P own (.ListComp elt [⟨tg, iter, ifs, 0⟩] scope pos) (xComp fi T ft fe (ow.map (·.2))) := ev_comp hc hN hi ok hg ht he hs hsl
theorem slc (i : Nat) (ow : List (Str × Nat)) (own' : List Nat) (hN : X.N.Nodup) (hi : IV X P own tg iter fi) (hg : allB X scope fun X' => PG X' tg (tgG X.K T)) (ht : allB X scope fun X' => TS' X' (P0 P) (obOf own ow) ifs ft) (he : allB X scope fun X' => EV X' (P0 P) (obOf own ow) elt fe)
    (ok : blkC X.N X.env.scope scope ow = true := by first | kernel_rfl | rfl) (hc : X.calm = true := by rfl) (hy : X.N[i]? = some y := by rfl) (hyl : X.env.scope.names.lookup y = some .local := by rfl) (hsw : swapsWith (.ListComp elt [⟨tg, iter, ifs, 0⟩] scope pos) (some (.Name y py)) spos.line X.env = pure true := by exact L2.sw_true rfl rfl rfl (by decide +kernel))
    (hs : ∀ x, foldedSetIterable iter X.env x = pure x := by intro _; rfl) (hsl : subB T.slots (ow.map (·.2)) = true := by rfl) (ho : outB own' own [i] = true := by rfl) :
    SV X P own own' (.Assign [.Name y py] (.ListComp elt [⟨tg, iter, ifs, 0⟩] scope pos) spos) (sSet i (xComp fi T ft fe (ow.map (·.2)))) := sv_comp hc hN hy hyl hsw hi ok hg ht he hs hsl ho
variable {tg1 iter1 : Expr} {ifs1 : List Expr}
theorem slc2 (i : Nat) (ow : List (Str × Nat)) (vs1 : List Nat) (own' : List Nat) (hN : X.N.Nodup) (hi : IV X P own tg iter fi) (hg : allB X scope fun X' => PG X' tg (tgG X.K T)) (ht : allB X scope fun X' => TS' X' (P0 P) (obOf own ow) ifs ft) (hi1 : allB X scope fun X' => IV X' (P0 P) (obOf own ow) tg1 iter1 fj)
    (hg1 : allB X scope fun X' => PG X' tg1 (tgG X.K T1)) (ht1 : allB X scope fun X' => TS' X' (P0 P) (obOf own ow) ifs1 ft1) (he : allB X scope fun X' => EV X' (P0 P) (obOf own ow) elt fe)
    (ok : blkC X.N X.env.scope scope ow = true := by first | kernel_rfl | rfl) (hv : subB vs1 (ow.map (·.2)) = true := by rfl) (hc : X.calm = true := by rfl) (hy : X.N[i]? = some y := by rfl) (hyl : X.env.scope.names.lookup y = some .local := by rfl)
    (hsw : swapsWith (.ListComp elt [⟨tg, iter, ifs, 0⟩, ⟨tg1, iter1, ifs1, 0⟩] scope pos) (some (.Name y py)) spos.line X.env = pure true := by exact L2.sw_true rfl rfl rfl (by decide +kernel))
    (hs : ∀ x, foldedSetIterable iter X.env x = pure x := by intro _; rfl) (hs1 : ∀ env x, foldedSetIterable iter1 env x = pure x := by intro _ _; rfl) (hsl : subB T.slots (ow.map (·.2)) = true := by rfl) (hsl1 : subB T1.slots vs1 = true := by rfl) (ho : outB own' own [i] = true := by rfl) :
    SV X P own own' (.Assign [.Name y py] (.ListComp elt [⟨tg, iter, ifs, 0⟩, ⟨tg1, iter1, ifs1, 0⟩] scope pos) spos) (sSet i (xComp2 fi T ft fj T1 vs1 ft1 fe (ow.map (·.2)))) := sv_comp2 hc hN hy hyl hsw hi ok hv hg ht hi1 hg1 ht1 he hs hs1 hsl hsl1 ho
theorem s0 : SVs X P own own [] sN := svs_nil
theorem sc (h1 : SV X P own own' stm f) (h2 : SVs X P own' own2 rest g) : SVs X P own own2 (stm :: rest) (sC f g) := svs_cons h1 h2
theorem s1 (h : SV X P own own' stm f) : SVs X P own own' [stm] f := svs_one h
theorem sd (own : List Nat) (h : SV X P own own' stm f) (hs : subB own own2 = true := by rfl) : SV X P own2 own' stm f := sv_drop h hs
theorem sw (own' : List Nat) (h : SVs X P own own' sts f) (hs : subB own2 own' = true := by rfl) : SVs X P own own2 sts f := svs_weak h hs
theorem rt (he : EV X P own e fe) : SV X P own own' (.Return (some e) pos) (sRet fe) := sv_ret he
theorem ex (he : EV X P own e fe) (hs : swapsWith e none pos.line X.env = pure false := by rfl) : SV X P own own (.Expr e pos) (sExp fe) := sv_expr he hs
theorem sif (hc : TV X P own c ft) (ha : SVs X P own own' sts f) (hb : SVs X P own own' rest g) : SV X P own own' (.If c sts rest pos) (sIf ft f g) := sv_if hc ha hb
theorem st (i : Nat) (own' : List Nat) (hN : X.N.Nodup) (he : EV X P own e fe) (hi : X.N[i]? = some x := by rfl) (hx : Loc X.env.scope x := by first | exact Or.inl rfl | exact Or.inr rfl) (hs : swapsWith e (some (.Name x pos')) pos.line X.env = pure false := by rfl) (hf : X.fn x = true ∨ X.env.scope.names.lookup x = some .local := by first | exact .inl rfl | exact .inr rfl) (ho : outB own' own [i] = true := by rfl) :
    SV X P own own' (.Assign [.Name x pos'] e pos) (sSet i fe) := sv_set hN hi hx he hs hf ho
theorem so (i : Nat) (own2 : List Nat) (hN : X.N.Nodup) (he : FV X P own2 e fe) (hi : X.N[i]? = some x := by rfl) (hx : Loc X.env.scope x := by first | exact Or.inl rfl | exact Or.inr rfl) (hs : swapsWith e (some (.Name x pos')) pos.line X.env = pure false := by rfl) (hf : X.fn x = true ∨ X.env.scope.names.lookup x = some .local := by first | exact .inl rfl | exact .inr rfl) (ho : outB own2 own [i] = true := by rfl) :
    SV X P own (i :: own2) (.Assign [.Name x pos'] e pos) (sSet i fe) := sv_own hN hi hx he hs hf ho
theorem fls (h : AV X P own es fs) : FV X P own (.List es pos) (xLst fs) := fv_lst h
theorem fdk : FV X P own (.Dict [] [] pos) (xK (dkD [])) := fv_dk
theorem fdt : FV X P own (.Dict [] [] pos) (xK (dtD [])) := fv_dt
theorem su (own' : List Nat) (he : EV X P own e fe) (hg : PG X te (tgG X.K T)) (ho : outB own' own T.slots = true := by rfl) (hs : swapsWithSole [te] e pos.line X.env = pure false := by rfl) (hw : swappedStores [te] e X.env = pure none := by rfl)
    (h1 : (assignEach [te] X.env).map (·.2) = [assign te X.env] := by rfl) : SV X P own own' (.Assign [te] e pos) (sUnp T fe) := sv_unpack he hg ho hs hw h1
theorem sp {px py pt : Pos} {kt k2 : Nat} {pt2 : Pos} {x y : Str} (i j : Nat) (own' : List Nat) (hN : X.N.Nodup) (ha : AV X P own [a, b] fs) (hc : X.calm = true := by rfl) (hi : X.N[i]? = some x := by rfl) (hj : X.N[j]? = some y := by rfl) (hij : i ≠ j := by decide)
    (hx : X.env.scope.names.lookup x = some .local := by rfl) (hy : X.env.scope.names.lookup y = some .local := by rfl) (hw : swappedStores [.Tuple [.Name x px, .Name y py] kt pt] (.Tuple [a, b] k2 pt2) X.env = pure (some [x, y]) := by rfl)
    (hs : swapsWithSole [.Tuple [.Name x px, .Name y py] kt pt] (.Tuple [a, b] k2 pt2) pos.line X.env = pure false := by rfl) (ho : outB own' own [i, j] = true := by rfl) :
    SV X P own own' (.Assign [.Tuple [.Name x px, .Name y py] kt pt] (.Tuple [a, b] k2 pt2) pos) (sPar [i, j] fs) := sv_par (ps_par hc hN hi hj hij hx hy ha hw hs) ho
theorem fr (hi : IV X P own te iter fi) (hg : PG X te (tgG X.K T)) (hb : SVs X P own own sts f) (hp : PassesOwn (model X.prog X.w) X.A X.env X.xe := by first | assumption | exact L2.passes_of rfl) (hc : X.calm = true := by rfl) (ho : outB own own T.slots = true := by rfl) (hs : ∀ x, foldedSetIterable iter X.env x = pure x := by intro _; rfl) :
    SV X P own own (.For te iter sts [] pos) (sFor T fi f) := sv_for hp hc hi hg hb ho hs
theorem wh (hc : TV X P own c ft) (hb : SVs X P own own sts f) (hp : PassesOwn (model X.prog X.w) X.A X.env X.xe := by first | assumption | exact L2.passes_of rfl) : SV X P own own (.While c sts [] pos) (sWhl ft f) := sv_while hp hc hb
theorem sa (i : Nat) (ha : EV X P own e fe) (hN : X.N[i]? = some x := by rfl) (hv : Vis X.env.scope x := by first | exact Or.inl rfl | exact Or.inr (Or.inl rfl) | exact Or.inr (Or.inr rfl)) (hd : (x == ("__debug__" : Str)) = false := by decide) (hcd : (x == ("__classdict__" : Str)) = false := by decide) (ho : own.contains i = true := by rfl)
    (hsw : swapsWith (.Call (.Attribute (.Name x xp) "append" apos) [e] [] p) none pos.line X.env = pure false := by rfl) (hbase : attributeBase (.Name x xp) "append" X.env (eval (.Name x xp) X.env) = eval (.Name x xp) X.env := by rfl)
    (hfew : ((backTo p (starEach [e] X.env)).all (fun x => !x.1) && (backToKw p (keywordEach [] X.env)).all (fun x => x.1.isSome) && decide (([e] : List Expr).length + ([] : List Keyword).length + (if ([] : List Keyword).isEmpty then 0 else 1) < 30)) = true := by rfl)
    (hline : (apos.endLine == p.line) = true := by rfl) (hs : starEach [e] X.env = (false, eval e X.env) :: starEach [] X.env := by rfl) (hpl : (backTo p (starEach [] X.env)).any (·.1) = false := by rfl) :
    SV X P own own (.Expr (.Call (.Attribute (.Name x xp) "append" apos) [e] [] p) pos) (sApp i fe) := sv_append hN hv hd hcd ho ha hsw hbase hfew hline hs hpl
theorem sx (i : Nat) (ha : EV X P own e fe) (hN : X.N[i]? = some x := by rfl) (hv : Vis X.env.scope x := by first | exact Or.inl rfl | exact Or.inr (Or.inl rfl) | exact Or.inr (Or.inr rfl)) (hd : (x == ("__debug__" : Str)) = false := by decide) (hcd : (x == ("__classdict__" : Str)) = false := by decide) (ho : own.contains i = true := by rfl)
    (hsw : swapsWith (.Call (.Attribute (.Name x xp) "extend" apos) [e] [] p) none pos.line X.env = pure false := by rfl) (hbase : attributeBase (.Name x xp) "extend" X.env (eval (.Name x xp) X.env) = eval (.Name x xp) X.env := by rfl)
    (hfew : ((backTo p (starEach [e] X.env)).all (fun x => !x.1) && (backToKw p (keywordEach [] X.env)).all (fun x => x.1.isSome) && decide (([e] : List Expr).length + ([] : List Keyword).length + (if ([] : List Keyword).isEmpty then 0 else 1) < 30)) = true := by rfl)
    (hline : (apos.endLine == p.line) = true := by rfl) (hs : starEach [e] X.env = (false, eval e X.env) :: starEach [] X.env := by rfl) (hpl : (backTo p (starEach [] X.env)).any (·.1) = false := by rfl) :
    SV X P own own (.Expr (.Call (.Attribute (.Name x xp) "extend" apos) [e] [] p) pos) (sExt i fe) := sv_extend hN hv hd hcd ho ha hsw hbase hfew hline hs hpl
theorem sput (i : Nat) (hu : X.A.units + 65 < cLine) (ha : EX X P own a fa) (he : EV X P own e fe) (hN : X.N[i]? = some x := by rfl) (hv : Vis X.env.scope x := by first | exact Or.inl rfl | exact Or.inr (Or.inl rfl) | exact Or.inr (Or.inr rfl)) (hd : (x == ("__debug__" : Str)) = false := by decide) (hcd : (x == ("__classdict__" : Str)) = false := by decide) (ho : own.contains i = true := by rfl)
    (hs : swapsWith e (some (.Subscript (.Name x xp) a pos')) pos.line X.env = pure false := by rfl) : SV X P own own (.Assign [.Subscript (.Name x xp) a pos'] e pos) (sPut i fa fe) := sv_put (by omega) hN hv hd hcd ho ha he hs
/-- what the top says of an exception class -/
structure ExcAt (K : PySem.W.Frag) (mg : Str → Option Value) (C : Str) : Prop where
  q : PySem.W.excIn K (He.ga K C) He.veBase "ValueError.__new__" = true
  g : mg C = some (.ref (He.ga K C))
  k : PySem.W.keepIn K (.ref (He.ga K C)) = true
  s : PySem.W.subIn K (.ref (He.ga K C)) (.type "BaseException") = some true
  t : PySem.W.typeIn K (.ref (He.ga K C)) = some (.type "type")
theorem rs {C : Str} {m : Str} {j : Nat} (E : ExcAt X.K X.mg C) (hc : X.calm = true := by rfl) (hea : P.ea = He.ga X.K := by rfl) (tk : Takes X P.W := by first | assumption | exact L2.takes0 | exact L2.takes_of rfl rfl rfl rfl) (hg : Gl X C := by rfl) (hdb : (C == ("__debug__" : Str)) = false := by decide) :
    SV X P own own' (.Raise (some (.Call (.Name C p) [.Constant (.str m) j p2] [] pos')) none pos) (sRse C) := by
  have e : P.ea C = He.ga X.K C := by rw [hea]
  exact sv_raise hc tk (by rw [e]; exact E.q) (by rw [e]; exact E.g) (by rw [e]; exact E.k) (by rw [e]; exact E.s) (by rw [e]; exact E.t) hg hdb
end
def runD (n m : Nat) (f : FS) (ds : List PyData) : Res PyData := if ds.length = n then (f (ds.map some ++ List.replicate m none)).res else .stuck
theorem drs_len {K : PySem.W.Frag} {G : Hp} : ∀ {vs : List V} {ds : List PyData}, DRs K G vs ds → vs.length = ds.length
  | _, _, .nil => rfl
  | _, _, .cons _ t => by rw [List.length_cons, List.length_cons, drs_len t]
theorem drs_at {K : PySem.W.Frag} {G : Hp} : ∀ {vs : List V} {ds : List PyData}, DRs K G vs ds → ∀ {i : Nat} {d : PyData}, ds[i]? = some d → ∃ v, vs[i]? = some v ∧ DR K G v d
  | _, _, .nil, i, d, e => by simp at e
  | _, _, .cons h t, 0, d, e => by simp at e; subst e; exact ⟨_, rfl, h⟩
  | _, _, .cons h t, i + 1, d, e => by simpa using drs_at t (by simpa using e)
abbrev PmE (K : PySem.W.Frag) (E : XK) : Pm := ⟨fun cls d _ H => E cls d H, He.ga K⟩
section
variable {P : Program} {w : World} {K : PySem.W.Frag} {mg : Str → Option Value} {base : Heap}
theorem start_rl {N : List Str} {n m : Nat} {vs : List V} {ds : List PyData} {G H : Hp} (s : Same G H) (h : DRs K G vs ds) (hn : ds.length = n) (hN : N.length = n + m) :
    RS K [] (ds.map some ++ List.replicate m none) (L2.start N vs) G H (fun _ => 0) G H := by
  have hl := drs_len h
  have em : N.length - vs.length = m := by omega
  refine ⟨⟨s, ?_, fun i d e _ => ?_, fun i d _ hi => absurd hi List.not_mem_nil, fun i j d e hi => absurd hi List.not_mem_nil⟩, Ex2.refl s, fun i d _ hi => absurd hi List.not_mem_nil⟩
  · unfold L2.start
    rw [em, List.length_append, List.length_append, List.length_map, List.length_map, hl]
    simp
  · by_cases hi : i < ds.length
    · rw [List.getElem?_append_left (by simpa using hi), List.getElem?_map, List.getElem?_eq_getElem hi] at e
      simp at e
      obtain ⟨v, e1, q⟩ := drs_at h (List.getElem?_eq_getElem hi)
      rw [e] at q
      refine ⟨v, ?_, q⟩
      unfold L2.start
      rw [List.getElem?_append_left (by rw [List.length_map, hl]; exact hi), List.getElem?_map, e1]
      rfl
    · rw [List.getElem?_append_right (by simpa using hi), List.getElem?_replicate] at e
      split at e
      · cases e
      · cases e
theorem dok_mk {x : Str} {N ps : List Str} {k : Nat} {params : Arguments} {body : List Stmt} {scope : Scope} {f : FS} (n m : Nat) (F : ∃ fd, FunD K x x params body scope [] [] (He.ga K x) fd) (gm : mg x = some (.ref (He.ga K x))) (S : FnScope N ps scope) (hn : ps.length = n) (hN : N.length = n + m)
    (hb : ∀ (kV doc pm : Value) (an : Option Addr) (cdv ct : Value) (us : List Value), us.length = ps.length → bindArgs (PySem.W.fnOf x x params body scope .none kV doc pm an cdv ct) ⟨us, []⟩ = pure (ps.zip us))
    (hbody : ∀ (cdv : Value) (A : Around) (outer : List Env) (s : Shared) (H : Hp) (E : XK), Room k (A.deeper (PyProof.Rows.envOfC x scope s.heap.objs.size (He.ga K x) cdv)) →
      SVs (cxOf (L2.CX P w) P w K mg base N x scope (He.ga K x) cdv A outer s H E) (PmE K E) [] [] body f) : DOk P w K mg base (k + 1) x ps (runD n m f) := by
  obtain ⟨fd, F⟩ := F
  refine ⟨⟨fd, F.ok S (fun vs H Q E h => ?_) (fun cdv A outer s H vs Q E hr h => ⟨_, hbody cdv A outer s H E hr, ?_⟩), F.bindsN hb, ?_⟩, F.kp, gm⟩
  · obtain ⟨ds, G, s, hd, hp⟩ := h
    unfold runD at hp
    split at hp
    · rename_i hl
      rw [drs_len hd, hl, hn]
    · exact hp.elim
  · obtain ⟨ds, G, s', hd, hp⟩ := h
    unfold runD at hp
    split at hp
    · rename_i hl
      refine ⟨_, G, _, G, H, start_rl s' hd hl hN, ?_⟩
      cases q : f (ds.map some ++ List.replicate m none) with
      | nx ρ =>
        rw [q] at hp
        exact fun σ G' H' al r => hp .non G' H' r.x drN
      | rt d =>
        rw [q] at hp
        exact fun v G' H' x q => hp v G' H' x q
      | ex c ρ =>
        rw [q] at hp
        exact fun σ G' H' al r => hp G' H' r.x
      | stuck => rw [q] at hp; exact hp.elim
    · exact hp.elim
  · obtain ⟨oc, od, dV, kV, doc, pm, an, cdv, ct, osl, rfl, lk, _⟩ := F.ex
    exact ⟨oc, od, osl, lk⟩
end
end Bv
set_option Elab.async false
set_option linter.all false
set_option maxRecDepth 100000
set_option maxHeartbeats 1000000
namespace Bv
open PySem PySem.Spec L2
/-- the top's facts -/
structure Kn (fa : List He.Fa) (fn : List He.DefD) (ex : PySem.W.Frag → Bool) (K : PySem.W.Frag) (mg : Str → Option Value) : Prop where
  h : ∃ h : Heap, K.In h ∧ h.Ns mainGlobals mg
  c : He.SaysD fa fn K
  e : ex K = true
section
variable {fa : List He.Fa} {fn : List He.DefD} {ex : PySem.W.Frag → Bool} {K : PySem.W.Frag} {mg : Str → Option Value}
theorem Kn.glo (k : Kn fa fn ex K mg) (i : Nat) {x : Str} (h : fa[i]? = some (.glo x) := by rfl) : mg x = some (.ref (He.ga K x)) := by
  obtain ⟨hp, X, G⟩ := k.h
  exact He.glo_ok X G (k.c.fact i h)
theorem Kn.free (k : Kn fa fn ex K mg) (i : Nat) {x : Str} (h : fa[i]? = some (.free x) := by rfl) : mg x = none := by
  obtain ⟨hp, X, G⟩ := k.h
  exact He.free_ok X G (k.c.fact i h)
theorem Kn.int (k : Kn fa fn ex K mg) (i : Nat) {x : Str} {n : Int} (h : fa[i]? = some (.int x n) := by rfl) : ∃ t, mg x = some (.int n t) := by
  obtain ⟨hp, X, G⟩ := k.h
  exact He.int_ok X G (k.c.fact i h)
theorem Kn.str (k : Kn fa fn ex K mg) (i : Nat) {x z : Str} (h : fa[i]? = some (.str x z) := by rfl) : ∃ t, mg x = some (.str z t) := by
  obtain ⟨hp, X, G⟩ := k.h
  exact He.str_ok X G (k.c.fact i h)
theorem Kn.exc (k : Kn fa fn ex K mg) (i j : Nat) {x : Str} (h : fa[i]? = some (.glo x) := by rfl) (h2 : fa[j]? = some (.exc x) := by rfl) : ExcAt K mg x := by
  obtain ⟨c1, c2, c3, c4⟩ := He.exc_ok (k.c.fact j h2)
  exact ⟨c1, k.glo i h, c2, c3, c4⟩
theorem Kn.exm (k : Kn fa fn ex K mg) (i : Nat) {x y : Str} {b : Bool} (h : fa[i]? = some (.exm x y b) := by rfl) : PySem.W.exmOne K (.ref (He.ga K x)) (.ref (He.ga K y)) = some b := He.exm_ok (k.c.fact i h)
theorem Kn.dd (k : Kn fa fn ex K mg) (i : Nat) {d : He.DefD} (h : fn[i]? = some d := by rfl) : ∃ fd, FunD K d.name d.qual d.params d.body d.scope (d.dvs K) (d.kws K) (He.fAd K d.at_) fd := k.c.def_ i h
end
def dvD : He.Dv → PyData
  | .int i => .int i
  | .str s => .str s
  | _ => .none
def dvB : He.Dv → Bool
  | .int _ => true
  | .str _ => true
  | _ => false
/-- the top's x is a plain tuple of these -/
def kstB (K : PySem.W.Frag) (x : Str) (vs : List He.Dv) : Bool := He.tupB K x vs && (vs.all dvB && (match K.lookup (He.ga K x) with
  | some ⟨_, none, _, _⟩ => true
  | _ => false))
theorem dv_all {K : PySem.W.Frag} {G : Hp} : ∀ {vs : List He.Dv}, vs.all dvB = true → DqAll K G (vs.map (He.Dv.v K)) (vs.map dvD)
  | [], _ => .nil
  | v :: vs, h => by
    rw [List.all_cons, Bool.and_eq_true] at h
    refine .cons ?_ (dv_all h.2)
    cases v with
    | int i => exact .int i
    | str s => exact .str s
    | _ => cases h.1
theorem kst_ok {K : PySem.W.Frag} {x : Str} {vs : List He.Dv} (h : kstB K x vs = true) : KstOk K (He.ga K x) (vs.map dvD) := fun G => by
  unfold kstB at h
  rw [Bool.and_eq_true, Bool.and_eq_true] at h
  obtain ⟨h1, h2, h3⟩ := h
  refine .kst (He.tupB_ok h1 G) ?_ (dv_all h2)
  unfold He.tupB at h1
  cases q : K.lookup (He.ga K x) with
  | none => rw [q] at h1; cases h1
  | some o =>
    obtain ⟨oc, od, dt, osl⟩ := o
    rw [q] at h1 h3
    cases od with
    | some a => cases h3
    | none =>
      cases oc with
      | type c =>
        cases dt with
        | seq its n =>
          replace h1 : (decide (c = "tuple") && (decide (its.size ≤ sizeLine) && He.relAll (vs.map (He.Dv.v K)) its.toList)) = true := h1
          rw [Bool.and_eq_true, decide_eq_true_eq] at h1
          exact ⟨_, rfl, by rw [h1.1], rfl⟩
        | _ => cases h1
      | _ => cases dt <;> cases h1
abbrev AlE : Type := He.AlD × Bool
def obsE (n : Nat) (fa : List He.Fa) (fn : List He.DefD) (ex : PySem.W.Frag → Bool) (g : Addr → Option Obj) : AlE := (He.obsD fa fn (He.frG g (He.asD g n)), ex (He.frG g (He.asD g n)))
def hookE (n : Nat) (fa : List He.Fa) (fn : List He.DefD) (ex : PySem.W.Frag → Bool) : PySem.W.Hook where
  α := AlE
  obs := fun s => obsE n fa fn ex s.heap.get?
  val := fun _ => (He.valD fn, true)
  says := fun _ h => ∃ K : PySem.W.Frag, K.In h ∧ He.SaysD fa fn K ∧ ex K = true
  of := fun _ _ e => ⟨_, He.frG_in, congrArg (fun z : AlE => z.1) e, congrArg (fun z : AlE => z.2) e⟩
  keeps := fun _ _ _ ⟨K, hK, c⟩ k => ⟨K, PySem.W.Frag.In.keeps hK k, c⟩
theorem obsE_eq {n : Nat} {fa : List He.Fa} {fn : List He.DefD} {ex : PySem.W.Frag → Bool} {g : Addr → Option Obj} {s : Shared} (h : ∀ a, g a = s.heap.get? a) : obsE n fa fn ex g = (hookE n fa fn ex).obs s := by
  have e : g = s.heap.get? := funext h
  rw [e] <;> rfl
theorem hu65 {k : Nat} {A : Around} (hr : Room k A) : A.units + 65 < cLine := by have := hr.un; omega
/-- the law's promise from its function's answer -/
theorem sp_end {K : PySem.W.Frag} {φ : List PyData → Res PyData} {H : Hp} {a : Addr} {ns : List Int} (hS : SqL K H a (ns.map V.int)) (h : φ [scrD (ns.map .int)] = .ok (.bool true)) : spF K (He.ga K) φ [.ref a] H (fun v _ => v = .bl true) fun _ _ _ => False := by
  refine ⟨[scrD (ns.map .int)], H, Same.refl _, .cons (.scr hS) .nil, ?_⟩
  rw [h]
  exact fun v G' H' x q => dr_bl q
theorem walk_ofX {l : PySem.W.OpenLaw} {n k : Nat} {q : Program} {loose : List Str} {XP : (Str → Option Value) → Heap → Prop} {YP : World → Heap → Prop} {d : DefRec} {x : Str}
    (hn : l.most = some n) (hn2 : n ≤ sizeLine) (hdf : d.params.defaults = []) (hr : Room k callerA)
    (F : ∀ (w : World) (mg : Str → Option Value) (fa : Addr) (h : Heap), YP w h → h.Ns mainGlobals mg → mg d.name = some (.ref fa) →
      ∃ (K : PySem.W.Frag) (fd : FuncData) (sp : Sp), K.In h ∧ (∀ (s : Shared) (u : Value), BindsTo s fd ⟨[u], []⟩ [(x, u)]) ∧
        (∀ (H : Hp) (a : Addr) (ns : List Int), ns.length ≤ n → Only H → SqL K H a (ns.map V.int) → sp [.ref a] H (fun v _ => v = .bl true) fun _ _ _ => False) ∧
        ∀ base : Heap, K.In base → base.Ns mainGlobals mg → FnOk l.prog w K mg base (L2.CX l.prog w) k fa fd [x] sp) :
    PySem.W.WalkO q loose XP YP l.row.toRowW d [] (fun f vs => PySem.call f vs) := by
  refine Att.attach_call hn hdf fun w s₀ s₁ mg mb fa o pm cd doc a vs ns G Y ho hd hcd hmg hobj hints hlen hg => ?_
  obtain ⟨K, fd, sp, KX, hb, hsp, hF⟩ := F w mg fa _ Y G.T.g hmg
  exact law_call KX G.T.g G.T.b G.T.builtins G.T.nolimit hg hobj hints (Nat.le_trans hlen hn2) hr hF hb (fun H hO hS => hsp H a ns hlen hO hS) fun H e s' h => by
    obtain ⟨_, _, _, _, _, _, _, _, _, _, _, _, z⟩ := h
    exact z
end Bv
set_option Elab.async false
set_option linter.all false
set_option maxRecDepth 100000
set_option maxHeartbeats 1000000
namespace Bv
open PySem PySem.Spec L2
def dlike : HO → Bool
  | .dK _ => true
  | .dT _ => true
  | .frz _ (.dK _) => true
  | .frz _ (.dT _) => true
  | _ => false
/-- G' is G but for the dict at d -/
structure Swp (G G' : Hp) (d : Addr) (u u' : HO) : Prop where
  a : G d = some u
  b : G' d = some u'
  ne : ∀ x, x ≠ d → G' x = G x
  da : dlike u = true
  db : dlike u' = true
  q : ∀ (K : PySem.W.Frag) (X : Hp) (kvs : List (PyData × PyData)), DcRd K X kvs u → DcRd K X kvs u'
theorem swp_upd {G : Hp} {d : Addr} {u u' : HO} (h : G d = some u) (da : dlike u = true) (db : dlike u' = true) (q : ∀ (K : PySem.W.Frag) (X : Hp) (kvs : List (PyData × PyData)), DcRd K X kvs u → DcRd K X kvs u') : Swp G (upd G d u') d u u' :=
  ⟨h, upd_same, fun x hx => upd_ne hx, da, db, q⟩
section
variable {K : PySem.W.Frag} {G G' H H' : Hp} {d : Addr} {u u' : HO}
theorem Swp.get (s : Swp G G' d u u') {a : Addr} {o : HO} (h : G a = some o) (hd : dlike o = false) : G' a = some o := by
  rw [s.ne a fun e => by rw [e, s.a] at h; cases h; rw [s.da] at hd; cases hd]
  exact h
mutual
theorem dq_swp (s : Swp G G' d u u') : ∀ (x : PyData) (v : V), Dq K G v x → Dq K G' v x
  | .none, _, h => by cases h; exact .non
  | .bool _, _, h => by cases h; exact .bl _
  | .int _, _, h => by cases h; exact .int _
  | .str _, _, h => by cases h; exact .str _
  | .list ds, _, h => by
    cases h with
    | lst hs ha => exact .lst (s.get hs rfl) (dqAll_swp s ds _ ha)
  | .tuple ds, _, h => by
    cases h with
    | tup hs ha => exact .tup (s.get hs rfl) (dqAll_swp s ds _ ha)
  | .dict _, _, h => by cases h
theorem dqAll_swp (s : Swp G G' d u u') : ∀ (ds : List PyData) (vs : List V), DqAll K G vs ds → DqAll K G' vs ds
  | [], _, h => by cases h; exact .nil
  | x :: ds, _, h => by
    cases h with
    | cons h1 h2 => exact .cons (dq_swp s x _ h1) (dqAll_swp s ds _ h2)
end
theorem dcRd_swp (s : Swp G G' d u u') {kvs : List (PyData × PyData)} {o : HO} (h : DcRd K G kvs o) : DcRd K G' kvs o := by
  rcases h with ⟨ks, r, h0, h1, h2⟩ | ⟨ks, r, h0, h1, h2⟩
  · exact .inl ⟨ks, r, h0, h1, Paired.mapP h2 fun _ _ q => ⟨q.1, dq_swp s _ _ q.2⟩⟩
  · exact .inr ⟨ks, r, h0, h1, Paired.mapP h2 fun _ _ q => ⟨q.1, dq_swp s _ _ q.2⟩⟩
theorem dcAt_swp (s : Swp G G' d u u') {kvs : List (PyData × PyData)} {o : HO} (h : DcAt K G kvs o) : DcAt K G' kvs o := by
  rcases h with ⟨ks, r, h0, h1, h2⟩ | ⟨ks, r, h0, h1, h2⟩
  · exact .inl ⟨ks, r, h0, h1, Paired.mapP h2 fun _ _ q => ⟨q.1, dq_swp s _ _ q.2⟩⟩
  · exact .inr ⟨ks, r, h0, h1, Paired.mapP h2 fun _ _ q => ⟨q.1, dq_swp s _ _ q.2⟩⟩
theorem sqL_swp (s : Swp G G' d u u') {a : Addr} {xs : List V} (h : SqL K G a xs) : SqL K G' a xs := by
  rcases h with (h | ⟨o, h⟩) | h
  · exact .inl (.inl (s.get h rfl))
  · exact .inl (.inr ⟨o, s.get h rfl⟩)
  · exact .inr h
theorem sqT_swp (s : Swp G G' d u u') {a : Addr} {xs : List V} (h : SqT K G a xs) : SqT K G' a xs := by
  rcases h with (h | ⟨o, h⟩) | h
  · exact .inl (.inl (s.get h rfl))
  · exact .inl (.inr ⟨o, s.get h rfl⟩)
  · exact .inr h
theorem dr_swp (s : Swp G G' d u u') {x : PyData} {v : V} (h : DR K G v x) : DR K G' v x := by
  cases h with
  | dq h => exact .dq (dq_swp s _ _ h)
  | scr h => exact .scr (sqL_swp s h)
  | kst h k q => exact .kst (sqT_swp s h) k (dqAll_swp s _ _ q)
  | @dc a o kvs h q =>
    by_cases e : a = d
    · subst e
      rw [s.a] at h
      cases h
      exact .dc s.b (dcRd_swp s (s.q K G _ q))
    · exact .dc ((s.ne a e).trans h) (dcRd_swp s q)
  | exc => exact .exc
theorem Own.swp (s : Swp G G' d u u') {a : Addr} {x : PyData} (ha : H' a = H a) (h : Own K G H a x) : Own K G' H' a x := by
  cases x with
  | list ds => obtain ⟨vs, e, q⟩ := h; exact ⟨vs, ha.trans e, dqAll_swp s _ _ q⟩
  | dict kvs => obtain ⟨o, e, q⟩ := h; exact ⟨o, ha.trans e, dcAt_swp s q⟩
  | _ => exact False.elim h
theorem same_swp (s : Swp G G' d u u') (s2 : Swp H H' d u u') (e : Same G H) : Same G' H' := fun a o h => by
  by_cases c : a = d
  · rw [c, s.b] at h
    cases h
    rw [c]; exact s2.b
  · rw [s.ne a c] at h
    rw [s2.ne a c]
    exact e a o h
theorem Rl.swp {own : List Nat} {ρ : Rho} {σ : L2.St} {al : Nat → Addr} (r : Rl K own ρ σ G H al) (s : Swp G G' d u u') (s2 : Swp H H' d u u') : Rl K own ρ σ G' H' al where
  sub := same_swp s s2 r.sub
  len := r.len
  sh := fun i x e hi => by
    obtain ⟨v, e1, q⟩ := r.sh i x e hi
    exact ⟨v, e1, dr_swp s q⟩
  ow := fun i x e hi => by
    obtain ⟨e1, g, o⟩ := r.ow i x e hi
    have hn : al i ≠ d := fun z => by rw [z, s.a] at g; cases g
    exact ⟨e1, (s.ne _ hn).trans g, Own.swp s (s2.ne _ hn) o⟩
  inj := r.inj
/-- the swap taken back behind a run -/
theorem Ex2.swp {G1 H1 G2 H2 G3 H3 : Hp} (s : Swp G G1 d u u') (s2 : Swp H H1 d u u') (x : Ex2 G1 H1 G2 H2) (s3 : Swp G2 G3 d u' u) (s4 : Swp H2 H3 d u' u) : Ex2 G H G3 H3 := by
  refine ⟨fun a o e => ?_, fun a o e => ?_, same_swp s3 s4 x.s, fun a o e hn g => ?_⟩
  · by_cases c : a = d
    · rw [c, s.a] at e
      cases e
      rw [c]; exact s3.b
    · rw [s3.ne a c]
      exact x.g a o ((s.ne a c).trans e)
  · by_cases c : a = d
    · rw [c, s2.a] at e
      cases e
      rw [c]; exact s4.b
    · rw [s4.ne a c]
      exact x.h a o ((s2.ne a c).trans e)
  · have c : a ≠ d := fun c => by rw [c, s.a] at g; cases g
    rw [s3.ne a c]
    exact x.f a o ((s2.ne a c).trans e) hn ((s.ne a c).trans g)
end
/-- a dict and its locked form -/
inductive Lk : HO → Prop
  | k (ks : List (Key × V)) : Lk (.dK ks)
  | t (ks : List (List Key × V)) : Lk (.dT ks)
theorem Lk.dl {u : HO} (h : Lk u) : dlike u = true := by cases h <;> rfl
theorem Lk.df {u : HO} (h : Lk u) (o : Obj) : dlike (.frz o u) = true := by cases h <;> rfl
theorem Lk.mut {u : HO} (h : Lk u) : Mut (some u) := by cases h <;> trivial
theorem Lk.to {u : HO} (h : Lk u) (o : Obj) : ∀ (K : PySem.W.Frag) (X : Hp) (kvs : List (PyData × PyData)), DcRd K X kvs u → DcRd K X kvs (.frz o u) := by
  intro K X kvs q
  rcases q with ⟨ks, r, h0, h1, h2⟩ | ⟨ks, r, h0, h1, h2⟩
  · rcases h1 with rfl | ⟨o', rfl⟩
    · exact .inl ⟨ks, r, h0, .inr ⟨o, rfl⟩, h2⟩
    · cases h
  · rcases h1 with rfl | ⟨o', rfl⟩
    · exact .inr ⟨ks, r, h0, .inr ⟨o, rfl⟩, h2⟩
    · cases h
theorem Lk.fro {u : HO} (h : Lk u) (o : Obj) : ∀ (K : PySem.W.Frag) (X : Hp) (kvs : List (PyData × PyData)), DcRd K X kvs (.frz o u) → DcRd K X kvs u := by
  intro K X kvs q
  rcases q with ⟨ks, r, h0, h1, h2⟩ | ⟨ks, r, h0, h1, h2⟩
  · rcases h1 with e | ⟨o', e⟩
    · cases e
    · cases e; exact .inl ⟨ks, r, h0, .inl rfl, h2⟩
  · rcases h1 with e | ⟨o', e⟩
    · cases e
    · cases e; exact .inr ⟨ks, r, h0, .inl rfl, h2⟩
def dkeys : PyData → Res (List PyData)
  | .dict ((.bool _, .none) :: r) => if r.length ≤ 1000000 then .ok (r.map (·.1)) else .stuck
  | _ => .stuck
theorem dkeys_noexc {d : PyData} (c : Str) : dkeys d ≠ .exc c := by
  unfold dkeys
  split
  · split <;> (intro h; cases h)
  · intro h; cases h
theorem paired_at {α β : Type} {R : α → β → Prop} : ∀ {l : List α} {m : List β}, Paired R l m → ∀ {i : Nat} {b : β}, m[i]? = some b → ∃ a, l[i]? = some a ∧ R a b
  | _, _, .nil, i, b, e => by simp at e
  | _, _, .cons h t, 0, b, e => by simp at e; subst e; exact ⟨_, rfl, h⟩
  | _, _, .cons h t, i + 1, b, e => by simpa using paired_at t (by simpa using e)
theorem walks_keys {K : PySem.W.Frag} {G : Hp} {d : Addr} {od : Obj} {ks : List (Key × V)} {r : List (PyData × PyData)} (g : G d = some (.frz od (.dK ks))) (q : KD K G ks r) : Bv.Walks K (Itk d od ks) (r.map (·.1)) G := by
  intro i G' H' s1 s2
  have hd := s2 _ _ (s1 _ _ g)
  refine ⟨fun x hx => ?_, fun hi => ⟨hd, by rw [List.length_map] at hi; rw [pd_len q]; exact Nat.le_of_eq hi⟩⟩
  rw [List.getElem?_map] at hx
  obtain ⟨p, hp, rfl⟩ := Option.map_eq_some_iff.mp hx
  obtain ⟨a, ha, e1, _⟩ := paired_at q hp
  refine ⟨⟨hd, (List.getElem?_eq_some_iff.mp ha).1⟩, fun x H2 hy => ?_⟩
  obtain ⟨rfl, k, v, hk, rfl⟩ := hy
  rw [ha] at hk
  cases hk
  refine ⟨G', Ex2.refl s2, ?_⟩
  rw [e1]
  cases k with
  | inl i => exact drI i
  | inr t => exact drS t
theorem dqAll_ofKeys {K : PySem.W.Frag} {G : Hp} : ∀ (ks : List Key), DqAll K G (ks.map kV) (ks.map kD)
  | [] => .nil
  | .inl i :: ks => .cons (.int i) (dqAll_ofKeys ks)
  | .inr s :: ks => .cons (.str s) (dqAll_ofKeys ks)
theorem walks_keysT {K : PySem.W.Frag} {G : Hp} {d : Addr} {od : Obj} {ks : List (List Key × V)} {r : List (PyData × PyData)} (g : G d = some (.frz od (.dT ks))) (q : TD K G ks r) : Bv.Walks K (Itkt d od ks) (r.map (·.1)) G := by
  intro i G' H' s1 s2
  have hd := s2 _ _ (s1 _ _ g)
  refine ⟨fun x hx => ?_, fun hi => ⟨hd, by rw [List.length_map] at hi; rw [pd_len (enc := fun k : List Key => .tuple (k.map kD)) q]; exact Nat.le_of_eq hi⟩⟩
  rw [List.getElem?_map] at hx
  obtain ⟨p, hp, rfl⟩ := Option.map_eq_some_iff.mp hx
  obtain ⟨a, ha, e1, _⟩ := paired_at q hp
  refine ⟨⟨hd, (List.getElem?_eq_some_iff.mp ha).1⟩, fun x H2 hy => ?_⟩
  obtain ⟨rfl, k, v, b, hk, rfl, hb⟩ := hy
  rw [ha] at hk
  cases hk
  rw [e1]
  cases c : G' b with
  | none =>
    exact ⟨upd G' b (.tup (k.map kV)), Ex2.take s2 hb c, .dq (.tup upd_same (dqAll_ofKeys k))⟩
  | some o =>
    have := s2 _ _ c
    rw [hb] at this
    cases this
    exact ⟨G', Ex2.refl s2, .dq (.tup c (dqAll_ofKeys k))⟩
section
variable {K : PySem.W.Frag} {P : Pm} {own ob : List Nat} {vs : List Nat} {tg : Tg} {ft : FT} {fe : FE} {σ : L2.St} {H : Hp} {Q : VK} {i : Nat} {f : FS}
def iDk (i : Nat) : FA := fun ρ => (gv ρ i).bind dkeys
/-- a locked dict's walk -/
theorem keys_of {ρ : Rho} {G : Hp} {al : Nat → Addr} {ds : List PyData} {d : Addr} {o : HO} {kvs : List (PyData × PyData)} (rl : Rl K own ρ σ G H al) (hσ : σ[i]? = some (some (.ref d))) (hx : dkeys (.dict kvs) = .ok ds) (hd : G d = some o) (hq : DcRd K G kvs o)
    (hf : ∃ od u, o = .frz od u ∧ Lk u) {R : It → Hp → Prop} (k : ∀ J, Bv.Walks K J ds G → ds.length ≤ sizeLine → R J H) : iKeys (tVar i) σ H R := by
  obtain ⟨od, u, rfl, lk⟩ := hf
  refine ⟨_, hσ, d, od, rfl, ?_⟩
  unfold dkeys at hx
  rcases hq with ⟨ks, r, rfl, h1, h2⟩ | ⟨ks, r, rfl, h1, h2⟩
  · rcases h1 with h1 | ⟨o', h1⟩
    · cases h1
    · cases h1
      (try dsimp only at hx)
      split at hx
      · rename_i hl
        cases hx
        exact .inl ⟨ks, rl.sub _ _ hd, k _ (walks_keys hd h2) (by rw [List.length_map, sizeLine_eq]; omega)⟩
      · cases hx
  · rcases h1 with h1 | ⟨o', h1⟩
    · cases h1
    · cases h1
      (try dsimp only at hx)
      split at hx
      · rename_i hl
        cases hx
        exact .inr ⟨ks, rl.sub _ _ hd, k _ (walks_keysT hd h2) (by rw [List.length_map, sizeLine_eq]; omega)⟩
      · cases hx
/-- a slot's dict -/
theorem dict_at {ρ : Rho} {G : Hp} {al : Nat → Addr} {x : PyData} {ds : List PyData} (rl : Rl K own ρ σ G H al) (hi : i ∉ own) (hx : gv ρ i = .ok x) (hk : dkeys x = .ok ds) : ∃ d o kvs, x = .dict kvs ∧ σ[i]? = some (some (.ref d)) ∧ G d = some o ∧ DcRd K G kvs o := by
  obtain ⟨v, hv, q⟩ := rl.sh i x (gv_some hx) hi
  unfold dkeys at hk
  split at hk
  · rename_i b r
    cases b with
    | false =>
      cases q with
      | dq h => cases h
      | dc h q => exact ⟨_, _, _, rfl, hv, h, q⟩
    | true =>
      cases q with
      | dq h => cases h
      | dc h q => exact ⟨_, _, _, rfl, hv, h, q⟩
  · cases hk
theorem rd_kind {G : Hp} {kvs : List (PyData × PyData)} {o : HO} (q : DcRd K G kvs o) : Lk o ∨ ∃ od u, o = .frz od u ∧ Lk u := by
  rcases q with ⟨ks, r, h0, h1, h2⟩ | ⟨ks, r, h0, h1, h2⟩
  · rcases h1 with rfl | ⟨o', rfl⟩
    · exact .inl (.k _)
    · exact .inr ⟨_, _, rfl, .k _⟩
  · rcases h1 with rfl | ⟨o', rfl⟩
    · exact .inl (.t _)
    · exact .inr ⟨_, _, rfl, .t _⟩
theorem comp_dict (hi : i ∉ own) (hob : ob = own.filter fun i => !vs.contains i) (hsl : ∀ i ∈ tg.slots, i ∈ vs) (h : tD K P own (fun ρ => (iDk i ρ).bind fun ds => (compF tg ft fe (wipeR ρ vs) ds).bind fun r => .ok (.list r)) σ H Q) :
    tLockE (tLc (iKeys (tVar i)) (tgG K tg) (tBl K (P0 P) ob ft) (tD K (P0 P) ob fe) vs) σ H Q ∨ tLc (iKeys (tVar i)) (tgG K tg) (tBl K (P0 P) ob ft) (tD K (P0 P) ob fe) vs σ H Q := by
  obtain ⟨ρ, G, al, rl, h⟩ := h
  (try dsimp only at h)
  obtain ⟨ds, hds, h⟩ := pst_bind_ok h (by
    intro c
    unfold iDk
    exact bind_ne (fun c => gv_noexc c) (fun a c _ => dkeys_noexc c) c)
  obtain ⟨x, hx, hk⟩ := bind_eq_ok hds
  obtain ⟨d, o, kvs, rfl, hσ, hd, hq⟩ := dict_at rl hi hx hk
  rcases rd_kind hq with lk | lf
  · refine .inl ⟨d, o, rl.sub _ _ hd, lk.mut, fun od => ?_⟩
    have s1 := swp_upd hd lk.dl (lk.df od) (lk.to od)
    have s2 := swp_upd (rl.sub _ _ hd) lk.dl (lk.df od) (lk.to od)
    have rl' := rl.swp s1 s2
    refine keys_of rl' hσ hk upd_same (lk.to od K _ _ (dcRd_swp s1 hq)) ⟨od, o, rfl, lk⟩ fun J wk hl => comp_core (P := P) (ft := ft) (fe := fe) (Q := fun v H' => H' d = some (.frz od o) ∧ Q v (upd H' d o)) hob hsl rl' (Ex2.refl rl'.sub) wk hl ?_
    -- behind the comprehension
    obtain ⟨r, hr, h2⟩ := pst_bind_ok h fun c => compF_noexc c
    rw [hr]
    intro v G3 H3 x3 q3
    have e3 : H3 d = some (.frz od o) := x3.h _ _ upd_same
    have g3 : G3 d = some (.frz od o) := x3.g _ _ upd_same
    have s3 := swp_upd (u' := o) g3 (lk.df od) lk.dl (lk.fro od)
    have s4 := swp_upd (u' := o) e3 (lk.df od) lk.dl (lk.fro od)
    exact ⟨e3, h2 v _ _ (Ex2.swp s1 s2 x3 s3 s4) (dr_swp s3 q3)⟩
  · exact .inr (keys_of rl hσ hk hd hq lf fun J wk hl => comp_core hob hsl rl (Ex2.refl rl.sub) wk hl h)
def nxO : SR → SR
  | .nx ρ => .nx ρ
  | _ => .stuck
theorem for_dict {E : Ends} (hi : i ∉ own) (ho : ∀ i ∈ tg.slots, i ∉ own) (h : tS K P own own (fun ρ => (iDk i ρ).st ρ fun ds => nxO (forF tg f ds ρ)) E σ H) :
    tLock (tFor (iKeys (tVar i)) (tgG K tg) (tS K P own own f)) E σ H ∨ tFor (iKeys (tVar i)) (tgG K tg) (tS K P own own f) E σ H := by
  obtain ⟨ρ, G, al, G0, H0, r, h⟩ := h
  (try dsimp only at h)
  obtain ⟨ds, hds, h⟩ := st_ok h (by
    intro c
    unfold iDk
    exact bind_ne (fun c => gv_noexc c) (fun a c _ => dkeys_noexc c) c)
  obtain ⟨x, hx, hk⟩ := bind_eq_ok hds
  obtain ⟨d, o, kvs, rfl, hσ, hd, hq⟩ := dict_at r.r hi hx hk
  obtain ⟨ρ', hρ, h⟩ : ∃ ρ', forF tg f ds ρ = .nx ρ' ∧ SPst K P own G0 H0 E (.nx ρ') := by
    cases c : forF tg f ds ρ with
    | nx ρ' => rw [c] at h; exact ⟨ρ', rfl, h⟩
    | rt v => rw [c] at h; exact h.elim
    | ex c' ρ' => rw [c] at h; exact h.elim
    | stuck => rw [c] at h; exact h.elim
  rcases rd_kind hq with lk | lf
  · refine .inl ⟨d, o, r.r.sub _ _ hd, lk.mut, fun od => ?_⟩
    obtain ⟨F, xF, sF, rF⟩ := r.again
    have hF : F d = some o := rF.x.g.trans (Same.refl _) d o hd |> fun z => by
      have := xF.s d o hd
      exact this
    have s1 := swp_upd hd lk.dl (lk.df od) (lk.to od)
    have s2 := swp_upd (r.r.sub _ _ hd) lk.dl (lk.df od) (lk.to od)
    have sf := swp_upd hF lk.dl (lk.df od) (lk.to od)
    have rl' := r.r.swp s1 s2
    have r' : RS K own ρ σ (upd G d (.frz od o)) (upd H d (.frz od o)) al (upd G d (.frz od o)) (upd F d (.frz od o)) := by
      refine ⟨rl', ⟨Same.refl _, same_swp sf s2 rF.x.h, rl'.sub, fun _ _ _ _ g => g⟩, fun j y e hj => ?_⟩
      have n1 := rF.n j y e hj
      have hn : al j ≠ d := fun z => by rw [z, hF] at n1; cases n1
      exact (upd_ne hn).trans n1
    refine keys_of rl' hσ hk upd_same (lk.to od K _ _ (dcRd_swp s1 hq)) ⟨od, o, rfl, lk⟩ fun J wk hl => for_core ho r' wk ?_
    rw [hρ]
    intro σ3 G3 H3 al3 r3
    have e3 : H3 d = some (.frz od o) := r3.x.h _ _ upd_same
    have g3 : G3 d = some (.frz od o) := r3.x.g _ _ upd_same
    have s3 := swp_upd (u' := o) g3 (lk.df od) lk.dl (lk.fro od)
    have s4 := swp_upd (u' := o) e3 (lk.df od) lk.dl (lk.fro od)
    refine ⟨e3, h σ3 _ _ al3 (RS.outer xF ⟨r3.r.swp s3 s4, Ex2.swp s1 sf r3.x s3 s4, fun j y e hj => ?_⟩)⟩
    have n1 := r3.n j y e hj
    have hn : al3 j ≠ d := fun z => by rw [z, upd_same] at n1; cases n1
    rw [upd_ne hn] at n1
    exact n1
  · exact .inr (keys_of r.r hσ hk hd hq lf fun J wk hl => for_core ho r wk (by rw [hρ]; exact h))
end
section
variable {X : Cx} {P : Pm} {own own' : List Nat} {st : Stmt} {e : Expr}
theorem PE.or {t u : TE} (h1 : PE X e t) (h2 : PE X e u) : PE X e (fun σ H Q => t σ H Q ∨ u σ H Q) := ⟨fun pins s σ H Q I q => by
  rcases q with q | q
  · exact h1.run pins s σ H Q I q
  · exact h2.run pins s σ H Q I q⟩
theorem PS.or {t u : TS} (h1 : PS X st t) (h2 : PS X st u) : PS X st (fun E σ H => t E σ H ∨ u E σ H) := ⟨fun pins s σ H Q I q => by
  rcases q with q | q
  · exact h1.run pins s σ H Q I q
  · exact h2.run pins s σ H Q I q⟩
variable {elt tg : Expr} {ifs : List Expr} {scope : Scope} {pos spos p : Pos} {x : Str} {T : Tg} {ft : FT} {fe : FE} {f : FS} {sts : List Stmt}
def sForD (T : Tg) (i : Nat) (f : FS) : FS := fun ρ => (iDk i ρ).st ρ fun ds => nxO (forF T f ds ρ)
theorem lcd (i : Nat) (ow : List (Str × Nat)) (hN : X.N.Nodup) (hg : allB X scope fun X' => PG X' tg (tgG X.K T)) (ht : allB X scope fun X' => TS' X' (P0 P) (obOf own ow) ifs ft) (he : allB X scope fun X' => EV X' (P0 P) (obOf own ow) elt fe)
    (hi : X.N[i]? = some x := by rfl) (hv : Vis X.env.scope x := by first | exact Or.inl rfl | exact Or.inr (Or.inl rfl) | exact Or.inr (Or.inr rfl)) (ho : own.contains i = false := by rfl) (hd : (x == ("__debug__" : Str)) = false := by decide) (hcd : (x == ("__classdict__" : Str)) = false := by decide)
    (ok : blkC X.N X.env.scope scope ow = true := by first | kernel_rfl | rfl) (hc : X.calm = true := by rfl) (hs : ∀ y, foldedSetIterable (.Name x p) X.env y = pure y := by intro _; rfl) (hsl : subB T.slots (ow.map (·.2)) = true := by rfl) :
    EV X P own (.ListComp elt [⟨tg, .Name x p, ifs, 0⟩] scope pos) (xComp (iDk i) T ft fe (ow.map (·.2))) := by
  have h := pe_lc (tt := tBl X.K (P0 P) (obOf own ow) ft) (te := tD X.K (P0 P) (obOf own ow) fe) hc hN (pi_keys (tg := tg) (pe_var (pos := p) hi hv hd hcd)) (blkOk_by ok) hg ht he hs (pos := pos)
  exact PE.weak (PE.or (pe_lock h) h) fun σ H Q q => comp_dict (by simpa using ho) rfl (subB_ok hsl) q
theorem frd (i : Nat) (hg : PG X tg (tgG X.K T)) (hb : SVs X P own own sts f) (hp : PassesOwn (model X.prog X.w) X.A X.env X.xe := by first | assumption | exact L2.passes_of rfl) (hc : X.calm = true := by rfl) (ho : outB own own T.slots = true := by rfl)
    (hi : X.N[i]? = some x := by rfl) (hv : Vis X.env.scope x := by first | exact Or.inl rfl | exact Or.inr (Or.inl rfl) | exact Or.inr (Or.inr rfl)) (hio : own.contains i = false := by rfl) (hd : (x == ("__debug__" : Str)) = false := by decide) (hcd : (x == ("__classdict__" : Str)) = false := by decide)
    (hs : ∀ y, foldedSetIterable (.Name x p) X.env y = pure y := by intro _; rfl) : SV X P own own (.For tg (.Name x p) sts [] pos) (sForD T i f) := by
  have h := ps_for (pos := pos) hp hc (pi_keys (tg := tg) (pe_var (pos := p) hi hv hd hcd)) hg hb hs
  exact PS.weak (PS.or (ps_lock h) h) fun E σ H q => for_dict (by simpa using hio) (outB_ok ho).2 q
end
end Bv
set_option Elab.async false
set_option linter.all false
set_option maxRecDepth 100000
set_option maxHeartbeats 4000000
namespace Bv
open PySem PySem.Spec PyProof.Rows L2
section
variable {P : Program} {w : World} {A : Around} {E : Value → Shared → Prop} {s : Shared}
/-- an empty set's object -/
abbrev noSet (w : World) : Obj := { cls := .type "set", dict := none, data := .set #[] 0 (.fresh 0 0 (!w.params.followText "set-order")) }
abbrev hS (w : World) (s : Shared) : Heap := s.heap.push (noSet w)
/-- set(l), l a list of whole numbers -/
theorem set_of_list {l : Addr} {items : Array Value} (ns : List Int) {Q : Value → Shared → Prop} (hh : A.handled = none) (hl : s.heap.IsList l items)
    (hit : IntsAre items.toList ns) (hb : ns.length + 1 < scanBound)
    (h : ∀ (h' : Heap) (tk c : Nat), SetR w h' s.heap.objs.size (fun j => decide (j ∈ ns)) c → c ≤ ns.length →
      (∀ b o, s.heap.get? b = some o → h'.get? b = some o) → Q (.ref s.heap.objs.size) { s with heap := h', toks := tk }) :
    wpAny (model P w) A (call (.type "set") [.ref l]) Q E s := by
  have many : items.size = ns.length := by have q := IntsAre.length hit; rwa [Array.length_toList] at q
  obtain ⟨c, tl, hmro⟩ := F.called_set.mro
  have m1 := F.called_set.made; have m2 := F.called_set.sub
  refine wpAny_call (codeAny_of_tree ?_); show wpAny _ _ (callAny (.type "set") _) _ _ _
  refine wpAny_pure ⟨Code.quiet_builtin _ (by decide +kernel), codeAny_builtin F.entry_type_call ?_⟩; rw [Around.under_plain (weight_type_call_type "set" [.ref l] []) rfl]
  have m3 := F.called_set.notType; have m4 := F.called_set.canCreate; have m5 := F.typeCall_set_1 (.ref l)
  repeat (any_goals (first | assumption | wp_step))
  refine codeAny_mono (code_set_led1 (.ref l) (E := E) (Q₁ := fun obj t => obj = .ref s.heap.objs.size ∧ t = { s with heap := hS w s }) ⟨rfl, rfl⟩) fun r t hr => ?_
  match r, hr with
  | .error e, hr => exact hr
  | .ok .next, hr => exact hr.elim
  | .ok .brk, hr => exact hr.elim
  | .ok .cont, hr => exact hr.elim
  | .ok (.ret obj), hr =>
    obtain ⟨rfl, rfl⟩ := hr
    have new : (hS w s).get? s.heap.objs.size = some (noSet w) := Heap.get?_push_size _ rfl
    have ty : Shared.TypeIs { s with heap := hS w s } (.ref s.heap.objs.size) "set" := ⟨_, new, rfl⟩
    have m6 := F.called_set.init.lookup; have m7 := F.called_set.init.bind (.ref s.heap.objs.size)
    repeat (any_goals (first | assumption | wp_step))
    refine codeAny_mono (codeAny_call_builtin (R := wants (fun r t => r = .none ∧ ∃ h' tk c, t = { s with heap := h', toks := tk } ∧ SetR w h' s.heap.objs.size (fun j => decide (j ∈ ns)) c ∧ c ≤ ns.length ∧ (∀ b o, s.heap.get? b = some o → h'.get? b = some o)) E)
      F.called_set.init.plain F.entry_set_init (check_set_init_1 ty ?_)) fun r2 t2 hr2 => ?_
    · obtain ⟨⟨ocls, odict, odata, oslots⟩, hol, hcl, nl, hdl⟩ := hl
      simp only at hcl hdl; subst hcl; subst hdl
      have old : (hS w s).get? l = some { cls := .type "list", dict := odict, data := .seq items nl, slots := oslots } := Heap.get?_push_of_some _ hol
      have m8 := F.sub_list_set; have m9 := F.sub_list_frozenset
      have m10 : (Value.type "list" == Value.type "dict") = false := by decide
      have isl : (hS w s).IsList l items := ⟨_, old, rfl, nl, rfl⟩
      unfold Builtin.«set.__init__» noKeywords Builtin.Frozenset.updateFrom; generalize hPI : pyIter = PI
      wp_walk
      subst hPI
      refine wpAny_pyIter_list isl ?_; refine wpAny_bind (wpAny_runValue ?_)
      have below : l < s.heap.objs.size := Heap.lt_size hol
      have hh3 : A.in1.in1.in1.handled = none := by simp [hh]
      have sz : (hS w s).objs.size = s.heap.objs.size + 1 := Heap.size_push ..
      have ne1 : l ≠ (hS w s).objs.size := by rw [sz]; exact Nat.ne_of_lt (Nat.lt_succ_of_lt below)
      have ne2 : s.heap.objs.size ∉ [(hS w s).objs.size, l] := by rw [sz]; simp only [List.mem_cons, List.mem_singleton, List.not_mem_nil, or_false, not_or]; exact ⟨Nat.ne_of_lt (Nat.lt_succ_self _), Nat.ne_of_gt below⟩
      have val : ∀ (i : Nat) (v : Value), items[i]? = some v → ∃ k t, ns[i]? = some k ∧ v = .int k t := fun i v hv => by
        have hi : i < ns.length := by have := (Array.getElem?_eq_some_iff.mp hv).1; omega
        obtain ⟨t, e⟩ := IntsAre.int_at hit i v (by rw [Array.getElem?_toList]; exact hv)
        exact ⟨ns[i], t, List.getElem?_eq_getElem hi, by rw [e, List.getD_eq_getElem?_getD, List.getElem?_eq_getElem hi]; rfl⟩
      refine set_update_ints ((PySem.Walks.list hh3 _ l ne1 items).toS) s.heap.objs.size ne2 ns many hb val (items.size - 0) 0 _ (by omega) (Nat.zero_le _) ⟨⟨_, Heap.get?_push_size _ rfl, rfl, rfl⟩, (isl.push _)⟩ ?hS0 ?hR
      case hS0 => exact ⟨0, Nat.le_refl 0, setR_new_at (Heap.get?_push_of_some _ new)⟩
      case hR =>
        rintro ⟨h', g2, d', tk', os'⟩ c' hm hc' hS'
        obtain rfl : g2 = s.gens := hm.gens
        obtain rfl : d' = s.drawn := hm.drawn
        obtain rfl : os' = s.os := hm.os
        show wpAny _ _ _ _ _ _
        refine wpAny_pure ?_; show wpAny _ _ (ret Value.none) _ _ _
        rw [many] at hc'
        refine wpAny_pure ⟨rfl, h', tk', c', rfl, hS', hc', fun b o e => ?_⟩
        have b0 : b < s.heap.objs.size := Heap.lt_size e
        refine hm.heap b o ?_ (Heap.get?_push_of_some _ (Heap.get?_push_of_some _ e))
        simp only [List.mem_cons, List.mem_singleton, List.not_mem_nil, or_false, not_or]
        exact ⟨Nat.ne_of_lt b0, by rw [sz]; exact Nat.ne_of_lt (Nat.lt_succ_of_lt b0)⟩
    · match r2, hr2 with
      | .error e, hr2 => exact hr2
      | .ok .next, hr2 => exact hr2.elim
      | .ok .brk, hr2 => exact hr2.elim
      | .ok .cont, hr2 => exact hr2.elim
      | .ok (.ret r), hr2 =>
        obtain ⟨rfl, h', tk, c, rfl, q1, q2, q3⟩ := hr2
        repeat (any_goals (first | assumption | wp_step))
        exact h h' tk c q1 q2 q3
end
end Bv
set_option Elab.async false
set_option linter.all false
set_option maxRecDepth 100000
set_option maxHeartbeats 1000000
namespace Bv
open PySem PySem.Spec L2
theorem snoc_ind {γ : Type} {P : List γ → Prop} (h0 : P []) (hs : ∀ l a, P l → P (l ++ [a])) (l : List γ) : P l := by
  have : ∀ m : List γ, P m.reverse := fun m => by
    induction m with
    | nil => exact h0
    | cons a m ih => rw [List.reverse_cons]; exact hs _ _ ih
  have h := this l.reverse
  rwa [List.reverse_reverse] at h
def uniq {α : Type} [DecidableEq α] (l : List α) : List α := l.foldl (fun acc x => if x ∈ acc then acc else acc ++ [x]) []
section
variable {α : Type} [DecidableEq α]
theorem uniq_snoc (l : List α) (x : α) : uniq (l ++ [x]) = if x ∈ uniq l then uniq l else uniq l ++ [x] := by
  unfold uniq
  rw [List.foldl_append]
  rfl
theorem mem_uniq (l : List α) : ∀ x, x ∈ uniq l ↔ x ∈ l := by
  refine snoc_ind (P := fun l => ∀ x, x ∈ uniq l ↔ x ∈ l) (fun x => Iff.rfl) (fun l a ih x => ?_) l
  rw [uniq_snoc, List.mem_append, List.mem_singleton]
  split
  · rename_i h
    rw [ih x]
    constructor
    · exact .inl
    · rintro (h1 | rfl)
      · exact h1
      · exact (ih _).mp h
  · rw [List.mem_append, List.mem_singleton, ih x]
theorem nodup_uniq (l : List α) : (uniq l).Nodup := by
  refine snoc_ind (P := fun l => (uniq l).Nodup) List.nodup_nil (fun l a ih => ?_) l
  rw [uniq_snoc]
  split
  · exact ih
  · rename_i h
    rw [List.nodup_append]
    refine ⟨ih, List.nodup_cons.mpr ⟨List.not_mem_nil, List.nodup_nil⟩, fun x hx y hy => ?_⟩
    rw [List.mem_singleton.mp hy]
    exact fun e => h (e ▸ hx)
theorem uniq_len (l : List α) : (uniq l).length ≤ l.length := by
  refine snoc_ind (P := fun l => (uniq l).length ≤ l.length) (Nat.le_refl _) (fun l a ih => ?_) l
  rw [uniq_snoc, List.length_append]
  split
  · omega
  · rw [List.length_append]; simp; omega
end
theorem sortI_uniq {ns ys : List Int} (hp : ys.Pairwise (· < ·)) (hm : ∀ k, k ∈ ys ↔ k ∈ ns) : ys = sortI (uniq ns) := by
  refine sortI_eq ?_ (hp.imp fun {a b} h => Int.le_of_lt h)
  refine (List.perm_ext_iff_of_nodup (hp.imp fun {a b} h => Int.ne_of_lt h) (nodup_uniq ns)).mpr fun k => ?_
  rw [hm, mem_uniq]
def rSetI (K : PySem.W.Frag) (w : World) : List V → Hp → VK → Prop := fun xs H Q => ∃ (l : Addr) (ns : List Int), xs = [.ref l] ∧ SqL K H l (ns.map V.int) ∧ ns.length ≤ 4000 ∧ ∀ (a : Addr) (S : Int → Bool), H a = none → (∀ k, S k = true ↔ k ∈ ns) → Q (.ref a) (upd H a (SetO w a S (uniq ns).length))
theorem cr_setI {X : Cx} (hc : X.calm = true) : CallR X (.type "set") (rSetI X.K X.w) := by
  intro pins s σ H xs us Q I r h
  obtain ⟨l, ns, rfl, hl, hn, q⟩ := h
  rw [Vals.ref1 r]
  obtain ⟨its, rv, pl, hz⟩ := I.list hl
  have hi : PyProof.Rows.IntsAre its.toArray.toList ns := by simpa using rv.ints
  refine set_of_list ns (I.ok.hd hc) pl.isList hi (by unfold scanBound; omega) fun h' tk c R hcn k => ?_
  have ec : c = (uniq ns).length := by
    obtain ⟨o, es, ep, t, ho, hex, hd, g, nd, hm, hb, hf, hs, _⟩ := R
    have := ((List.perm_ext_iff_of_nodup nd (nodup_uniq ns)).mpr fun j => by rw [← hm j, mem_uniq, decide_eq_true_eq]).length_eq
    rw [List.length_map, Array.length_toList, hs] at this
    exact this
  subst ec
  have fr : H s.heap.objs.size = none := I.hok.fresh (Nat.le_refl _)
  exact ⟨.ref s.heap.objs.size, upd H s.heap.objs.size (SetO X.w s.heap.objs.size (fun j => decide (j ∈ ns)) (uniq ns).length), I.laid (t' := tk) k (Nat.le_refl _) (setO_new R), rfl, q _ _ fr fun j => decide_eq_true_iff⟩
def ssetD : PyData → Res PyData
  | .list l => match intsOf l with
    | some ns => if ns.length ≤ 4000 ∧ (uniq ns).length < 64 then .ok (.list ((sortI (uniq ns)).map .int)) else .stuck
    | none => .stuck
  | _ => .stuck
def xSSet (fa : FE) : FE := fun ρ => (fa ρ).bind ssetD
section
variable {X : Cx} {P : Pm} {own own' own2 : List Nat} {a b c e : Expr} {es : List Expr} {pos p p2 q2 : Pos} {fa fb fe : FE} {fs : FA} {x y z : Str}
theorem sset (hm : X.mg "sorted" = none) (hm2 : X.mg "set" = none) (ha : EX X P own a fa) (hc : X.calm = true := by rfl) (hg : Gl X "sorted" := by rfl) (hg2 : Gl X "set" := by rfl) (hs : starEach [a] X.env = (false, eval a X.env) :: starEach [] X.env := by rfl) (hp : (backTo q2 (starEach [] X.env)).any (·.1) = false := by rfl)
    (hs2 : starEach [Expr.Call (.Name "set" p2) [a] [] q2] X.env = (false, eval (Expr.Call (.Name "set" p2) [a] [] q2) X.env) :: starEach [] X.env := by rfl) (hp2 : (backTo pos (starEach [] X.env)).any (·.1) = false := by rfl) :
    EV X P own (.Call (.Name "sorted" p) [.Call (.Name "set" p2) [a] [] q2] [] pos) (xSSet fa) := by
  refine PE.weak (pe_callB (cr_sortedSet hc) hg hm (by decide +kernel) (pa_cons (pe_callTy (cr_setI hc) hg2 hm2 (by decide +kernel) (pa_cons ha pa_nil hs) (by decide) (by decide) hs hp) pa_nil hs2) (by decide) (by decide) hs2 hp2) fun σ H Q ⟨ρ, G, al, rl, h⟩ => ?_
  refine ⟨ρ, G, al, rl, Pst.bind (show Pst P (DRr X.K) σ G H ((fa ρ).bind ssetD) Q from h) fun d v G1 H1 e1 hv h1 => ?_⟩
  unfold ssetD at h1
  split at h1
  · split at h1
    · rename_i l ns hi
      split at h1
      · rename_i c
        rw [intsOf_eq hi] at hv
        obtain ⟨r, vs, rfl, g, q⟩ := dx_list e1.s hv
        rw [dqAll_ints q] at g
        refine ⟨r, ns, rfl, SqL.of g, c.1, fun A S hA hS => ⟨A, S, _, rfl, upd_same, c.2, fun ys B o1 o2 o3 hB => ?_⟩⟩
        rw [sortI_uniq o1 fun k => (o2 k).trans (hS k)]
        have x2 : Ex2 G1 H1 G1 (upd H1 A (SetO X.w A S (uniq ns).length)) := Ex2.hid _ e1.s hA
        exact new_lst (h1.up x2) x2.s (dqAll_ofInts _) B hB
      · exact h1.elim
    · exact h1.elim
  · exact h1.elim
end
end Bv
set_option Elab.async false
set_option linter.all false
set_option maxRecDepth 100000
set_option maxHeartbeats 1000000
namespace Bv
open PySem PySem.Spec L2
def zip3D : List PyData → List PyData → List PyData → List PyData
  | a :: l, b :: m, c :: k => .tuple [a, b, c] :: zip3D l m k
  | _, _, _ => []
theorem zip3D_at : ∀ {l m k : List PyData} {i : Nat} {d : PyData}, (zip3D l m k)[i]? = some d → ∃ a b c, l[i]? = some a ∧ m[i]? = some b ∧ k[i]? = some c ∧ d = .tuple [a, b, c]
  | [], _, _, i, d, h => by simp [zip3D] at h
  | _ :: _, [], _, i, d, h => by simp [zip3D] at h
  | _ :: _, _ :: _, [], i, d, h => by simp [zip3D] at h
  | a :: l, b :: m, c :: k, 0, d, h => by
    simp [zip3D] at h
    exact ⟨a, b, c, rfl, rfl, rfl, h.symm⟩
  | a :: l, b :: m, c :: k, i + 1, d, h => by
    have := zip3D_at (l := l) (m := m) (k := k) (i := i) (d := d) (by simpa [zip3D] using h)
    simpa using this
theorem zip3D_len : ∀ {l m k : List PyData}, l.length = m.length → m.length = k.length → (zip3D l m k).length = l.length
  | [], _, _, _, _ => by simp [zip3D]
  | _ :: _, [], _, h, _ => by simp at h
  | _ :: _, _ :: _, [], _, h => by simp at h
  | a :: l, b :: m, c :: k, h1, h2 => by
    simp only [zip3D, List.length_cons]
    rw [zip3D_len (by simpa using h1) (by simpa using h2)]
section
variable {K : PySem.W.Frag} {G : Hp}
theorem walks_zip3 {a b c : Addr} {xs ys zs : List V} {l m k : List PyData} (ga : G a = some (.tup xs)) (gb : G b = some (.tup ys)) (gc : G c = some (.tup zs)) (qa : DqAll K G xs l) (qb : DqAll K G ys m) (qc : DqAll K G zs k) (h1 : l.length = m.length) (h2 : m.length = k.length) : Bv.Walks K (Itz3 K a b c) (zip3D l m k) G := by
  intro i G' H' s1 s2
  have la : SqT K H' a xs := SqT.of (s2 _ _ (s1 _ _ ga))
  have lb : SqT K H' b ys := SqT.of (s2 _ _ (s1 _ _ gb))
  have lc : SqT K H' c zs := SqT.of (s2 _ _ (s1 _ _ gc))
  refine ⟨fun d hd => ?_, fun hi => ?_⟩
  · obtain ⟨d1, d2, d3, e1, e2, e3, rfl⟩ := zip3D_at hd
    obtain ⟨v, hv, q1⟩ := dqAll_at' qa e1
    obtain ⟨w, hw, q2⟩ := dqAll_at' qb e2
    obtain ⟨u, hu, q3⟩ := dqAll_at' qc e3
    refine ⟨⟨xs, ys, zs, v, w, u, la, lb, lc, hv, hw, hu⟩, fun x H2 hy => ?_⟩
    obtain ⟨T, v', w', u', rfl, hT, rfl, f1, f2, f3⟩ := hy
    have e1 := f1 xs la
    have e2 := f2 ys lb
    have e3 := f3 zs lc
    rw [hv] at e1
    rw [hw] at e2
    rw [hu] at e3
    cases e1
    cases e2
    cases e3
    have sm := s1.trans (same_upd (o := .tup [v, w, u]) (s2.free hT))
    exact ⟨upd G' T (.tup [v, w, u]), Ex2.new _ s2 hT, .dq (.tup upd_same (.cons (dq_same sm _ _ q1) (.cons (dq_same sm _ _ q2) (.cons (dq_same sm _ _ q3) .nil))))⟩
  · rw [zip3D_len h1 h2] at hi
    exact ⟨xs, ys, zs, la, lb, lc, by rw [dqAll_len qa]; exact hi, by rw [dqAll_len qb, ← h1]; exact hi, by rw [dqAll_len qc, ← h2, ← h1]; exact hi⟩
end
def zip3M : List PyData → Res (List PyData)
  | [.tuple l, .tuple m, .tuple k] => if l.length = m.length ∧ m.length = k.length ∧ l.length ≤ sizeLine then .ok (zip3D l m k) else .stuck
  | _ => .stuck
def iZ3 (fs : FA) : FA := fun ρ => (fs ρ).bind zip3M
section
variable {X : Cx} {P : Pm} {own own' own1 own2 : List Nat} {a b c e : Expr} {es : List Expr} {st : Stmt} {pos pos' p p1 : Pos} {fa fb fc fe : FE} {fs : FA} {x y z : Str}
theorem iz3 {elts : List Expr} {kk : Nat} {tpos : Pos} (hm : X.mg "zip" = none) (ha : AV X P own [a, b, c] fs) (hg : Gl X "zip" := by rfl) (hs : starEach [a, b, c] X.env = (false, eval a X.env) :: starEach [b, c] X.env := by rfl) (hpl : (backTo pos (starEach [b, c] X.env)).any (·.1) = false := by rfl) :
    IV X P own (.Tuple elts kk tpos) (.Call (.Name "zip" p) [a, b, c] [] pos) (iZ3 fs) := by
  refine PI.weak (pi_zip3 hg hm ha hs hpl) fun σ H R ⟨ρ, G, al, rl, h⟩ => ?_
  refine ⟨ρ, G, al, rl, Pst.bind (show Pst P (IR X.K) σ G H ((fs ρ).bind zip3M) R from h) fun ds vs G1 H1 e1 hv h1 => ?_⟩
  unfold zip3M at h1
  split at h1
  · split at h1
    · rename_i l m k cc
      cases hv with
      | cons x1 t =>
        cases t with
        | cons x2 t =>
          cases t with
          | cons x3 t =>
            cases t
            obtain ⟨p1, v1, rfl, g1, q1⟩ := dr_tup x1
            obtain ⟨p2, v2, rfl, g2, q2⟩ := dr_tup x2
            obtain ⟨p3, v3, rfl, g3, q3⟩ := dr_tup x3
            exact ⟨p1, p2, p3, v1, v2, v3, rfl, SqT.of (e1.s _ _ g1), SqT.of (e1.s _ _ g2), SqT.of (e1.s _ _ g3), h1 _ G1 H1 (Ex2.refl e1.s) ⟨walks_zip3 g1 g2 g3 q1 q2 q3 cc.1 cc.2.1, by rw [zip3D_len cc.1 cc.2.1]; exact cc.2.2⟩⟩
    · exact h1.elim
  · exact h1.elim
theorem sp3 {px py pz pt : Pos} {kt k2 : Nat} {pt2 : Pos} (i j l : Nat) (own' : List Nat) (hN : X.N.Nodup) (ha : AV X P own [a, b, c] fs) (hc : X.calm = true := by rfl) (hi : X.N[i]? = some x := by rfl) (hj : X.N[j]? = some y := by rfl) (hl : X.N[l]? = some z := by rfl) (hij : i ≠ j := by decide) (hil : i ≠ l := by decide) (hjl : j ≠ l := by decide)
    (hx : X.env.scope.names.lookup x = some .local := by rfl) (hy : X.env.scope.names.lookup y = some .local := by rfl) (hz : X.env.scope.names.lookup z = some .local := by rfl) (hw : swappedStores [.Tuple [.Name x px, .Name y py, .Name z pz] kt pt] (.Tuple [a, b, c] k2 pt2) X.env = pure (some [x, y, z]) := by rfl)
    (hs : swapsWithSole [.Tuple [.Name x px, .Name y py, .Name z pz] kt pt] (.Tuple [a, b, c] k2 pt2) pos.line X.env = pure false := by rfl) (ho : outB own' own [i, j, l] = true := by rfl) :
    SV X P own own' (.Assign [.Tuple [.Name x px, .Name y py, .Name z pz] kt pt] (.Tuple [a, b, c] k2 pt2) pos) (sPar [i, j, l] fs) := sv_par3 (ps_par3 hc hN hi hj hl hij hil hjl hx hy hz ha hw hs) ho
end
inductive MX (K : PySem.W.Frag) (H0 G H : Hp) : List Bool → List Addr → List V → List PyData → Prop
  | nil : MX K H0 G H [] [] [] []
  | val {v : V} {d : PyData} {fl : List Bool} {ps : List Addr} {vs : List V} {ds : List PyData} (h : DR K G v d) (t : MX K H0 G H fl ps vs ds) : MX K H0 G H (false :: fl) ps (v :: vs) (d :: ds)
  | own {p : Addr} {d : PyData} {fl : List Bool} {ps : List Addr} {vs : List V} {ds : List PyData} (h0 : H0 p = none) (hg : G p = none) (w : Own K G H p d) (np : p ∉ ps) (t : MX K H0 G H fl ps vs ds) : MX K H0 G H (true :: fl) (p :: ps) (.ref p :: vs) (d :: ds)
section
variable {K : PySem.W.Frag} {G H H0 H1 : Hp}
theorem MX.back (s : Same H0 H1) : ∀ {fl : List Bool} {ps : List Addr} {vs : List V} {ds : List PyData}, MX K H1 G H fl ps vs ds → MX K H0 G H fl ps vs ds
  | _, _, _, _, .nil => .nil
  | _, _, _, _, .val h t => .val h (MX.back s t)
  | _, _, _, _, .own h0 hg w np t => .own (s.free h0) hg w np (MX.back s t)
theorem MX.new : ∀ {fl : List Bool} {ps : List Addr} {vs : List V} {ds : List PyData}, MX K H1 G H fl ps vs ds → ∀ p ∈ ps, H1 p = none
  | _, _, _, _, .nil, p, hp => absurd hp List.not_mem_nil
  | _, _, _, _, .val h t, p, hp => MX.new t p hp
  | _, _, _, _, .own h0 hg w np t, p, hp => by
    rcases List.mem_cons.mp hp with rfl | hp
    · exact h0
    · exact MX.new t p hp
end
def tMX (K : PySem.W.Frag) (P : Pm) (own : List Nat) (fl : List Bool) (f : Rho → Res (List PyData)) : TA := fun σ H Q => ∃ ρ G al, Rl K own ρ σ G H al ∧ Pst P (fun G' H' vs ds => ∃ ps, MX K H G' H' fl ps vs ds) σ G H (f ρ) Q
abbrev MV (X : Cx) (P : Pm) (own : List Nat) (fl : List Bool) (es : List Expr) (f : FA) : Prop := PA X es (tMX X.K P own fl f)
section
variable {X : Cx} {P : Pm} {own own' own1 own2 : List Nat} {a b c e : Expr} {es : List Expr} {st : Stmt} {pos pos' p p1 : Pos} {fa fb fc fe : FE} {fs : FA} {x y z : Str} {fl : List Bool}
theorem mzN : MV X P own [] [] aN := PA.weak pa_nil fun σ H Q ⟨ρ, G, al, rl, h⟩ => Pst.ok (show Pst P _ σ G H (.ok []) Q from h) rl.sub ⟨[], .nil⟩
theorem mzV (ha : EV X P own a fa) (hb : MV X P own fl es fs) (hs : starEach (a :: es) X.env = (false, eval a X.env) :: starEach es X.env := by rfl) : MV X P own (false :: fl) (a :: es) (aC fa fs) := by
  refine PA.weak (pa_cons ha hb hs) fun σ H Q ⟨ρ, G, al, rl, h⟩ => ?_
  refine ⟨ρ, G, al, rl, Pst.bind (show Pst P _ σ G H ((fa ρ).bind fun d => (fs ρ).bind fun ds => .ok (d :: ds)) Q from h) fun d v G1 H1 e1 hv h1 => ⟨ρ, G1, al, rl.mono e1, h1.bind fun ds vs G2 H2 e2 hm h2 => ?_⟩⟩
  obtain ⟨ps, hm⟩ := hm
  exact Pst.ok h2 e2.s ⟨ps, .val (dr_same e2.g hv) (hm.back e1.h)⟩
theorem mzO (ha : FV X P own a fa) (hb : MV X P own fl es fs) (hs : starEach (a :: es) X.env = (false, eval a X.env) :: starEach es X.env := by rfl) : MV X P own (true :: fl) (a :: es) (aC fa fs) := by
  refine PA.weak (pa_cons ha hb hs) fun σ H Q ⟨ρ, G, al, rl, h⟩ => ?_
  refine ⟨ρ, G, al, rl, Pst.bind (show Pst P _ σ G H ((fa ρ).bind fun d => (fs ρ).bind fun ds => .ok (d :: ds)) Q from h) fun d v G1 H1 e1 hv h1 => ⟨ρ, G1, al, rl.mono e1, h1.bind fun ds vs G2 H2 e2 hm h2 => ?_⟩⟩
  obtain ⟨ps, hm⟩ := hm
  obtain ⟨p, rfl, hp, hg, w⟩ := hv
  obtain ⟨o, ho, hn⟩ := w.nt
  exact Pst.ok h2 e2.s ⟨p :: ps, .own hp (e2.f p o ho hn hg) (w.mono e2.g ((e2.h _ _ ho).trans ho.symm)) (fun hm' => by rw [hm.new p hm'] at ho; cases ho) (hm.back e1.h)⟩
end
section
variable {K : PySem.W.Frag} {P : Pm} {own own' : List Nat} {ρ ρ' : Rho} {σ : L2.St} {G H G' H' G0 H0 : Hp} {al : Nat → Addr} {E : Ends}
theorem RS.gain' {i : Nat} {p : Addr} {d : PyData} (r : RS K own ρ σ G H al G0 H0) (hi : i ∉ own) (h0 : H0 p = none) (g : G p = none) (w : Own K G H p d) (old : ∀ (j : Nat) (y : PyData), j ∈ own → ρ[j]? = some (some y) → al j ≠ p) :
    RS K (i :: own) (ρ.set i (some d)) (σ.set i (some (.ref p))) G H (fun j => if j = i then p else al j) G0 H0 := by
  refine ⟨⟨r.r.sub, by rw [List.length_set, List.length_set]; exact r.r.len, fun j y h hj => ?_, fun j y h hj => ?_, fun j k y z hj hk h1 h2 e => ?_⟩, r.x, fun j y h hj => ?_⟩
  · have hj1 : j ≠ i := fun z => hj (by rw [z]; exact List.mem_cons_self)
    rcases set_some h with ⟨rfl, _, _⟩ | ⟨_, h⟩
    · exact absurd rfl hj1
    · obtain ⟨v, e1, q⟩ := r.r.sh j y h fun z => hj (List.mem_cons_of_mem _ z)
      exact ⟨v, by rw [List.getElem?_set_ne (fun z => hj1 z.symm)]; exact e1, q⟩
  · rcases set_some h with ⟨rfl, rfl, hl⟩ | ⟨hn, h⟩
    · (try dsimp only)
      rw [if_pos rfl]
      exact ⟨List.getElem?_set_self (by rw [← r.r.len]; exact hl), g, w⟩
    · have hj' : j ∈ own := by
        rcases List.mem_cons.mp hj with z | z
        · exact absurd z hn
        · exact z
      (try dsimp only)
      rw [if_neg hn]
      obtain ⟨e1, g1, o1⟩ := r.r.ow j y h hj'
      exact ⟨by rw [List.getElem?_set_ne (fun z => hn z.symm)]; exact e1, g1, o1⟩
  · have cases' : ∀ {j : Nat} {y : PyData}, j ∈ i :: own → (ρ.set i (some d))[j]? = some (some y) → j = i ∨ (j ≠ i ∧ j ∈ own ∧ ρ[j]? = some (some y)) := fun {j y} hj h => by
      rcases set_some h with ⟨rfl, _, _⟩ | ⟨hn, h⟩
      · exact .inl rfl
      · rcases List.mem_cons.mp hj with z | z
        · exact absurd z hn
        · exact .inr ⟨hn, z, h⟩
    (try dsimp only at e)
    rcases cases' hj h1 with k1 | ⟨n1, o1, k1⟩
    · rcases cases' hk h2 with k2 | ⟨n2, o2, k2⟩
      · rw [k1, k2]
      · rw [if_pos k1, if_neg n2] at e
        exact absurd e.symm (old _ _ o2 k2)
    · rcases cases' hk h2 with k2 | ⟨n2, o2, k2⟩
      · rw [if_neg n1, if_pos k2] at e
        exact absurd e (old _ _ o1 k1)
      · rw [if_neg n1, if_neg n2] at e
        exact r.r.inj j k y z o1 o2 k1 k2 e
  · rcases set_some h with ⟨rfl, _, _⟩ | ⟨hn, h⟩
    · (try dsimp only)
      rw [if_pos rfl]
      exact h0
    · (try dsimp only)
      rw [if_neg hn]
      rcases List.mem_cons.mp hj with z | z
      · exact absurd z hn
      · exact r.n j y h z
def ownAfter : List Nat → List Bool → List Nat → List Nat
  | i :: is, true :: fl, own => ownAfter is fl (i :: own)
  | _ :: is, false :: fl, own => ownAfter is fl own
  | _, _, own => own
def setV : L2.St → List Nat → List V → L2.St
  | σ, i :: is, v :: vs => setV (σ.set i (some v)) is vs
  | σ, _, _ => σ
theorem rs_mix : ∀ {is : List Nat} {fl : List Bool} {ps : List Addr} {vs : List V} {ds : List PyData} {ρ : Rho} {σ : L2.St} {al : Nat → Addr} {own : List Nat} {Hs : Hp}, RS K own ρ σ G H al G0 H0 → MX K Hs G H fl ps vs ds → is.length = ds.length → is.Nodup → (∀ i ∈ is, i ∉ own) → (∀ p ∈ ps, H0 p = none) →
    (∀ p ∈ ps, ∀ (j : Nat) (y : PyData), j ∈ own → ρ[j]? = some (some y) → al j ≠ p) → ∃ al', RS K (ownAfter is fl own) (setAll ρ is ds) (setV σ is vs) G H al' G0 H0
  | [], _, _, _, _, ρ, σ, al, own, Hs, r, .nil, _, _, _, _, _ => ⟨al, r⟩
  | [], _, _, _, _, ρ, σ, al, own, Hs, r, .val _ _, hl, _, _, _, _ => by simp at hl
  | [], _, _, _, _, ρ, σ, al, own, Hs, r, .own _ _ _ _ _, hl, _, _, _, _ => by simp at hl
  | _ :: _, _, _, _, _, ρ, σ, al, own, Hs, r, .nil, hl, _, _, _, _ => by simp at hl
  | i :: is, _, _, _, _, ρ, σ, al, own, Hs, r, .val (d := d) h t, hl, hn, ho, h0, hold => by
    have hi := ho i List.mem_cons_self
    have key := rs_mix (is := is) (r.set hi h) t (by simpa using hl) (List.nodup_cons.mp hn).2 (fun j hj => ho j (List.mem_cons_of_mem _ hj)) h0 (fun p hp j y hj hy => ?_)
    exact key
    rcases set_some hy with ⟨rfl, _, _⟩ | ⟨_, hy⟩
    · exact absurd hj hi
    · exact hold p hp j y hj hy
  | i :: is, _, _, _, _, ρ, σ, al, own, Hs, r, .own (p := p) (d := d) h1 hg w np t, hl, hn, ho, h0, hold => by
    have hi := ho i List.mem_cons_self
    have hni := (List.nodup_cons.mp hn).1
    have key := rs_mix (is := is) (r.gain' hi (h0 p List.mem_cons_self) hg w (hold p List.mem_cons_self)) t (by simpa using hl) (List.nodup_cons.mp hn).2 (fun j hj hz => ?_) (fun q hq => h0 q (List.mem_cons_of_mem _ hq)) (fun q hq j y hj hy => ?_)
    exact key
    · rcases List.mem_cons.mp hz with rfl | hz
      · exact hni hj
      · exact ho j (List.mem_cons_of_mem _ hj) hz
    · by_cases e : j = i
      · (try dsimp only)
        rw [if_pos e]
        exact fun z => np (z ▸ hq)
      · (try dsimp only)
        rw [if_neg e]
        rcases set_some hy with ⟨z, _, _⟩ | ⟨_, hy⟩
        · exact absurd z e
        · rcases List.mem_cons.mp hj with z | hj
          · exact absurd z e
          · exact hold q (List.mem_cons_of_mem _ hq) j y hj hy
theorem mx_len {Hs : Hp} : ∀ {fl : List Bool} {ps : List Addr} {vs : List V} {ds : List PyData}, MX K Hs G H fl ps vs ds → vs.length = ds.length
  | _, _, _, _, .nil => rfl
  | _, _, _, _, .val h t => by rw [List.length_cons, List.length_cons, mx_len t]
  | _, _, _, _, .own h0 hg w np t => by rw [List.length_cons, List.length_cons, mx_len t]
end
section
variable {X : Cx} {P : Pm} {own own' own1 own2 : List Nat} {a b c e : Expr} {es : List Expr} {st : Stmt} {pos pos' p p1 : Pos} {fa fb fc fe : FE} {fs : FA} {x y z : Str} {fl : List Bool}
theorem nodupB_ok {l : List Nat} (h : decide l.Nodup = true) : l.Nodup := of_decide_eq_true h
/-- the last step of a, b = .. with containers of their own -/
theorem par_mix {is : List Nat} {E : Ends} {σ : L2.St} {H : Hp} {K : PySem.W.Frag} (ho : outB own1 own is = true) (hnd : decide is.Nodup = true) (h : tS K P own (ownAfter is fl own1) (sPar is fs) E σ H) {Q : List V → Hp → Prop}
    (hq : ∀ vs H', vs.length = is.length → E.nx (setV σ is vs) H' → Q vs H') : tMX K P own1 fl fs σ H Q := by
  obtain ⟨o1, o2⟩ := outB_ok ho
  obtain ⟨ρ, G, al, G0, H0, r0, h⟩ := h
  replace h : SPst K P (ownAfter is fl own1) G0 H0 E ((fs ρ).st ρ fun ds => parM is ds ρ) := h
  obtain ⟨G2, s2, r⟩ := r0.drop o1
  refine ⟨ρ, G2, al, r.r, r.pst h fun ds vs G' H' x q h' => ?_⟩
  obtain ⟨ps, q⟩ := q
  unfold parM at h'
  split at h'
  · rename_i hl
    have r' := r.mono x
    obtain ⟨al', rr⟩ := rs_mix r' q hl (nodupB_ok hnd) o2 (fun p hp => r.x.h.free (q.new p hp)) fun p hp j y hj hy e => by
      obtain ⟨u, hu⟩ := (r.r.ow j y hy hj).2.2.some
      rw [e, q.new p hp] at hu
      cases hu
    exact hq vs H' ((mx_len q).trans hl.symm) (h' _ _ _ _ rr)
  · exact h'.elim
theorem spo {px py pt : Pos} {kt k2 : Nat} {pt2 : Pos} (i j : Nat) (own1 : List Nat) (fl : List Bool) (hN : X.N.Nodup) (ha : MV X P own1 fl [a, b] fs) (hc : X.calm = true := by rfl) (hi : X.N[i]? = some x := by rfl) (hj : X.N[j]? = some y := by rfl) (hij : i ≠ j := by decide)
    (hx : X.env.scope.names.lookup x = some .local := by rfl) (hy : X.env.scope.names.lookup y = some .local := by rfl) (hw : swappedStores [.Tuple [.Name x px, .Name y py] kt pt] (.Tuple [a, b] k2 pt2) X.env = pure (some [x, y]) := by rfl)
    (hs : swapsWithSole [.Tuple [.Name x px, .Name y py] kt pt] (.Tuple [a, b] k2 pt2) pos.line X.env = pure false := by rfl) (ho : outB own1 own [i, j] = true := by rfl) (hnd : decide [i, j].Nodup = true := by rfl) :
    SV X P own (ownAfter [i, j] fl own1) (.Assign [.Tuple [.Name x px, .Name y py] kt pt] (.Tuple [a, b] k2 pt2) pos) (sPar [i, j] fs) :=
  PS.weak (ps_par hc hN hi hj hij hx hy ha hw hs) fun E σ H h => par_mix ho hnd h fun vs H' hl hq => match vs, hl, hq with
    | [v, w], _, hq => ⟨v, w, rfl, hq⟩
theorem spo3 {px py pz pt : Pos} {kt k2 : Nat} {pt2 : Pos} (i j l : Nat) (own1 : List Nat) (fl : List Bool) (hN : X.N.Nodup) (ha : MV X P own1 fl [a, b, c] fs) (hc : X.calm = true := by rfl) (hi : X.N[i]? = some x := by rfl) (hj : X.N[j]? = some y := by rfl) (hl : X.N[l]? = some z := by rfl) (hij : i ≠ j := by decide) (hil : i ≠ l := by decide) (hjl : j ≠ l := by decide)
    (hx : X.env.scope.names.lookup x = some .local := by rfl) (hy : X.env.scope.names.lookup y = some .local := by rfl) (hz : X.env.scope.names.lookup z = some .local := by rfl) (hw : swappedStores [.Tuple [.Name x px, .Name y py, .Name z pz] kt pt] (.Tuple [a, b, c] k2 pt2) X.env = pure (some [x, y, z]) := by rfl)
    (hs : swapsWithSole [.Tuple [.Name x px, .Name y py, .Name z pz] kt pt] (.Tuple [a, b, c] k2 pt2) pos.line X.env = pure false := by rfl) (ho : outB own1 own [i, j, l] = true := by rfl) (hnd : decide [i, j, l].Nodup = true := by rfl) :
    SV X P own (ownAfter [i, j, l] fl own1) (.Assign [.Tuple [.Name x px, .Name y py, .Name z pz] kt pt] (.Tuple [a, b, c] k2 pt2) pos) (sPar [i, j, l] fs) :=
  PS.weak (ps_par3 hc hN hi hj hl hij hil hjl hx hy hz ha hw hs) fun E σ H h => par_mix ho hnd h fun vs H' hl hq => match vs, hl, hq with
    | [v, w, u], _, hq => ⟨v, w, u, rfl, hq⟩
def dt1M (k v : PyData) : Res PyData := if nodict v then match k with
  | .tuple ds => match keysOf ds with
    | some _ => .ok (dtD [(k, v)])
    | none => .stuck
  | _ => .stuck else .stuck
def xDt1 (fk fv : FE) : FE := fun ρ => (fk ρ).bind fun k => (fv ρ).bind fun v => dt1M k v
theorem fd1 (hu : X.A.units + 65 < cLine) (ha : EV X P own a fa) (hb : EV X P own b fb) : FV X P own (.Dict [some a] [b] pos) (xDt1 fa fb) := by
  refine PE.weak (pe_disp1 (by omega) ha hb) fun σ H Q ⟨ρ, G, al, rl, h⟩ p hp => ?_
  have hg : G p = none := rl.sub.free hp
  have x0 : Ex2 G H G (upd H p (.dT [])) := Ex2.hid _ rl.sub hp
  replace h : Pst P (FR X.K H) σ G H ((fa ρ).bind fun k => (fb ρ).bind fun v => dt1M k v) Q := h
  refine ⟨ρ, G, al, rl.mono x0, ?_⟩
  cases qa : fa ρ with
  | stuck => rw [qa] at h; exact h.elim
  | exc c => rw [qa] at h; exact fun G' H' x => h G' H' (x0.trans x)
  | ok k =>
    rw [qa, Res.ok_bind] at h
    refine fun u G1 H1 e1 hk => ⟨ρ, G1, al, (rl.mono x0).mono e1, ?_⟩
    cases qb : fb ρ with
    | stuck => rw [qb] at h; exact h.elim
    | exc c => rw [qb] at h; exact fun G' H' x => h G' H' ((x0.trans e1).trans x)
    | ok v =>
      rw [qb, Res.ok_bind] at h
      intro w G2 H2 e2 hv
      have e12 := e1.trans e2
      have hH2 : H2 p = some (.dT []) := e12.h _ _ upd_same
      have hG2 : G2 p = none := e12.f p _ upd_same rfl hg
      refine ⟨hH2, ?_⟩
      unfold dt1M at h
      split at h
      · rename_i hn
        split at h
        · split at h
          · rename_i ds ks hks
            obtain ⟨b', ws, rfl, gb, qb'⟩ := dr_tup (dr_same e2.g hk)
            have e3 := keysOf_eq hks
            subst e3
            rw [dqAll_keys qb'] at gb
            exact ⟨ks, b', rfl, e2.s _ _ gb, h _ _ _ ((x0.trans e12).upd_hid hp hG2) ⟨p, rfl, hp, hG2, _, upd_same, .inr ⟨[(ks, w)], _, rfl, rfl, .cons ⟨rfl, hv.data hn⟩ .nil⟩⟩⟩
          · exact h.elim
        · exact h.elim
      · exact h.elim
end
end Bv
set_option Elab.async false
set_option linter.all false
set_option maxRecDepth 100000
set_option maxHeartbeats 1000000
namespace Bv
open PySem PySem.Spec L2
abbrev excD (c : Str) (a : Addr) : PyData := .dict [(.str c, .int ((a : Nat) : Int))]
section
open Classical
noncomputable def sTry (cs : List Str) (f : FS) (i : Nat) (g : Addr → Str → FS) : FS := fun ρ => match f ρ with
  | .nx ρ' => .nx ρ'
  | .rt d => .rt d
  | .ex c ρ' => if h : c ∈ cs ∧ ∃ d, ∀ a : Addr, g a c (ρ'.set i (some (excD c a))) = .rt d then .rt h.2.choose else .stuck
  | .stuck => .stuck
theorem sTry_nx {cs : List Str} {f : FS} {i : Nat} {g : Addr → Str → FS} {ρ ρ' : Rho} (h : f ρ = .nx ρ') : sTry cs f i g ρ = .nx ρ' := by unfold sTry; rw [h]
theorem sTry_rt {cs : List Str} {f : FS} {i : Nat} {g : Addr → Str → FS} {ρ : Rho} {d : PyData} (h : f ρ = .rt d) : sTry cs f i g ρ = .rt d := by unfold sTry; rw [h]
theorem sTry_ex {cs : List Str} {f : FS} {i : Nat} {g : Addr → Str → FS} {ρ ρ' : Rho} {c : Str} {d : PyData} (h : f ρ = .ex c ρ') (hc : c ∈ cs) (hg : ∀ a : Addr, g a c (ρ'.set i (some (excD c a))) = .rt d) : sTry cs f i g ρ = .rt d := by
  unfold sTry
  rw [h]
  have hh : c ∈ cs ∧ ∃ d, ∀ a : Addr, g a c (ρ'.set i (some (excD c a))) = .rt d := ⟨hc, d, hg⟩
  show (if h : c ∈ cs ∧ ∃ d, ∀ a : Addr, g a c (ρ'.set i (some (excD c a))) = .rt d then SR.rt h.2.choose else .stuck) = _
  rw [dif_pos hh]
  have := hh.2.choose_spec 0
  rw [hg 0] at this
  injection this with this
  rw [← this]
end
theorem dr_exc {K : PySem.W.Frag} {G : Hp} {x : V} {c : Str} {n : Int} (h : DR K G x (.dict [(.str c, .int n)])) : ∃ a : Addr, x = .ref a ∧ n = ((a : Nat) : Int) := by
  cases h with
  | dq h => cases h
  | dc h q =>
    rcases q with ⟨_, _, e, _⟩ | ⟨_, _, e, _⟩
    · injection e with e; injection e with e; cases e
    · injection e with e; injection e with e; cases e
  | exc => exact ⟨_, rfl, rfl⟩
/-- isinstance(e, C), e the exception in slot i; b: the answer -/
def xIsE (i : Nat) (a : Addr) (b : Bool) : FE := fun ρ => (gv ρ i).bind fun d => match d with
  | .dict [(.str _, .int n)] => if n = ((a : Nat) : Int) then .ok (.bool b) else .stuck
  | _ => .stuck
/-- the answers that the top gives -/
def kitB' (K : PySem.W.Frag) (c C : Str) (b : Bool) : Bool := PySem.W.kitOne K (.ref (He.ga K c)) (.ref (He.ga K C)) == some b
def excB (K : PySem.W.Frag) (c : Str) : Bool :=
  (PySem.W.findIn K (.ref (He.ga K c)) "__getattribute__" == some (some (.builtin "BaseException.__getattribute__"))) &&
  ((PySem.W.findIn K (.ref (He.ga K c)) "__getattr__" == some none) &&
  ((PySem.W.subIn K (.ref (He.ga K c)) (.type "BaseException") == some true) &&
  ((PySem.W.hasDictIn K (He.ga K c)) &&
  ((PySem.W.findIn K (.ref (He.ga K c)) "__class__" == some (some (.builtin "object.__class__"))) &&
  ((PySem.W.specialIn K (.builtin "object.__class__") "__get__" == some (some (.builtin "getset_descriptor.__get__"))) &&
  ((PySem.W.takesIn K (.builtin "object.__class__") == some true) &&
  (PySem.W.mroIn K (He.ga K c) (.type "object") == some true)))))))
theorem excB_ok {K : PySem.W.Frag} {c : Str} (h : excB K c = true) : ExcC K (He.ga K c) := by
  unfold excB at h
  simp only [Bool.and_eq_true] at h
  obtain ⟨h1, h2, h3, h4, h5, h6, h7, h8⟩ := h
  exact ⟨beq_iff_eq.mp h1, beq_iff_eq.mp h2, beq_iff_eq.mp h3, h4, beq_iff_eq.mp h5, beq_iff_eq.mp h6, beq_iff_eq.mp h7, beq_iff_eq.mp h8⟩
/-- all classes cs, each with each -/
def eqB (c C : Str) : Bool := decide (c = C)
def excsB (K : PySem.W.Frag) (cs : List Str) : Bool := cs.all fun c => excB K c && cs.all fun C => kitB' K c C (eqB c C)
theorem excsB_c {K : PySem.W.Frag} {cs : List Str} (h : excsB K cs = true) {c : Str} (hc : c ∈ cs) : ExcC K (He.ga K c) := by
  have := List.all_eq_true.mp h c hc
  rw [Bool.and_eq_true] at this
  exact excB_ok this.1
theorem excsB_k {K : PySem.W.Frag} {cs : List Str} (h : excsB K cs = true) {c C : Str} (hc : c ∈ cs) (hC : C ∈ cs) : PySem.W.kitOne K (.ref (He.ga K c)) (.ref (He.ga K C)) = some (eqB c C) := by
  have := List.all_eq_true.mp h c hc
  rw [Bool.and_eq_true] at this
  exact beq_iff_eq.mp (List.all_eq_true.mp this.2 C hC)
section
variable {X : Cx} {P : Pm} {own own' own1 own2 : List Nat} {a b c e ix : Expr} {es es2 : List Expr} {st : Stmt} {pos pos' p p1 p2 np lp sp_ : Pos} {fa fb fc fe fi : FE} {fs : FA} {x y z n C : Str} {f : FS}
theorem ise {A : Addr} {oe : Obj} {pn : List (Addr × Obj)} {cc : Str} (i : Nat) {bb : Bool} (hk : ExcC X.K (P.ea cc)) (hz : Zc (.ref (P.ea cc)) none oe) (hf : ∃ vs, oe.data = .fields vs) (kit : PySem.W.kitOne X.K (.ref (P.ea cc)) (.ref (He.ga X.K C)) = some bb) (gC : X.mg C = some (.ref (He.ga X.K C))) (hm : X.mg "isinstance" = none)
    (hN : X.N[i]? = some n := by rfl) (hv : Vis X.env.scope n := by first | exact Or.inl rfl | exact Or.inr (Or.inl rfl) | exact Or.inr (Or.inr rfl)) (ho : own.contains i = false := by rfl) (hd : (n == ("__debug__" : Str)) = false := by decide) (hcd : (n == ("__classdict__" : Str)) = false := by decide)
    (hg : Gl X "isinstance" := by rfl) (hg2 : Gl X C := by rfl) (hd2 : (C == ("__debug__" : Str)) = false := by decide) (hs2 : starEach [.Name n p1, .Name C p2] X.env = (false, eval (.Name n p1) X.env) :: starEach [.Name C p2] X.env := by rfl) :
    EV (X.suite A ((A, oe) :: pn)) P own (.Call (.Name "isinstance" p) [.Name n p1, .Name C p2] [] pos) (xIsE i A bb) := by
  refine PE.weak (pe_callB (X := X.suite A ((A, oe) :: pn)) (call_isE (X := X) hk hz hf) hg hm (by decide +kernel) (pa_cons (pe_var (X := X.suite A ((A, oe) :: pn)) (pos := p1) hN hv hd hcd) (pa_cons (pe_glob (X := X.suite A ((A, oe) :: pn)) (v := .ref (He.ga X.K C)) (pos := p2) hg2 gC rfl hd2) pa_nil rfl) hs2) (by decide) (by decide) hs2 rfl) fun σ H Q ⟨ρ, G, al, rl, h⟩ => ?_
  replace h : Pst P (DRr X.K) σ G H (xIsE i A bb ρ) Q := h
  unfold xIsE at h
  have ho' : i ∉ own := by simpa using ho
  cases q : gv ρ i with
  | stuck => rw [q] at h; exact h.elim
  | exc c => exact absurd q (gv_noexc c)
  | ok d =>
    rw [q, Res.ok_bind] at h
    split at h
    · rename_i c' m
      split at h
      · rename_i hm'
        obtain ⟨v, e1, q1⟩ := rl.sh i _ (gv_some q) ho'
        obtain ⟨a', rfl, e2⟩ := dr_exc q1
        have e3 : a' = A := by
          have : ((a' : Nat) : Int) = ((A : Nat) : Int) := e2.symm.trans hm'
          exact Int.ofNat.inj this
        subst e3
        exact ⟨_, e1, _, _, bb, rfl, fun u r => r, kit, h.ok rl.sub (drB _)⟩
      · exact h.elim
    · exact h.elim
open Classical in
theorem tr (cs : List Str) (i : Nat) {body suite : List Stmt} {b₀ : Stmt} {g : Addr → Str → FS} (hN : X.N.Nodup) (hm : ∀ c ∈ cs, PySem.W.exmOne X.K (.ref (P.ea c)) (.ref (He.ga X.K x)) = some true) (gx : X.mg x = some (.ref (He.ga X.K x)))
    (hb : ∀ (W : WX) (pn : List (Addr × Obj)) (xe : Value → Shared → Prop), Takes (X.tr pn xe) W → PassesOwn (model X.prog X.w) X.A X.env xe → SVs (X.tr pn xe) ⟨W, P.ea⟩ own own' body f)
    (hsu : ∀ (a : Addr) (oe : Obj) (c : Str) (pn : List (Addr × Obj)), c ∈ cs → Zc (.ref (P.ea c)) none oe → (∃ vs, oe.data = .fields vs) → SVs (X.suite a ((a, oe) :: pn)) (P0 P) [] [] (b₀ :: suite) (g a c))
    (tk : Takes X P.W := by first | assumption | exact L2.takes0 | exact L2.takes_of rfl rfl rfl rfl) (hs : X.stack = X.env :: X.outer := by rfl) (hf : X.env.frame = some X.env.locals := by rfl) (hi : X.N[i]? = some n := by rfl) (hln : X.env.kindOf n = some .local := by rfl) (hg : Gl X x := by rfl) (hdb : (x == ("__debug__" : Str)) = false := by decide) :
    SV X P own own' (.Try body [.ExceptHandler (some (.Name x np)) (some n) (b₀ :: suite) pos'] [] [] pos) (sTry cs f i g) := by
  refine PS.weak (ps_try_as (tb := fun W => tS X.K ⟨W, P.ea⟩ own own' f) (ts := fun a cls d E σ H => ∃ c, cls = .ref (P.ea c) ∧ d = none ∧ c ∈ cs ∧ tS X.K (P0 P) [] [] (g a c) E σ H) (c := .ref (He.ga X.K x)) (i := i) hs hf hN hi hln ⟨hg, hdb, .inl gx⟩ tk hb
    (fun a oe cls d pn hz hd => ⟨fun pins s σ H E I q => ?_⟩)) fun E σ H ⟨ρ, G, al, G0, H0, r, h⟩ => ⟨ρ, G, al, G0, H0, r, ?_⟩
  · obtain ⟨c, rfl, rfl, hc, h⟩ := q
    exact (hsu a oe c pn hc hz hd).run pins s σ H E I h
  · replace h : SPst X.K P own' G0 H0 E (sTry cs f i g ρ) := h
    unfold sTry at h
    cases q : f ρ with
    | nx ρ' => rw [q] at h; exact h
    | rt d => rw [q] at h; exact h
    | stuck => rw [q] at h; exact h.elim
    | ex c ρ' =>
      rw [q] at h
      replace h : SPst X.K P own' G0 H0 E (if h : c ∈ cs ∧ ∃ d, ∀ a : Addr, g a c (ρ'.set i (some (excD c a))) = .rt d then SR.rt h.2.choose else .stuck) := h
      intro σ' G' H' al' r'
      by_cases hh : c ∈ cs ∧ ∃ d, ∀ a : Addr, g a c (ρ'.set i (some (excD c a))) = .rt d
      · rw [dif_pos hh] at h
        refine ⟨true, hm c hh.1, fun _ a ha => ⟨c, rfl, rfl, hh.1, ρ'.set i (some (excD c a)), G', al', G0, H0, r'.set List.not_mem_nil .exc, ?_⟩, fun z => nomatch z⟩
        rw [hh.2.choose_spec a]
        exact h
      · rw [dif_neg hh] at h
        exact h.elim
/-- a list of defs by their names -/
inductive PkL (X : Cx) (P : Pm) (j : Nat) : List Expr → List (Str × (List PyData → Res PyData)) → Prop
  | nil : PkL X P j [] []
  | cons {k : Nat} {x : Str} {ps : List Str} {φ : List PyData → Res PyData} {es : List Expr} {L : List (Str × (List PyData → Res PyData))} {p : Pos} (F : DOk X.prog X.w X.K X.mg X.base k x ps φ) (hk : k ≤ j) (hg : Gl X x) (hdb : (x == ("__debug__" : Str)) = false)
      (hs : starEach (.Name x p :: es) X.env = (false, eval (.Name x p) X.env) :: starEach es X.env) (t : PkL X P j es L) : PkL X P j (.Name x p :: es) ((x, φ) :: L)
theorem pkn {j : Nat} : PkL X P j [] [] := .nil
theorem pkc {j k : Nat} {ps : List Str} {φ : List PyData → Res PyData} {L : List (Str × (List PyData → Res PyData))} (F : DOk X.prog X.w X.K X.mg X.base k x ps φ) (t : PkL X P j es L) (hk : k ≤ j := by decide) (hg : Gl X x := by rfl) (hdb : (x == ("__debug__" : Str)) = false := by decide)
    (hs : starEach (.Name x p :: es) X.env = (false, eval (.Name x p) X.env) :: starEach es X.env := by rfl) : PkL X P j (.Name x p :: es) ((x, φ) :: L) := .cons F hk hg hdb hs t
def tRefs (vs : List V) : TA := fun _ H Q => Q vs H
theorem pk_pa {j : Nat} : ∀ {es : List Expr} {L : List (Str × (List PyData → Res PyData))}, PkL X P j es L → PA X es (tRefs (L.map fun q => V.ref (He.ga X.K q.1)))
  | _, _, .nil => pa_nil
  | _, _, .cons F hk hg hdb hs t => by
    have gm := F.gm
    exact PA.weak (pa_cons (pe_glob (v := .ref _) hg gm rfl hdb) (pk_pa t) hs) fun σ H Q q => q
theorem pk_at {j : Nat} : ∀ {es : List Expr} {L : List (Str × (List PyData → Res PyData))}, PkL X P j es L → ∀ {i : Nat} {q : Str × (List PyData → Res PyData)}, L[i]? = some q → ∃ k ps, k ≤ j ∧ DOk X.prog X.w X.K X.mg X.base k q.1 ps q.2
  | _, _, .nil, i, q, e => by simp at e
  | _, _, .cons F hk hg hdb hs t, 0, q, e => by simp at e; subst e; exact ⟨_, _, hk, F⟩
  | _, _, .cons F hk hg hdb hs t, i + 1, q, e => pk_at t (by simpa using e)
def pickM (L : List (Str × (List PyData → Res PyData))) : PyData → Option (List PyData → Res PyData)
  | .int n => if 0 ≤ n then (L[n.toNat]?).map (·.2) else none
  | _ => none
def xPick (L : List (Str × (List PyData → Res PyData))) (fi : FE) (fs : FA) : FE := fun ρ => (fi ρ).bind fun d => match pickM L d with
  | some φ => (fs ρ).bind φ
  | none => .stuck
theorem arm_Call_Sub (o i : Expr) (p1 : Pos) (args : List Expr) (keywords : List Keyword) (pos : Pos) (env : Env) : eval (.Call (.Subscript o i p1) args keywords pos) env = (do
    callWith pos (← eval (.Subscript o i p1) env) [] (backTo pos (starEach args env)) (backToKw pos (keywordEach keywords env))) := rfl
theorem pk {j : Nat} {L : List (Str × (List PyData → Res PyData))} (hL : PkL X P j es L) (hr : Room j X.A) (hi : EX X P own ix fi) (ha : AV X P own (e :: es2) fs) (hlen : L.length ≤ 100 := by decide) (hea : P.ea = He.ga X.K := by rfl) (tk : Takes X P.W := by first | assumption | exact L2.takes0 | exact L2.takes_of rfl rfl rfl rfl)
    (hpix : PlainIx ix := by intro _ _; rfl) (he : starEach (e :: es2) X.env = (false, eval e X.env) :: starEach es2 X.env := by rfl) (hpl : (backTo pos (starEach es2 X.env)).any (·.1) = false := by rfl) :
    EV X P own (.Call (.Subscript (.List es lp) ix p1) (e :: es2) [] pos) (xPick L fi fs) := by
  refine ⟨fun pins s σ H Q I h => ?_⟩
  obtain ⟨ρ, G, al, rl, h⟩ := h
  replace h : Pst P (DRr X.K) σ G H ((fi ρ).bind fun d => match pickM L d with
    | some φ => (fs ρ).bind φ
    | none => .stuck) Q := h
  rw [arm_Call_Sub]
  refine wpAny_bind ?_
  have hsub := (pe_ix (X := X) ix_list (pe_lst (pos := lp) (pk_pa hL)) hi hpix (pos := p1)).run pins s σ H (fun x H1 => ∃ (q : Str × (List PyData → Res PyData)) (i : Nat) (G1 : Hp), L[i]? = some q ∧ x = .ref (He.ga X.K q.1) ∧ Ex2 G H G1 H1 ∧ Pst P (DRr X.K) σ G1 H1 ((fs ρ).bind q.2) Q) I (by
    refine ⟨by rw [List.length_map, sizeLine_eq]; omega, fun p hp => ?_⟩
    have x0 : Ex2 G H G (upd H p (.lst (L.map fun q => V.ref (He.ga X.K q.1)))) := Ex2.hid _ rl.sub hp
    refine ⟨ρ, G, al, rl.mono x0, (h.up x0).bind fun d v G1 H1 e1 hv h1 => ?_⟩
    cases qd : pickM L d with
    | none => rw [qd] at h1; exact h1.elim
    | some φ =>
      rw [qd] at h1
      replace h1 : Pst P (DRr X.K) σ G1 H1 ((fs ρ).bind φ) Q := h1
      unfold pickM at qd
      split at qd
      · rename_i m
        split at qd
        · rename_i h0
          obtain ⟨q, hq, rfl⟩ := Option.map_eq_some_iff.mp qd
          have hm : m = ((m.toNat : Nat) : Int) := by omega
          refine ⟨p, _, m, .ref (He.ga X.K q.1), rfl, dx_int hv, SqL.of (e1.h _ _ upd_same), ?_, q, m.toNat, G1, hq, rfl, x0.trans e1, h1⟩
          have hl : m.toNat < (L.map fun q => V.ref (He.ga X.K q.1)).length := by rw [List.length_map]; exact (List.getElem?_eq_some_iff.mp hq).1
          rw [hm]
          have : (L.map fun q => V.ref (He.ga X.K q.1))[m.toNat]? = some (.ref (He.ga X.K q.1)) := by rw [List.getElem?_map, hq]; rfl
          first
            | exact atI_nat this
            | exact (atI_nat hl).trans this
        · cases qd
      · cases qd)
  refine thn hsub fun fv s1 ⟨x, H1, I1, rx, q, i, G1, hq, ex, x1, h1⟩ => ?_
  subst ex
  cases (show fv = Value.ref (He.ga X.K q.1) from rx)
  obtain ⟨k, ps, hk, F⟩ := pk_at hL hq
  obtain ⟨fd, f1, f2, _⟩ := F.ex
  have kp := F.kp
  refine PySem.W.callWith_K (h₀ := X.base) I1.ok.mod.kin kp (thn (ha.run pos pins s1 σ H1 (fun vs H2 => spF X.K P.ea q.2 vs H2 Q (WE P.W σ)) I1 ⟨ρ, G1, al, rl.mono x1, h1.bind fun ds vs G2 H2 e2 hv h2 => ⟨ds, G2, e2.s, hv, pst_sig (fun _ _ => rfl) h2⟩⟩) fun us s2 ⟨vs, H2, I2, r, q2⟩ => ⟨I2.kIn, ?_⟩) he hpl
  rw [hea] at q2
  exact run_fnS (E := WE P.W) f1 (hr.mono hk) f2 (passAt tk σ) I2 r q2
theorem gAll_set : ∀ {is : List Nat} {vs : List V} {σ : L2.St} {H : Hp} {Q : L2.St → Hp → Prop}, is.length = vs.length → Q (setV σ is vs) H → gAll is vs σ H Q
  | [], [], _, _, _, _, h => ⟨rfl, h⟩
  | [], _ :: _, _, _, _, hl, _ => by simp at hl
  | _ :: _, [], _, _, _, hl, _ => by simp at hl
  | i :: is, v :: vs, σ, H, Q, hl, h => ⟨v, vs, rfl, gAll_set (is := is) (vs := vs) (by simpa using hl) h⟩
theorem par_mix2 {is : List Nat} {fl : List Bool} {E : Ends} {σ : L2.St} {H : Hp} {K : PySem.W.Frag} (ho : outB own1 own is = true) (hnd : decide is.Nodup = true) (h : tS K P own (ownAfter is fl own1) (sPar is fs) E σ H) {Q : List V → Hp → Prop}
    (hq : ∀ vs H', is.length = vs.length → (∀ p, H' p = none → E.nx (setV σ is vs) (upd H' p (.tup vs))) → Q vs H') : tMX K P own1 fl fs σ H Q := by
  obtain ⟨o1, o2⟩ := outB_ok ho
  obtain ⟨ρ, G, al, G0, H0, r0, h⟩ := h
  replace h : SPst K P (ownAfter is fl own1) G0 H0 E ((fs ρ).st ρ fun ds => parM is ds ρ) := h
  obtain ⟨G2, s2, r⟩ := r0.drop o1
  refine ⟨ρ, G2, al, r.r, r.pst h fun ds vs G' H' x q h' => ?_⟩
  obtain ⟨ps, q⟩ := q
  unfold parM at h'
  split at h'
  · rename_i hl
    have r' := r.mono x
    obtain ⟨al', rr⟩ := rs_mix r' q hl (nodupB_ok hnd) o2 (fun p hp => r.x.h.free (q.new p hp)) fun p hp j y hj hy e => by
      obtain ⟨u, hu⟩ := (r.r.ow j y hy hj).2.2.some
      rw [e, q.new p hp] at hu
      cases hu
    exact hq vs H' (hl.trans (mx_len q).symm) fun p hp => h' _ _ _ _ (rr.mono (Ex2.hid _ rr.r.sub hp))
  · exact h'.elim
theorem suo {tes : List Expr} {k1 k2 : Nat} {tp tp2 : Pos} (is : List Nat) (own1 : List Nat) (fl : List Bool) (ha : MV X P own1 fl es fs) (hg : PG X (.Tuple tes k1 tp) (tgG X.K (.tp is))) (hlen : is.length ≤ 100 := by decide) (ho : outB own1 own is = true := by rfl) (hnd : decide is.Nodup = true := by rfl)
    (hs : swapsWithSole [.Tuple tes k1 tp] (.Tuple es k2 tp2) pos.line X.env = pure false := by rfl) (hw : swappedStores [.Tuple tes k1 tp] (.Tuple es k2 tp2) X.env = pure none := by rfl) (h1 : (assignEach [.Tuple tes k1 tp] X.env).map (·.2) = [assign (.Tuple tes k1 tp) X.env] := by rfl) :
    SV X P own (ownAfter is fl own1) (.Assign [.Tuple tes k1 tp] (.Tuple es k2 tp2) pos) (sPar is fs) :=
  PS.weak (ps_asg (pe_tup ha) hg hs hw h1) fun E σ H h => par_mix2 ho hnd h fun vs H' hl hq => ⟨by rw [← hl, sizeLine_eq]; omega, fun p hp => ⟨p, vs, rfl, SqT.of upd_same, hl.symm, gAll_set hl (hq p hp)⟩⟩
end
end Bv
set_option Elab.async false
set_option linter.all false
set_option maxRecDepth 100000
set_option maxHeartbeats 1000000
namespace Bv
open PySem PySem.Spec L2
section
variable {ρ : Rho} {i : Nat} {d e : PyData} {fa fb fc fe fo : FE} {fs fi fj : FA} {ft fu : FT} {f g : FS} {T : Tg} {op op' : Operator} {cp cp' : CmpOp}
@[simp] theorem xV_ap : xV i ρ = gv ρ i := rfl
@[simp] theorem xK_ap : xK d ρ = .ok d := rfl
@[simp] theorem xBin_ap : xBin op fa fb ρ = (fa ρ).bind fun d => (fb ρ).bind fun e => binD op d e := rfl
@[simp] theorem xNeg_ap : xNeg fa ρ = (fa ρ).bind negD := rfl
@[simp] theorem xCmp_ap : xCmp cp fa fb ρ = (fa ρ).bind fun d => (fb ρ).bind fun e => cmpD cp d e := rfl
@[simp] theorem xChain_ap : xChain cp cp' fa fb fc ρ = (fa ρ).bind fun d => (fb ρ).bind fun e => ((cmpD cp d e).bind toB).bind fun k => if k then (fc ρ).bind fun u => cmpD cp' e u else .ok (.bool false) := rfl
@[simp] theorem tV_ap : tV fa ρ = (fa ρ).bind toB := rfl
@[simp] theorem tAnd_ap : tAnd ft fu ρ = (ft ρ).bind fun k => if k then fu ρ else .ok false := rfl
@[simp] theorem tOr_ap : tOr ft fu ρ = (ft ρ).bind fun k => if k then .ok true else fu ρ := rfl
@[simp] theorem tNot_ap : tNot ft ρ = (ft ρ).bind fun k => .ok (!k) := rfl
@[simp] theorem tYs_ap : tYs ρ = .ok true := rfl
@[simp] theorem xAnd_ap : xAnd fa fb ρ = ((fa ρ).bind toB).bind fun k => if k then fb ρ else .ok (.bool false) := rfl
@[simp] theorem xOr_ap : xOr fa fb ρ = ((fa ρ).bind toB).bind fun k => if k then .ok (.bool true) else fb ρ := rfl
@[simp] theorem xNot_ap : xNot fa ρ = ((fa ρ).bind toB).bind fun k => .ok (.bool (!k)) := rfl
@[simp] theorem xIf_ap : xIf ft fa fb ρ = (ft ρ).bind fun k => if k then fa ρ else fb ρ := rfl
@[simp] theorem aN_ap : aN ρ = .ok [] := rfl
@[simp] theorem aC_ap : aC fa fs ρ = (fa ρ).bind fun d => (fs ρ).bind fun ds => .ok (d :: ds) := rfl
@[simp] theorem xTup_ap : xTup fs ρ = (fs ρ).bind tupM := rfl
@[simp] theorem xLst_ap : xLst fs ρ = (fs ρ).bind lstM := rfl
@[simp] theorem xIdx_ap : xIdx fa fb ρ = (fa ρ).bind fun d => (fb ρ).bind fun e => idxD d e := rfl
@[simp] theorem oN_ap : oN ρ = .ok none := rfl
@[simp] theorem oS_ap : oS fa ρ = (fa ρ).bind toI := rfl
@[simp] theorem xSli_ap {fl fh : Rho → Res (Option Int)} : xSli fa fl fh ρ = (fa ρ).bind fun d => (fl ρ).bind fun l => (fh ρ).bind fun u => sliD l u d := rfl
@[simp] theorem xRev_ap : xRev fa ρ = (fa ρ).bind revD := rfl
@[simp] theorem xCall_ap {φ : List PyData → Res PyData} : xCall φ fs ρ = (fs ρ).bind φ := rfl
@[simp] theorem xCall0_ap {φ : List PyData → Res PyData} : xCall0 φ ρ = noexc (φ []) := rfl
@[simp] theorem xBi_ap {b : Bi} : xBi b fs ρ = (fs ρ).bind (biD b) := rfl
@[simp] theorem xIsi_ap {t : Ty} : xIsi t fa ρ = (fa ρ).bind (isiD t) := rfl
@[simp] theorem xMt_ap {m : Mt} : xMt m fo fs ρ = (fo ρ).bind fun d => if recvB m d then (fs ρ).bind fun ds => mtD m d ds else .stuck := rfl
@[simp] theorem xGet1_ap : xGet1 fo fa ρ = (fo ρ).bind fun d => if isDic d then (fa ρ).bind fun k => (dicD d k).bind fun r => .ok (r.getD .none) else .stuck := rfl
@[simp] theorem xGet2_ap : xGet2 fo fa fb ρ = (fo ρ).bind fun d => if isDic d then (fa ρ).bind fun k => (fb ρ).bind fun z => (dicD d k).bind fun r => .ok (r.getD z) else .stuck := rfl
@[simp] theorem xRng1_ap : xRng1 fa ρ = (fa ρ).bind fun d => (rngL [d]).bind fun ns => .ok (.list (ns.map .int)) := rfl
@[simp] theorem xRng2_ap : xRng2 fa fb ρ = (fa ρ).bind fun d => (fb ρ).bind fun e => (rngL [d, e]).bind fun ns => .ok (.list (ns.map .int)) := rfl
@[simp] theorem xRng3_ap : xRng3 fs ρ = (fs ρ).bind fun ds => if ds.length = 3 then (rngL ds).bind fun ns => .ok (.list (ns.map .int)) else .stuck := rfl
@[simp] theorem iSq_ap : iSq' fa ρ = (fa ρ).bind seqD := rfl
@[simp] theorem iRg_ap {n : Nat} : iRg n fs ρ = (fs ρ).bind fun ds => if ds.length = n then (rngL ds).bind fun ns => .ok (ns.map .int) else .stuck := rfl
@[simp] theorem iZp_ap : iZp fs ρ = (fs ρ).bind zip2D := rfl
@[simp] theorem iEn_ap : iEn fs ρ = (fs ρ).bind enuD := rfl
@[simp] theorem sN_ap : sN ρ = .nx ρ := rfl
@[simp] theorem sC_ap : sC f g ρ = (f ρ).seq g := rfl
@[simp] theorem sRet_ap : sRet fa ρ = (fa ρ).st ρ fun d => .rt d := rfl
@[simp] theorem sExp_ap : sExp fa ρ = (fa ρ).st ρ fun _ => .nx ρ := rfl
@[simp] theorem sIf_ap : sIf ft f g ρ = (ft ρ).st ρ fun k => if k then f ρ else g ρ := rfl
@[simp] theorem sSet_ap : sSet i fa ρ = (fa ρ).st ρ fun d => .nx (ρ.set i (some d)) := rfl
@[simp] theorem sUnp_ap : sUnp T fa ρ = (fa ρ).st ρ fun d => match bindT T d ρ with
  | some ρ' => .nx ρ'
  | none => .stuck := rfl
@[simp] theorem sPar_ap {is : List Nat} : sPar is fs ρ = (fs ρ).st ρ fun ds => parM is ds ρ := rfl
@[simp] theorem sApp_ap : sApp i fe ρ = (gv ρ i).st ρ fun d => if isLst d then (fe ρ).st ρ fun y => (appD d y).st ρ fun d' => .nx (ρ.set i (some d')) else .stuck := rfl
@[simp] theorem sExt_ap : sExt i fe ρ = (gv ρ i).st ρ fun d => if isLst d then (fe ρ).st ρ fun y => (extD d y).st ρ fun d' => .nx (ρ.set i (some d')) else .stuck := rfl
@[simp] theorem sPut_ap : sPut i fa fe ρ = (fe ρ).st ρ fun y => (gv ρ i).st ρ fun d => (fa ρ).st ρ fun k => (putD d k y).st ρ fun d' => .nx (ρ.set i (some d')) := rfl
@[simp] theorem sRse_ap {C : Str} : sRse C ρ = .ex C ρ := rfl
@[simp] theorem st_okM {α : Type} {a : α} {k : α → SR} : (Res.ok a).st ρ k = k a := rfl
@[simp] theorem st_exM {α : Type} {c : Str} {k : α → SR} : (Res.exc c).st ρ k = .ex c ρ := rfl
@[simp] theorem seq_nx : (SR.nx ρ).seq f = f ρ := rfl
@[simp] theorem seq_rt : (SR.rt d).seq f = .rt d := rfl
@[simp] theorem seq_ex {c : Str} : (SR.ex c ρ).seq f = .ex c ρ := rfl
@[simp] theorem res_nx : (SR.nx ρ).res = .ok .none := rfl
@[simp] theorem res_rt : (SR.rt d).res = .ok d := rfl
@[simp] theorem res_ex {c : Str} : (SR.ex c ρ).res = .exc c := rfl
@[simp] theorem noexc_okM {α : Type} {a : α} : noexc (Res.ok a) = .ok a := rfl
@[simp] theorem gv_0 {l : Rho} : gv (some d :: l) 0 = .ok d := rfl
@[simp] theorem gv_1 {x0 : Option PyData} {l : Rho} : gv (x0 :: some d :: l) 1 = .ok d := rfl
@[simp] theorem gv_2 {x0 x1 : Option PyData} {l : Rho} : gv (x0 :: x1 :: some d :: l) 2 = .ok d := rfl
@[simp] theorem gv_3 {x0 x1 x2 : Option PyData} {l : Rho} : gv (x0 :: x1 :: x2 :: some d :: l) 3 = .ok d := rfl
@[simp] theorem gv_4 {x0 x1 x2 x3 : Option PyData} {l : Rho} : gv (x0 :: x1 :: x2 :: x3 :: some d :: l) 4 = .ok d := rfl
@[simp] theorem gv_5 {x0 x1 x2 x3 x4 : Option PyData} {l : Rho} : gv (x0 :: x1 :: x2 :: x3 :: x4 :: some d :: l) 5 = .ok d := rfl
@[simp] theorem gv_6 {x0 x1 x2 x3 x4 x5 : Option PyData} {l : Rho} : gv (x0 :: x1 :: x2 :: x3 :: x4 :: x5 :: some d :: l) 6 = .ok d := rfl
@[simp] theorem gv_7 {x0 x1 x2 x3 x4 x5 x6 : Option PyData} {l : Rho} : gv (x0 :: x1 :: x2 :: x3 :: x4 :: x5 :: x6 :: some d :: l) 7 = .ok d := rfl
@[simp] theorem gv_8 {x0 x1 x2 x3 x4 x5 x6 x7 : Option PyData} {l : Rho} : gv (x0 :: x1 :: x2 :: x3 :: x4 :: x5 :: x6 :: x7 :: some d :: l) 8 = .ok d := rfl
@[simp] theorem gv_9 {x0 x1 x2 x3 x4 x5 x6 x7 x8 : Option PyData} {l : Rho} : gv (x0 :: x1 :: x2 :: x3 :: x4 :: x5 :: x6 :: x7 :: x8 :: some d :: l) 9 = .ok d := rfl
@[simp] theorem gv_10 {x0 x1 x2 x3 x4 x5 x6 x7 x8 x9 : Option PyData} {l : Rho} : gv (x0 :: x1 :: x2 :: x3 :: x4 :: x5 :: x6 :: x7 :: x8 :: x9 :: some d :: l) 10 = .ok d := rfl
@[simp] theorem gv_11 {x0 x1 x2 x3 x4 x5 x6 x7 x8 x9 x10 : Option PyData} {l : Rho} : gv (x0 :: x1 :: x2 :: x3 :: x4 :: x5 :: x6 :: x7 :: x8 :: x9 :: x10 :: some d :: l) 11 = .ok d := rfl
@[simp] theorem gv_12 {x0 x1 x2 x3 x4 x5 x6 x7 x8 x9 x10 x11 : Option PyData} {l : Rho} : gv (x0 :: x1 :: x2 :: x3 :: x4 :: x5 :: x6 :: x7 :: x8 :: x9 :: x10 :: x11 :: some d :: l) 12 = .ok d := rfl
@[simp] theorem gv_13 {x0 x1 x2 x3 x4 x5 x6 x7 x8 x9 x10 x11 x12 : Option PyData} {l : Rho} : gv (x0 :: x1 :: x2 :: x3 :: x4 :: x5 :: x6 :: x7 :: x8 :: x9 :: x10 :: x11 :: x12 :: some d :: l) 13 = .ok d := rfl
@[simp] theorem gv_14 {x0 x1 x2 x3 x4 x5 x6 x7 x8 x9 x10 x11 x12 x13 : Option PyData} {l : Rho} : gv (x0 :: x1 :: x2 :: x3 :: x4 :: x5 :: x6 :: x7 :: x8 :: x9 :: x10 :: x11 :: x12 :: x13 :: some d :: l) 14 = .ok d := rfl
@[simp] theorem gv_15 {x0 x1 x2 x3 x4 x5 x6 x7 x8 x9 x10 x11 x12 x13 x14 : Option PyData} {l : Rho} : gv (x0 :: x1 :: x2 :: x3 :: x4 :: x5 :: x6 :: x7 :: x8 :: x9 :: x10 :: x11 :: x12 :: x13 :: x14 :: some d :: l) 15 = .ok d := rfl
@[simp] theorem gv_16 {x0 x1 x2 x3 x4 x5 x6 x7 x8 x9 x10 x11 x12 x13 x14 x15 : Option PyData} {l : Rho} : gv (x0 :: x1 :: x2 :: x3 :: x4 :: x5 :: x6 :: x7 :: x8 :: x9 :: x10 :: x11 :: x12 :: x13 :: x14 :: x15 :: some d :: l) 16 = .ok d := rfl
@[simp] theorem gv_17 {x0 x1 x2 x3 x4 x5 x6 x7 x8 x9 x10 x11 x12 x13 x14 x15 x16 : Option PyData} {l : Rho} : gv (x0 :: x1 :: x2 :: x3 :: x4 :: x5 :: x6 :: x7 :: x8 :: x9 :: x10 :: x11 :: x12 :: x13 :: x14 :: x15 :: x16 :: some d :: l) 17 = .ok d := rfl
@[simp] theorem gv_18 {x0 x1 x2 x3 x4 x5 x6 x7 x8 x9 x10 x11 x12 x13 x14 x15 x16 x17 : Option PyData} {l : Rho} : gv (x0 :: x1 :: x2 :: x3 :: x4 :: x5 :: x6 :: x7 :: x8 :: x9 :: x10 :: x11 :: x12 :: x13 :: x14 :: x15 :: x16 :: x17 :: some d :: l) 18 = .ok d := rfl
@[simp] theorem gv_19 {x0 x1 x2 x3 x4 x5 x6 x7 x8 x9 x10 x11 x12 x13 x14 x15 x16 x17 x18 : Option PyData} {l : Rho} : gv (x0 :: x1 :: x2 :: x3 :: x4 :: x5 :: x6 :: x7 :: x8 :: x9 :: x10 :: x11 :: x12 :: x13 :: x14 :: x15 :: x16 :: x17 :: x18 :: some d :: l) 19 = .ok d := rfl
@[simp] theorem gv_20 {x0 x1 x2 x3 x4 x5 x6 x7 x8 x9 x10 x11 x12 x13 x14 x15 x16 x17 x18 x19 : Option PyData} {l : Rho} : gv (x0 :: x1 :: x2 :: x3 :: x4 :: x5 :: x6 :: x7 :: x8 :: x9 :: x10 :: x11 :: x12 :: x13 :: x14 :: x15 :: x16 :: x17 :: x18 :: x19 :: some d :: l) 20 = .ok d := rfl
@[simp] theorem gv_21 {x0 x1 x2 x3 x4 x5 x6 x7 x8 x9 x10 x11 x12 x13 x14 x15 x16 x17 x18 x19 x20 : Option PyData} {l : Rho} : gv (x0 :: x1 :: x2 :: x3 :: x4 :: x5 :: x6 :: x7 :: x8 :: x9 :: x10 :: x11 :: x12 :: x13 :: x14 :: x15 :: x16 :: x17 :: x18 :: x19 :: x20 :: some d :: l) 21 = .ok d := rfl
@[simp] theorem gv_22 {x0 x1 x2 x3 x4 x5 x6 x7 x8 x9 x10 x11 x12 x13 x14 x15 x16 x17 x18 x19 x20 x21 : Option PyData} {l : Rho} : gv (x0 :: x1 :: x2 :: x3 :: x4 :: x5 :: x6 :: x7 :: x8 :: x9 :: x10 :: x11 :: x12 :: x13 :: x14 :: x15 :: x16 :: x17 :: x18 :: x19 :: x20 :: x21 :: some d :: l) 22 = .ok d := rfl
@[simp] theorem gv_23 {x0 x1 x2 x3 x4 x5 x6 x7 x8 x9 x10 x11 x12 x13 x14 x15 x16 x17 x18 x19 x20 x21 x22 : Option PyData} {l : Rho} : gv (x0 :: x1 :: x2 :: x3 :: x4 :: x5 :: x6 :: x7 :: x8 :: x9 :: x10 :: x11 :: x12 :: x13 :: x14 :: x15 :: x16 :: x17 :: x18 :: x19 :: x20 :: x21 :: x22 :: some d :: l) 23 = .ok d := rfl
@[simp] theorem gv_24 {x0 x1 x2 x3 x4 x5 x6 x7 x8 x9 x10 x11 x12 x13 x14 x15 x16 x17 x18 x19 x20 x21 x22 x23 : Option PyData} {l : Rho} : gv (x0 :: x1 :: x2 :: x3 :: x4 :: x5 :: x6 :: x7 :: x8 :: x9 :: x10 :: x11 :: x12 :: x13 :: x14 :: x15 :: x16 :: x17 :: x18 :: x19 :: x20 :: x21 :: x22 :: x23 :: some d :: l) 24 = .ok d := rfl
@[simp] theorem gv_25 {x0 x1 x2 x3 x4 x5 x6 x7 x8 x9 x10 x11 x12 x13 x14 x15 x16 x17 x18 x19 x20 x21 x22 x23 x24 : Option PyData} {l : Rho} : gv (x0 :: x1 :: x2 :: x3 :: x4 :: x5 :: x6 :: x7 :: x8 :: x9 :: x10 :: x11 :: x12 :: x13 :: x14 :: x15 :: x16 :: x17 :: x18 :: x19 :: x20 :: x21 :: x22 :: x23 :: x24 :: some d :: l) 25 = .ok d := rfl
@[simp] theorem gv_26 {x0 x1 x2 x3 x4 x5 x6 x7 x8 x9 x10 x11 x12 x13 x14 x15 x16 x17 x18 x19 x20 x21 x22 x23 x24 x25 : Option PyData} {l : Rho} : gv (x0 :: x1 :: x2 :: x3 :: x4 :: x5 :: x6 :: x7 :: x8 :: x9 :: x10 :: x11 :: x12 :: x13 :: x14 :: x15 :: x16 :: x17 :: x18 :: x19 :: x20 :: x21 :: x22 :: x23 :: x24 :: x25 :: some d :: l) 26 = .ok d := rfl
@[simp] theorem gv_27 {x0 x1 x2 x3 x4 x5 x6 x7 x8 x9 x10 x11 x12 x13 x14 x15 x16 x17 x18 x19 x20 x21 x22 x23 x24 x25 x26 : Option PyData} {l : Rho} : gv (x0 :: x1 :: x2 :: x3 :: x4 :: x5 :: x6 :: x7 :: x8 :: x9 :: x10 :: x11 :: x12 :: x13 :: x14 :: x15 :: x16 :: x17 :: x18 :: x19 :: x20 :: x21 :: x22 :: x23 :: x24 :: x25 :: x26 :: some d :: l) 27 = .ok d := rfl
@[simp] theorem gv_28 {x0 x1 x2 x3 x4 x5 x6 x7 x8 x9 x10 x11 x12 x13 x14 x15 x16 x17 x18 x19 x20 x21 x22 x23 x24 x25 x26 x27 : Option PyData} {l : Rho} : gv (x0 :: x1 :: x2 :: x3 :: x4 :: x5 :: x6 :: x7 :: x8 :: x9 :: x10 :: x11 :: x12 :: x13 :: x14 :: x15 :: x16 :: x17 :: x18 :: x19 :: x20 :: x21 :: x22 :: x23 :: x24 :: x25 :: x26 :: x27 :: some d :: l) 28 = .ok d := rfl
@[simp] theorem gv_29 {x0 x1 x2 x3 x4 x5 x6 x7 x8 x9 x10 x11 x12 x13 x14 x15 x16 x17 x18 x19 x20 x21 x22 x23 x24 x25 x26 x27 x28 : Option PyData} {l : Rho} : gv (x0 :: x1 :: x2 :: x3 :: x4 :: x5 :: x6 :: x7 :: x8 :: x9 :: x10 :: x11 :: x12 :: x13 :: x14 :: x15 :: x16 :: x17 :: x18 :: x19 :: x20 :: x21 :: x22 :: x23 :: x24 :: x25 :: x26 :: x27 :: x28 :: some d :: l) 29 = .ok d := rfl
@[simp] theorem toB_b {b : Bool} : toB (.bool b) = .ok b := rfl
end
@[simp] theorem setAll_0 {ρ : Rho} : setAll ρ [] [] = ρ := rfl
@[simp] theorem setAll_1 {ρ : Rho} {i : Nat} {is : List Nat} {d : PyData} {ds : List PyData} : setAll ρ (i :: is) (d :: ds) = setAll (ρ.set i (some d)) is ds := rfl
@[simp] theorem parM_1 {ρ : Rho} {is : List Nat} {ds : List PyData} : parM is ds ρ = if is.length = ds.length then .nx (setAll ρ is ds) else .stuck := rfl
@[simp] theorem bindT_nm {ρ : Rho} {i : Nat} {d : PyData} : bindT (.nm i) d ρ = some (ρ.set i (some d)) := rfl
@[simp] theorem bindT_tp {ρ : Rho} {is : List Nat} {ds : List PyData} : bindT (.tp is) (.tuple ds) ρ = if is.length = ds.length then some (setAll ρ is ds) else none := rfl
@[simp] theorem isLst_l {l : List PyData} : isLst (.list l) = true := rfl
theorem appD_l {l : List PyData} {y : PyData} (h : nodict y = true) (hl : l.length < 1000000) : appD (.list l) y = .ok (.list (l ++ [y])) := by
  show (if nodict y && decide (l.length < 1000000) then Res.ok (PyData.list (l ++ [y])) else .stuck) = _
  rw [h, decide_eq_true hl]
  rfl
theorem extD_l {l m : List PyData} (hl : l.length + m.length ≤ 1000000) : extD (.list l) (.list m) = .ok (.list (l ++ m)) := if_pos hl
@[simp] theorem addD_int {a b : Int} : binD .Add (.int a) (.int b) = .ok (.int (a + b)) := rfl
@[simp] theorem subD_int {a b : Int} : binD .Sub (.int a) (.int b) = .ok (.int (a - b)) := rfl
@[simp] theorem mulD_int {a b : Int} : binD .Mult (.int a) (.int b) = if (-18446744073709551616 < a ∧ a < 18446744073709551616) ∨ (-18446744073709551616 < b ∧ b < 18446744073709551616) then .ok (.int (a * b)) else .stuck := rfl
@[simp] theorem fdivD_int {a b : Int} : binD .FloorDiv (.int a) (.int b) = if 0 < b ∧ b < 1180591620717411303424 then .ok (.int (a / b)) else .stuck := rfl
@[simp] theorem modD_int {a b : Int} : binD .Mod (.int a) (.int b) = if 0 < b then .ok (.int (a % b)) else .stuck := rfl
@[simp] theorem powD_int {a b : Int} : binD .Pow (.int a) (.int b) = if 0 ≤ b ∧ b ≤ 1000 ∧ a.natAbs < 18446744073709551616 then .ok (.int (a ^ b.toNat)) else .stuck := rfl
@[simp] theorem addD_list {a b : List PyData} : binD .Add (.list a) (.list b) = if a.length + b.length ≤ sizeLine then .ok (.list (a ++ b)) else .stuck := rfl
@[simp] theorem addD_tup {a b : List PyData} : binD .Add (.tuple a) (.tuple b) = if a.length + b.length ≤ sizeLine then .ok (.tuple (a ++ b)) else .stuck := rfl
@[simp] theorem addD_str {a b : Str} : binD .Add (.str a) (.str b) = if a.length + b.length ≤ sizeLine then .ok (.str (a ++ b)) else .stuck := rfl
@[simp] theorem negD_int {a : Int} : negD (.int a) = .ok (.int (-a)) := rfl
@[simp] theorem ltD_int {a b : Int} : cmpD .Lt (.int a) (.int b) = .ok (.bool (decide (a < b))) := rfl
@[simp] theorem leD_int {a b : Int} : cmpD .LtE (.int a) (.int b) = .ok (.bool (decide (a ≤ b))) := rfl
@[simp] theorem gtD_int {a b : Int} : cmpD .Gt (.int a) (.int b) = .ok (.bool (decide (b < a))) := rfl
@[simp] theorem geD_int {a b : Int} : cmpD .GtE (.int a) (.int b) = .ok (.bool (decide (b ≤ a))) := rfl
@[simp] theorem isD_none {d : PyData} : cmpD .Is d .none = .ok (.bool (isNone d)) := by
  show isD false d .none = _
  unfold isD
  simp
@[simp] theorem isnotD_none {d : PyData} : cmpD .IsNot d .none = .ok (.bool (!isNone d)) := by
  show isD true d .none = _
  unfold isD
  simp
@[simp] theorem isD_bool {a b : Bool} : cmpD .Is (.bool a) (.bool b) = .ok (.bool (a == b)) := by
  show isD false (.bool a) (.bool b) = _
  simp [isD]
@[simp] theorem isnotD_bool {a b : Bool} : cmpD .IsNot (.bool a) (.bool b) = .ok (.bool (a != b)) := by
  cases a <;> cases b <;> rfl
@[simp] theorem eqD_int {a b : Int} : cmpD .Eq (.int a) (.int b) = .ok (.bool (decide (a = b))) := by
  show eqD false (.int a) (.int b) = _
  unfold eqD
  have h : SeqAt.shaped (.int a) = true := rfl
  have h2 : SeqAt.shaped (.int b) = true := rfl
  simp [h, h2, PyData.eqv]
  rfl
@[simp] theorem neD_int {a b : Int} : cmpD .NotEq (.int a) (.int b) = .ok (.bool (!decide (a = b))) := by
  show eqD true (.int a) (.int b) = _
  unfold eqD
  have h : SeqAt.shaped (.int a) = true := rfl
  have h2 : SeqAt.shaped (.int b) = true := rfl
  simp [h, h2, PyData.eqv]
  rfl
@[simp] theorem len_list {l : List PyData} : biD .len [.list l] = .ok (.int l.length) := rfl
@[simp] theorem len_tup {l : List PyData} : biD .len [.tuple l] = .ok (.int l.length) := rfl
@[simp] theorem len_scr {l : List PyData} : biD .len [scrD l] = .ok (.int l.length) := rfl
@[simp] theorem len_kst {l : List PyData} : biD .len [kstD l] = .ok (.int l.length) := rfl
@[simp] theorem len_dk {l : List (PyData × PyData)} : biD .len [dkD l] = .ok (.int l.length) := rfl
@[simp] theorem len_dt {l : List (PyData × PyData)} : biD .len [dtD l] = .ok (.int l.length) := rfl
theorem abs_int {i : Int} : biD .abs [.int i] = .ok (.int (if i < 0 then -i else i)) := rfl
@[simp] theorem max_int {i j : Int} : biD .max [.int i, .int j] = .ok (.int (if j > i then j else i)) := rfl
@[simp] theorem min_int {i j : Int} : biD .min [.int i, .int j] = .ok (.int (if j < i then j else i)) := rfl
@[simp] theorem tup_list {l : List PyData} : biD .tuple [.list l] = .ok (.tuple l) := rfl
@[simp] theorem list_tup {l : List PyData} : biD .list [.tuple l] = .ok (.list l) := rfl
@[simp] theorem list_list {l : List PyData} : biD .list [.list l] = .ok (.list l) := rfl
theorem all_bools {bs : List Bool} : biD .all [.list (bs.map .bool)] = .ok (.bool (bs.all id)) := by
  show allD [.list (bs.map .bool)] = _
  simp only [allD, blsOf_map]
theorem all_map {α : Type} {l : List α} {p : α → Bool} : biD .all [.list (l.map fun a => .bool (p a))] = .ok (.bool (l.all p)) := by
  have e : l.map (fun a => PyData.bool (p a)) = (l.map p).map .bool := by rw [List.map_map]; rfl
  rw [e, all_bools, List.all_map]
  rfl
theorem any_map {α : Type} {l : List α} {p : α → Bool} : biD .any [.list (l.map fun a => .bool (p a))] = .ok (.bool (l.any p)) := by
  have e : l.map (fun a => PyData.bool (p a)) = (l.map p).map .bool := by rw [List.map_map]; rfl
  rw [e]
  show anyD [.list ((l.map p).map .bool)] = _
  simp only [anyD, blsOf_map, List.any_map]
  rfl
theorem atI_nat {α : Type} {l : List α} {i : Nat} {a : α} (h : l[i]? = some a) : atI l (i : Int) = some a := by
  have hi : i < l.length := (List.getElem?_eq_some_iff.mp h).1
  simp [atI, ixN, hi]
  exact (List.getElem?_eq_some_iff.mp h).2
theorem idx_list {l : List PyData} {i : Nat} {a : PyData} (h : l[i]? = some a) : idxD (.list l) (.int i) = .ok a := by
  show (match atI l (i : Int) with
    | some v => Res.ok v
    | none => .stuck) = _
  rw [atI_nat h]
theorem idx_scr {l : List PyData} {i : Nat} {a : PyData} (h : l[i]? = some a) : idxD (scrD l) (.int i) = .ok a := by
  show (match atI l (i : Int) with
    | some v => Res.ok v
    | none => .stuck) = _
  rw [atI_nat h]
theorem idx_tup {l : List PyData} {i : Nat} {a : PyData} (h : l[i]? = some a) : idxD (.tuple l) (.int i) = .ok a := by
  show (match atI l (i : Int) with
    | some v => Res.ok v
    | none => .stuck) = _
  rw [atI_nat h]
@[simp] theorem idx_0 {a : PyData} {l : List PyData} : idxD (.tuple (a :: l)) (.int 0) = .ok a := idx_tup (i := 0) rfl
@[simp] theorem idx_1 {a b : PyData} {l : List PyData} : idxD (.tuple (a :: b :: l)) (.int 1) = .ok b := idx_tup (i := 1) rfl
@[simp] theorem idx_2 {a b c : PyData} {l : List PyData} : idxD (.tuple (a :: b :: c :: l)) (.int 2) = .ok c := idx_tup (i := 2) rfl
@[simp] theorem tupM_0 : tupM [] = .ok (.tuple []) := rfl
@[simp] theorem lstM_0 : lstM [] = .ok (.list []) := rfl
theorem tupM_of {ds : List PyData} (h : ds.all nodict = true) (hl : ds.length ≤ 1000) : tupM ds = .ok (.tuple ds) := by
  unfold tupM
  rw [h, decide_eq_true hl]
  rfl
theorem lstM_of {ds : List PyData} (h : ds.all nodict = true) (hl : ds.length ≤ 1000) : lstM ds = .ok (.list ds) := by
  unfold lstM
  rw [h, decide_eq_true hl]
  rfl
@[simp] theorem seqD_list {l : List PyData} : seqD (.list l) = .ok l := rfl
@[simp] theorem seqD_tup {l : List PyData} : seqD (.tuple l) = .ok l := rfl
@[simp] theorem nodict_int {i : Int} : nodict (.int i) = true := rfl
@[simp] theorem nodict_bool {i : Bool} : nodict (.bool i) = true := rfl
@[simp] theorem nodict_str {i : Str} : nodict (.str i) = true := rfl
@[simp] theorem nodict_none : nodict .none = true := rfl
@[simp] theorem nodict_list {i : List PyData} : nodict (.list i) = true := rfl
@[simp] theorem nodict_tup {i : List PyData} : nodict (.tuple i) = true := rfl
@[simp] theorem isNone_none : isNone .none = true := rfl
@[simp] theorem isNone_int {i : Int} : isNone (.int i) = false := rfl
@[simp] theorem isNone_tup {i : List PyData} : isNone (.tuple i) = false := rfl
@[simp] theorem isNone_list {i : List PyData} : isNone (.list i) = false := rfl
@[simp] theorem isNone_str {i : Str} : isNone (.str i) = false := rfl
@[simp] theorem isNone_bool {i : Bool} : isNone (.bool i) = false := rfl
mutual
def plainD : PyData → Bool
  | .none => true
  | .int _ => true
  | .str x => PyData.strOk x
  | .list l => plainA l
  | .tuple l => plainA l
  | _ => false
def plainA : List PyData → Bool
  | [] => true
  | x :: r => plainD x && plainA r
end
mutual
theorem eqv_plain : ∀ (d e : PyData), plainD d = true → plainD e = true → (PyData.eqv d e = true ↔ d = e)
  | .none, .none, _, _ => by simp [PyData.eqv]
  | .none, .int _, _, _ => by simp [PyData.eqv]
  | .none, .str _, _, _ => by simp [PyData.eqv]
  | .none, .list _, _, _ => by simp [PyData.eqv]
  | .none, .tuple _, _, _ => by simp [PyData.eqv]
  | .int _, .none, _, _ => by simp [PyData.eqv]
  | .int a, .int b, _, _ => by simp [PyData.eqv]
  | .int _, .str _, _, _ => by simp [PyData.eqv]
  | .int _, .list _, _, _ => by simp [PyData.eqv]
  | .int _, .tuple _, _, _ => by simp [PyData.eqv]
  | .str _, .none, _, _ => by simp [PyData.eqv]
  | .str _, .int _, _, _ => by simp [PyData.eqv]
  | .str a, .str b, _, _ => by simp [PyData.eqv]
  | .str _, .list _, _, _ => by simp [PyData.eqv]
  | .str _, .tuple _, _, _ => by simp [PyData.eqv]
  | .list _, .none, _, _ => by simp [PyData.eqv]
  | .list _, .int _, _, _ => by simp [PyData.eqv]
  | .list _, .str _, _, _ => by simp [PyData.eqv]
  | .list a, .list b, h, k => by
    simp only [PyData.eqv, PyData.list.injEq]
    exact eqvA_plain a b (by simpa [plainD] using h) (by simpa [plainD] using k)
  | .list _, .tuple _, _, _ => by simp [PyData.eqv]
  | .tuple _, .none, _, _ => by simp [PyData.eqv]
  | .tuple _, .int _, _, _ => by simp [PyData.eqv]
  | .tuple _, .str _, _, _ => by simp [PyData.eqv]
  | .tuple _, .list _, _, _ => by simp [PyData.eqv]
  | .tuple a, .tuple b, h, k => by
    simp only [PyData.eqv, PyData.tuple.injEq]
    exact eqvA_plain a b (by simpa [plainD] using h) (by simpa [plainD] using k)
  | .bool _, _, h, _ => by simp [plainD] at h
  | .dict _, _, h, _ => by simp [plainD] at h
  | .none, .bool _, _, k => by simp [plainD] at k
  | .none, .dict _, _, k => by simp [plainD] at k
  | .int _, .bool _, _, k => by simp [plainD] at k
  | .int _, .dict _, _, k => by simp [plainD] at k
  | .str _, .bool _, _, k => by simp [plainD] at k
  | .str _, .dict _, _, k => by simp [plainD] at k
  | .list _, .bool _, _, k => by simp [plainD] at k
  | .list _, .dict _, _, k => by simp [plainD] at k
  | .tuple _, .bool _, _, k => by simp [plainD] at k
  | .tuple _, .dict _, _, k => by simp [plainD] at k
theorem eqvA_plain : ∀ (d e : List PyData), plainA d = true → plainA e = true → (PyData.eqvAll d e = true ↔ d = e)
  | [], [], _, _ => by simp [PyData.eqvAll]
  | [], _ :: _, _, _ => by simp [PyData.eqvAll]
  | _ :: _, [], _, _ => by simp [PyData.eqvAll]
  | x :: a, y :: b, h, k => by
    simp only [plainA, Bool.and_eq_true] at h k
    simp only [PyData.eqvAll, Bool.and_eq_true, List.cons.injEq]
    rw [eqv_plain x y h.1 k.1, eqvA_plain a b h.2 k.2]
end
mutual
theorem canLay_plain : ∀ d : PyData, plainD d = true → d.canLay0 = true
  | .none, _ => by simp [PyData.canLay0]
  | .int _, _ => by simp [PyData.canLay0]
  | .str x, h => by simp [PyData.canLay0]; simpa [plainD] using h
  | .list l, h => by simp only [PyData.canLay0]; exact canLayA_plain l (by simpa [plainD] using h)
  | .tuple l, h => by simp only [PyData.canLay0]; exact canLayA_plain l (by simpa [plainD] using h)
  | .bool _, h => by simp [plainD] at h
  | .dict _, h => by simp [plainD] at h
theorem canLayA_plain : ∀ d : List PyData, plainA d = true → PyData.canLayAll0 d = true
  | [], _ => by simp [PyData.canLayAll0]
  | x :: r, h => by
    simp only [plainA, Bool.and_eq_true] at h
    simp only [PyData.canLayAll0, canLay_plain x h.1, canLayA_plain r h.2, Bool.and_self]
end
theorem plain_nodict {d : PyData} (h : plainD d = true) : nodict d = true := by
  cases d <;> first | rfl | (simp [plainD] at h)
/-- an encoding into plain data of a bounded depth -/
structure IsEn {α : Type} (e : α → PyData) (n : Nat) : Prop where
  inj : ∀ a b, e a = e b → a = b
  pl : ∀ a, plainD (e a) = true
  dp : ∀ a, (e a).depth ≤ n
section
variable {α β : Type} {e : α → PyData} {e2 : β → PyData} {n m : Nat}
theorem isEn_int : IsEn PyData.int 0 := ⟨fun a b h => by injection h, fun _ => rfl, fun _ => Nat.le_refl _⟩
theorem plainA_map (h : IsEn e n) : ∀ l : List α, plainA (l.map e) = true
  | [] => rfl
  | a :: l => by rw [List.map_cons]; simp only [plainA, h.pl a, plainA_map h l, Bool.and_self]
theorem depthAll_map (h : IsEn e n) : ∀ l : List α, PyData.depthAll (l.map e) ≤ n
  | [] => Nat.zero_le _
  | a :: l => by rw [List.map_cons]; simp only [PyData.depthAll]; exact Nat.max_le.mpr ⟨h.dp a, depthAll_map h l⟩
theorem map_inj (h : IsEn e n) : ∀ l m : List α, l.map e = m.map e → l = m
  | [], [], _ => rfl
  | [], _ :: _, k => by simp at k
  | _ :: _, [], k => by simp at k
  | a :: l, b :: m, k => by
    rw [List.map_cons, List.map_cons] at k
    injection k with k1 k2
    rw [h.inj a b k1, map_inj h l m k2]
theorem isEn_list (h : IsEn e n) : IsEn (fun l : List α => PyData.list (l.map e)) (n + 1) :=
  ⟨fun a b k => map_inj h a b (by injection k), fun l => by simp only [plainD, plainA_map h l], fun l => by simp only [PyData.depth]; exact Nat.succ_le_succ (depthAll_map h l)⟩
theorem isEn_tup (h : IsEn e n) : IsEn (fun l : List α => PyData.tuple (l.map e)) (n + 1) :=
  ⟨fun a b k => map_inj h a b (by injection k), fun l => by simp only [plainD, plainA_map h l], fun l => by simp only [PyData.depth]; exact Nat.succ_le_succ (depthAll_map h l)⟩
theorem isEn_pair (h : IsEn e n) (h2 : IsEn e2 n) : IsEn (fun p : α × β => PyData.tuple [e p.1, e2 p.2]) (n + 1) :=
  ⟨fun a b k => by
    injection k with k
    injection k with k1 k
    injection k with k2 _
    exact Prod.ext (h.inj _ _ k1) (h2.inj _ _ k2), fun l => by simp only [plainD, plainA, h.pl, h2.pl, Bool.and_self], fun l => by
    simp only [PyData.depth, PyData.depthAll]
    exact Nat.succ_le_succ (Nat.max_le.mpr ⟨h.dp _, Nat.max_le.mpr ⟨h2.dp _, Nat.zero_le _⟩⟩)⟩
theorem IsEn.mono (h : IsEn e n) (hm : n ≤ m) : IsEn e m := ⟨h.inj, h.pl, fun a => Nat.le_trans (h.dp a) hm⟩
/-- None or a value -/
def oD (e : α → PyData) : Option α → PyData
  | none => .none
  | some a => e a
theorem isEn_opt (h : IsEn e n) (hn : ∀ a, e a ≠ .none) : IsEn (oD e) n :=
  ⟨fun a b k => match a, b, k with
    | none, none, _ => rfl
    | none, some b, k => absurd k.symm (hn b)
    | some a, none, k => absurd k (hn a)
    | some a, some b, k => congrArg some (h.inj a b k), fun a => match a with
    | none => rfl
    | some a => h.pl a, fun a => match a with
    | none => Nat.zero_le _
    | some a => h.dp a⟩
theorem eqv_en [DecidableEq α] (h : IsEn e n) (a b : α) : PyData.eqv (e a) (e b) = decide (a = b) := by
  have := eqv_plain (e a) (e b) (h.pl a) (h.pl b)
  by_cases c : a = b
  · rw [decide_eq_true c]
    exact this.mpr (congrArg e c)
  · rw [decide_eq_false c]
    cases q : PyData.eqv (e a) (e b) with
    | false => rfl
    | true => exact absurd (h.inj _ _ (this.mp q)) c
theorem shaped_en (h : IsEn e n) (hn : n ≤ 64) (a : α) : SeqAt.shaped (e a) = true := by
  unfold SeqAt.shaped
  rw [canLay_plain _ (h.pl a), decide_eq_true (Nat.le_trans (h.dp a) hn)]
  rfl
theorem eqD_plain (neg : Bool) {d e : PyData} (h1 : nodict d = true) (h2 : SeqAt.shaped d = true) (h3 : SeqAt.shaped e = true) : eqD neg d e = .ok (.bool (PyData.eqv d e != neg)) := by
  unfold eqD
  split
  · cases h1
  · rw [h2, h3]; rfl
theorem eq_en [DecidableEq α] (h : IsEn e n) (hn : n ≤ 64) (a b : α) : cmpD .Eq (e a) (e b) = .ok (.bool (decide (a = b))) := by
  show eqD false _ _ = _
  rw [eqD_plain _ (plain_nodict (h.pl a)) (shaped_en h hn a) (shaped_en h hn b), eqv_en h]
  simp
theorem ne_en [DecidableEq α] (h : IsEn e n) (hn : n ≤ 64) (a b : α) : cmpD .NotEq (e a) (e b) = .ok (.bool (!decide (a = b))) := by
  show eqD true _ _ = _
  rw [eqD_plain _ (plain_nodict (h.pl a)) (shaped_en h hn a) (shaped_en h hn b), eqv_en h]
  simp
theorem any_en [DecidableEq α] (h : IsEn e n) (a : α) (l : List α) : ((l.map e).any fun z => PyData.eqv z (e a)) = decide (a ∈ l) := by
  rw [List.any_map]
  induction l with
  | nil => simp
  | cons b l ih =>
    rw [List.any_cons, ih]
    show (PyData.eqv (e b) (e a) || _) = _
    rw [eqv_en h, ← Bool.decide_or]
    exact decide_eq_decide.mpr (by rw [List.mem_cons]; constructor <;> (rintro (h | h) <;> first | exact .inl h.symm | exact .inr h))
theorem in_en [DecidableEq α] (h : IsEn e n) (hn : n ≤ 63) (a : α) (l : List α) : cmpD .In (e a) (.list (l.map e)) = .ok (.bool (decide (a ∈ l))) := by
  show inD false (e a) (.list (l.map e)) = _
  unfold inD
  (try dsimp only)
  rw [shaped_en h (by omega) a, shaped_en (isEn_list h) (by omega) l, any_en h]
  simp
theorem notin_en [DecidableEq α] (h : IsEn e n) (hn : n ≤ 63) (a : α) (l : List α) : cmpD .NotIn (e a) (.list (l.map e)) = .ok (.bool (!decide (a ∈ l))) := by
  show inD true (e a) (.list (l.map e)) = _
  unfold inD
  (try dsimp only)
  rw [shaped_en h (by omega) a, shaped_en (isEn_list h) (by omega) l, any_en h]
  simp
/-- of data of any plain kind -/
theorem ne_plain {d e : PyData} (hd : plainD d = true) (he : plainD e = true) (h1 : d.depth ≤ 64) (h2 : e.depth ≤ 64) (b : Bool) (hb : b = true ↔ d = e) : cmpD .NotEq d e = .ok (.bool (!b)) := by
  show eqD true _ _ = _
  have s1 : SeqAt.shaped d = true := by unfold SeqAt.shaped; rw [canLay_plain _ hd, decide_eq_true h1]; rfl
  have s2 : SeqAt.shaped e = true := by unfold SeqAt.shaped; rw [canLay_plain _ he, decide_eq_true h2]; rfl
  rw [eqD_plain _ (plain_nodict hd) s1 s2]
  have : PyData.eqv d e = b := by
    have k := eqv_plain d e hd he
    cases q : PyData.eqv d e <;> cases b <;> simp_all
  rw [this]
  simp
variable {T : Tg} {f : FS} {ft : FT} {fe : FE} {ρ : Rho} {vs : List Nat} {fi : FA}
theorem forF_rel {γ : Type} {P : γ → Rho → Prop} {step : γ → α → γ} : ∀ {xs : List α} {c : γ} {ρ : Rho}, P c ρ → (∀ c a ρ, a ∈ xs → P c ρ → ∃ ρ1 ρ2, bindT T (e a) ρ = some ρ1 ∧ f ρ1 = .nx ρ2 ∧ P (step c a) ρ2) → ∃ ρ', forF T f (xs.map e) ρ = .nx ρ' ∧ P (xs.foldl step c) ρ'
  | [], c, ρ, h, _ => ⟨ρ, rfl, h⟩
  | a :: xs, c, ρ, h, hs => by
    obtain ⟨ρ1, ρ2, h1, h2, h3⟩ := hs c a ρ List.mem_cons_self h
    obtain ⟨ρ', h4, h5⟩ := forF_rel (xs := xs) h3 fun c a ρ ha => hs c a ρ (List.mem_cons_of_mem _ ha)
    refine ⟨ρ', ?_, h5⟩
    rw [List.map_cons, forF, h1]
    show (f ρ1).seq _ = _
    rw [h2]
    exact h4
theorem sFor_rel {γ : Type} (e : α → PyData) (P : γ → Rho → Prop) (step : γ → α → γ) {xs : List α} {c : γ} {ρ : Rho} (hi : fi ρ = .ok (xs.map e)) (h0 : P c ρ) (hs : ∀ c a ρ, a ∈ xs → P c ρ → ∃ ρ1 ρ2, bindT T (e a) ρ = some ρ1 ∧ f ρ1 = .nx ρ2 ∧ P (step c a) ρ2) :
    ∃ ρ', sFor T fi f ρ = .nx ρ' ∧ P (xs.foldl step c) ρ' := by
  unfold sFor
  rw [hi]
  exact forF_rel h0 hs
/-- .. by what is done -/
theorem forF_pre {P : List α → Rho → Prop} {xs : List α} (hs : ∀ pre a post ρ, xs = pre ++ a :: post → P pre ρ → ∃ ρ1 ρ2, bindT T (e a) ρ = some ρ1 ∧ f ρ1 = .nx ρ2 ∧ P (pre ++ [a]) ρ2) : ∀ {post pre : List α} {ρ : Rho}, xs = pre ++ post → P pre ρ → ∃ ρ', forF T f (post.map e) ρ = .nx ρ' ∧ P xs ρ'
  | [], pre, ρ, hx, h => ⟨ρ, rfl, by rw [hx, List.append_nil]; exact h⟩
  | a :: post, pre, ρ, hx, h => by
    obtain ⟨ρ1, ρ2, h1, h2, h3⟩ := hs pre a post ρ hx h
    obtain ⟨ρ', h4, h5⟩ := forF_pre hs (post := post) (pre := pre ++ [a]) (by rw [hx, List.append_assoc]; rfl) h3
    refine ⟨ρ', ?_, h5⟩
    rw [List.map_cons, forF, h1]
    show (f ρ1).seq _ = _
    rw [h2]
    exact h4
theorem sFor_pre (e : α → PyData) (P : List α → Rho → Prop) {xs : List α} {ρ : Rho} (hi : fi ρ = .ok (xs.map e)) (h0 : P [] ρ) (hs : ∀ pre a post ρ, xs = pre ++ a :: post → P pre ρ → ∃ ρ1 ρ2, bindT T (e a) ρ = some ρ1 ∧ f ρ1 = .nx ρ2 ∧ P (pre ++ [a]) ρ2) :
    ∃ ρ', sFor T fi f ρ = .nx ρ' ∧ P xs ρ' := by
  unfold sFor
  rw [hi]
  exact forF_pre hs (post := xs) (pre := []) rfl h0
theorem compF_fm {p : α → Bool} {g : α → PyData} : ∀ {xs : List α}, (∀ a ∈ xs, ∃ ρ1, bindT T (e a) ρ = some ρ1 ∧ ft ρ1 = .ok (p a) ∧ (p a = true → fe ρ1 = .ok (g a) ∧ nodict (g a) = true)) → compF T ft fe ρ (xs.map e) = .ok ((xs.filter p).map g)
  | [], _ => rfl
  | a :: xs, h => by
    obtain ⟨ρ1, h1, h2, h3⟩ := h a List.mem_cons_self
    have ih := compF_fm (xs := xs) fun b hb => h b (List.mem_cons_of_mem _ hb)
    rw [List.map_cons, compF, h1]
    (try dsimp only)
    rw [h2]
    cases c : p a with
    | true =>
      obtain ⟨h4, h5⟩ := h3 c
      simp [h4, h5, ih, c]
    | false => simp [ih, c]
theorem xComp_fm (e : α → PyData) (p : α → Bool) (g : α → PyData) {xs : List α} (hi : fi ρ = .ok (xs.map e)) (h : ∀ a ∈ xs, ∃ ρ1, bindT T (e a) (wipeR ρ vs) = some ρ1 ∧ ft ρ1 = .ok (p a) ∧ (p a = true → fe ρ1 = .ok (g a) ∧ nodict (g a) = true)) :
    xComp fi T ft fe vs ρ = .ok (.list ((xs.filter p).map g)) := by
  unfold xComp
  rw [hi]
  show (compF T ft fe (wipeR ρ vs) (xs.map e)).bind _ = _
  rw [compF_fm h]
  rfl
theorem xComp_map (e : α → PyData) (g : α → PyData) {xs : List α} (hi : fi ρ = .ok (xs.map e)) (h : ∀ a ∈ xs, ∃ ρ1, bindT T (e a) (wipeR ρ vs) = some ρ1 ∧ ft ρ1 = .ok true ∧ fe ρ1 = .ok (g a) ∧ nodict (g a) = true) :
    xComp fi T ft fe vs ρ = .ok (.list (xs.map g)) := by
  have := xComp_fm (vs := vs) (fe := fe) (ft := ft) (T := T) e (fun _ => true) g hi fun a ha => by
    obtain ⟨ρ1, h1, h2, h3, h4⟩ := h a ha
    exact ⟨ρ1, h1, h2, fun _ => ⟨h3, h4⟩⟩
  rw [this, List.filter_eq_self.mpr fun _ _ => rfl]
variable {fj : FA} {T1 : Tg} {ft1 : FT} {vs1 : List Nat}
theorem comp2F_fm {p : α → Bool} {ys : α → List β} {q : α → β → Bool} {g : α → β → PyData} : ∀ {xs : List α}, (∀ a ∈ xs, ∃ ρ1, bindT T (e a) ρ = some ρ1 ∧ ft ρ1 = .ok (p a) ∧ (p a = true → fj ρ1 = .ok ((ys a).map e2) ∧
      ∀ b ∈ ys a, ∃ ρ2, bindT T1 (e2 b) (wipeR ρ1 vs1) = some ρ2 ∧ ft1 ρ2 = .ok (q a b) ∧ (q a b = true → fe ρ2 = .ok (g a b) ∧ nodict (g a b) = true))) →
    comp2F T ft fj T1 vs1 ft1 fe ρ (xs.map e) = .ok ((xs.filter p).flatMap fun a => ((ys a).filter (q a)).map (g a))
  | [], _ => rfl
  | a :: xs, h => by
    obtain ⟨ρ1, h1, h2, h3⟩ := h a List.mem_cons_self
    have ih := comp2F_fm (xs := xs) fun b hb => h b (List.mem_cons_of_mem _ hb)
    rw [List.map_cons, comp2F, h1]
    (try dsimp only)
    rw [h2]
    cases c : p a with
    | true =>
      obtain ⟨h4, h5⟩ := h3 c
      have h6 := compF_fm (e := e2) (p := q a) (g := g a) h5
      simp [h4, h6, ih, c]
    | false => simp [ih, c]
theorem xComp2_fm (e : α → PyData) (e2 : β → PyData) (p : α → Bool) (ys : α → List β) (q : α → β → Bool) (g : α → β → PyData) {xs : List α} (hi : fi ρ = .ok (xs.map e)) (h : ∀ a ∈ xs, ∃ ρ1, bindT T (e a) (wipeR ρ vs) = some ρ1 ∧ ft ρ1 = .ok (p a) ∧ (p a = true → fj ρ1 = .ok ((ys a).map e2) ∧
      ∀ b ∈ ys a, ∃ ρ2, bindT T1 (e2 b) (wipeR ρ1 vs1) = some ρ2 ∧ ft1 ρ2 = .ok (q a b) ∧ (q a b = true → fe ρ2 = .ok (g a b) ∧ nodict (g a b) = true))) (hl : ((xs.filter p).flatMap fun a => ((ys a).filter (q a)).map (g a)).length ≤ 1000000) :
    xComp2 fi T ft fj T1 vs1 ft1 fe vs ρ = .ok (.list ((xs.filter p).flatMap fun a => ((ys a).filter (q a)).map (g a))) := by
  unfold xComp2
  rw [hi]
  show (comp2F T ft fj T1 vs1 ft1 fe (wipeR ρ vs) (xs.map e)).bind _ = _
  rw [comp2F_fm h]
  show lenM _ = _
  unfold lenM
  rw [if_pos hl]
end
section
variable {ρ ρ1 : Rho} {f g : FS} {r : SR} {fa : FE} {ft : FT} {d : PyData} {i : Nat}
theorem sC_nx (h : f ρ = .nx ρ1) (h2 : g ρ1 = r) : sC f g ρ = r := by unfold sC; rw [h]; exact h2
theorem sC_rt (h : f ρ = .rt d) : sC f g ρ = .rt d := by unfold sC; rw [h]; rfl
theorem sIf_t (h : ft ρ = .ok true) (h2 : f ρ = r) : sIf ft f g ρ = r := by unfold sIf; rw [h]; exact h2
theorem sIf_f (h : ft ρ = .ok false) (h2 : g ρ = r) : sIf ft f g ρ = r := by unfold sIf; rw [h]; exact h2
theorem sRet_ok (h : fa ρ = .ok d) : sRet fa ρ = .rt d := by unfold sRet; rw [h]; rfl
theorem sSet_ok (h : fa ρ = .ok d) : sSet i fa ρ = .nx (ρ.set i (some d)) := by unfold sSet; rw [h]; rfl
theorem sExp_ok (h : fa ρ = .ok d) : sExp fa ρ = .nx ρ := by unfold sExp; rw [h]; rfl
theorem sExt_ok {fe : FE} {a b : List PyData} (h : gv ρ i = .ok (.list a)) (h2 : fe ρ = .ok (.list b)) (hl : a.length + b.length ≤ 1000000) : sExt i fe ρ = .nx (ρ.set i (some (.list (a ++ b)))) := by
  rw [sExt_ap, h, st_okM, isLst_l, if_pos rfl, h2, st_okM, extD_l hl, st_okM]
theorem sApp_ok {fe : FE} {a : List PyData} {y : PyData} (h : gv ρ i = .ok (.list a)) (h2 : fe ρ = .ok y) (hy : nodict y = true) (hl : a.length < 1000000) : sApp i fe ρ = .nx (ρ.set i (some (.list (a ++ [y])))) := by
  rw [sApp_ap, h, st_okM, isLst_l, if_pos rfl, h2, st_okM, appD_l hy hl, st_okM]
theorem sWhl_f (h : ft ρ = .ok false) : sWhl ft f ρ = .nx ρ := whileV_stop h
theorem sWhl_t (h : ft ρ = .ok true) (hb : f ρ = .nx ρ1) : sWhl ft f ρ = sWhl ft f ρ1 := whileV_go h hb
theorem runD_rt {n m : Nat} {ds : List PyData} (hl : ds.length = n) (h : f (ds.map some ++ List.replicate m none) = .rt d) : runD n m f ds = .ok d := by
  unfold runD
  rw [if_pos hl, h]
  rfl
theorem runD_nx {n m : Nat} {ds : List PyData} (hl : ds.length = n) (h : f (ds.map some ++ List.replicate m none) = .nx ρ1) : runD n m f ds = .ok .none := by
  unfold runD
  rw [if_pos hl, h]
  rfl
end
end Bv
set_option Elab.async false
set_option linter.all false
set_option maxRecDepth 100000
set_option maxHeartbeats 0
namespace Bv
open PySem PySem.Spec L2
noncomputable section
def k_NAMES : List PyData := [.str "aperture", .str "time", .str "sensitivity"]
def k_SIGNS : List PyData := [.int 1, .int 1, .int (-1)]
def excs_k26 : List Str := ["InvalidCamera", "InvalidSetting", "InvalidWheel", "InvalidBrightness", "InvalidNumber"]
def excs_k52 : List Str := ["InvalidCamera", "InvalidSetting", "InvalidBrightness", "InvalidLimits"]
def excs_k56 : List Str := ["InvalidCamera", "InvalidSetting", "InvalidNumber", "InvalidParts"]
def excs_k60 : List Str := ["InvalidCamera", "InvalidSetting", "InvalidParts", "TooLarge"]
def excs_k64 : List Str := ["InvalidCamera", "InvalidSetting", "InvalidWheel", "InvalidBrightness", "InvalidNumber", "NoClick", "NothingToUndo"]
def excs_k68 : List Str := ["InvalidCamera", "InvalidNumber", "ParseError"]
def excs_k70 : List Str := ["InvalidCamera", "InvalidSetting", "InvalidBrightness", "TooLarge"]
/-- is_int('value', 'least', 'most') -/
def f_is_int : FS :=
  sRet (xAnd (xIsi .int (xV 0)) (xAnd (xNot (xIsi .bool (xV 0))) (xChain .LtE .LtE (xV 1) (xV 0) (xV 2))))
def p_is_int : List PyData → Res PyData := runD 3 0 f_is_int
/-- is_wheel('value',) -/
def f_is_wheel : FS :=
  sC (sIf (tOr (tNot (tV (xIsi .tuple (xV 0)))) (tOr (tV (xCmp .NotEq (xBi .len (aC (xV 0) (aN))) (xK (.int 3)))) (tNot (tV (xCall p_is_int (aC (xIdx (xV 0) (xK (.int 0))) (aC (xK (.int 0)) (aC (xK (.int 40)) (aN))))))))) (sRet (xK (.bool false))) (sN)) (sC (sUnp (.tp [1, 2, 3]) (xV 0)) (sC (sIf (tOr (tNot (tV (xCall p_is_int (aC (xV 2) (aC (xV 1) (aC (xK (.int 60)) (aN))))))) (tNot (tV (xCall p_is_int (aC (xV 3) (aC (xK (.int 1)) (aC (xK (.int 3)) (aN)))))))) (sRet (xK (.bool false))) (sN)) (sRet (xCmp .LtE (xBin .Add (xBin .FloorDiv (xBin .Sub (xV 2) (xV 1)) (xV 3)) (xK (.int 1))) (xK (.int 13))))))
def p_is_wheel : List PyData → Res PyData := runD 1 3 f_is_wheel
/-- is_camera('candidate',) -/
def c_is_camera_1 : FE :=
  xComp (iSq' (xV 0)) (.nm 1) (tYs) (xCall p_is_wheel (aC (xV 1) (aN))) [1]
def f_is_camera : FS :=
  sC (sIf (tOr (tNot (tV (xIsi .tuple (xV 0)))) (tV (xCmp .NotEq (xBi .len (aC (xV 0) (aN))) (xBi .len (aC (xK (kstD k_NAMES)) (aN)))))) (sRet (xK (.bool false))) (sN)) (sRet (xBi .all (aC (c_is_camera_1) (aN))))
def p_is_camera : List PyData → Res PyData := runD 1 1 f_is_camera
/-- wheel_values('wheel',) -/
def f_wheel_values : FS :=
  sC (sUnp (.tp [1, 2, 3]) (xV 0)) (sRet (xRng3 (aC (xV 1) (aC (xBin .Add (xV 2) (xK (.int 1))) (aC (xV 3) (aN))))))
def p_wheel_values : List PyData → Res PyData := runD 1 3 f_wheel_values
/-- has_setting('camera', 'candidate') -/
def c_has_setting_1 : FE :=
  xComp (iZp (aC (xV 1) (aC (xV 0) (aN)))) (.tp [3, 4]) (tYs) (xAnd (xCall p_is_int (aC (xV 3) (aC (xK (.int 0)) (aC (xK (.int 60)) (aN))))) (xCmp .In (xV 3) (xCall p_wheel_values (aC (xV 4) (aN))))) [3, 4]
def f_has_setting : FS :=
  sC (sIf (tOr (tNot (tV (xIsi .tuple (xV 1)))) (tV (xCmp .NotEq (xBi .len (aC (xV 1) (aN))) (xBi .len (aC (xK (kstD k_NAMES)) (aN)))))) (sRet (xK (.bool false))) (sN)) (sC (sSet 2 (c_has_setting_1)) (sRet (xBi .all (aC (xV 2) (aN)))))
def p_has_setting : List PyData → Res PyData := runD 2 3 f_has_setting
/-- check_camera('value',) -/
def f_check_camera : FS :=
  sIf (tNot (tV (xCall p_is_camera (aC (xV 0) (aN))))) (sRse "InvalidCamera") (sN)
def p_check_camera : List PyData → Res PyData := runD 1 0 f_check_camera
/-- check_setting('camera', 'value') -/
def f_check_setting : FS :=
  sIf (tNot (tV (xCall p_has_setting (aC (xV 0) (aC (xV 1) (aN)))))) (sRse "InvalidSetting") (sN)
def p_check_setting : List PyData → Res PyData := runD 2 0 f_check_setting
/-- check_light('value',) -/
def f_check_light : FS :=
  sIf (tNot (tV (xCall p_is_int (aC (xV 0) (aC (xK (.int (-60))) (aC (xK (.int 120)) (aN))))))) (sRse "InvalidBrightness") (sN)
def p_check_light : List PyData → Res PyData := runD 1 0 f_check_light
/-- find_wheel('value',) -/
def f_find_wheel : FS :=
  sC (sIf (tOr (tNot (tV (xIsi .str (xV 0)))) (tV (xCmp .NotIn (xV 0) (xK (kstD k_NAMES))))) (sRse "InvalidWheel") (sN)) (sRet (xMt .tindex (xK (kstD k_NAMES)) (aC (xV 0) (aN))))
def p_find_wheel : List PyData → Res PyData := runD 1 0 f_find_wheel
/-- is_setting('camera', 'candidate') -/
def f_is_setting : FS :=
  sC (sExp (xCall p_check_camera (aC (xV 0) (aN)))) (sRet (xCall p_has_setting (aC (xV 0) (aC (xV 1) (aN)))))
def p_is_setting : List PyData → Res PyData := runD 2 0 f_is_setting
/-- values('camera', 'wheel') -/
def f_values : FS :=
  sC (sExp (xCall p_check_camera (aC (xV 0) (aN)))) (sRet (xCall p_wheel_values (aC (xIdx (xV 0) (xCall p_find_wheel (aC (xV 1) (aN)))) (aN))))
def p_values : List PyData → Res PyData := runD 2 0 f_values
/-- all_settings('camera',) -/
def c_all_settings_1 : FE :=
  xComp2 (iSq' (xV 1)) (.nm 3) (tYs) (iSq' (xCall p_wheel_values (aC (xV 2) (aN)))) (.nm 4) [4] (tYs) (xBin .Add (xV 3) (xTup (aC (xV 4) (aN)))) [3, 4]
def l_all_settings_1 : FS :=
  sSet 1 (c_all_settings_1)
def f_all_settings : FS :=
  sC (sSet 1 (xLst (aC (xTup (aN)) (aN)))) (sC (sFor (.nm 2) (iSq' (xV 0)) (l_all_settings_1)) (sRet (xV 1)))
def p_all_settings : List PyData → Res PyData := runD 1 4 f_all_settings
/-- count_settings('camera',) -/
def f_count_settings : FS :=
  sC (sExp (xCall p_check_camera (aC (xV 0) (aN)))) (sRet (xBi .len (aC (xCall p_all_settings (aC (xV 0) (aN))) (aN))))
def p_count_settings : List PyData → Res PyData := runD 1 0 f_count_settings
/-- find_exposure('setting',) -/
def f_find_exposure : FS :=
  sRet (xBin .Sub (xBin .Add (xIdx (xV 0) (xK (.int 0))) (xIdx (xV 0) (xK (.int 1)))) (xIdx (xV 0) (xK (.int 2))))
def p_find_exposure : List PyData → Res PyData := runD 1 0 f_find_exposure
/-- exposure('camera', 'setting') -/
def f_exposure : FS :=
  sC (sExp (xCall p_check_camera (aC (xV 0) (aN)))) (sC (sExp (xCall p_check_setting (aC (xV 0) (aC (xV 1) (aN))))) (sRet (xCall p_find_exposure (aC (xV 1) (aN)))))
def p_exposure : List PyData → Res PyData := runD 2 0 f_exposure
/-- error('camera', 'setting', 'brightness') -/
def f_error : FS :=
  sC (sExp (xCall p_check_camera (aC (xV 0) (aN)))) (sC (sExp (xCall p_check_setting (aC (xV 0) (aC (xV 1) (aN))))) (sC (sExp (xCall p_check_light (aC (xV 2) (aN)))) (sRet (xBin .Sub (xCall p_find_exposure (aC (xV 1) (aN))) (xV 2)))))
def p_error : List PyData → Res PyData := runD 3 0 f_error
/-- _law_pick('_law_script', '_law_k', '_law_many') -/
def l__law_pick_1 : FS :=
  sPar [4, 5] (aC (xBin .FloorDiv (xV 4) (xK (.int 840))) (aC (xBin .Sub (xV 5) (xK (.int 1))) (aN)))
def f__law_pick : FS :=
  sC (sSet 3 (xIf (tV (xCmp .NotEq (xV 0) (xLst (aN)))) (xIdx (xV 0) (xBin .Mod (xV 1) (xBi .len (aC (xV 0) (aN))))) (xK (.int 0)))) (sC (sPar [4, 5] (aC (xBin .FloorDiv (xV 3) (xBin .Pow (xK (.int 10)) (xK (.int 18)))) (aC (xBin .FloorDiv (xV 1) (xBi .max (aC (xBi .len (aC (xV 0) (aN))) (aC (xK (.int 1)) (aN))))) (aN)))) (sC (sWhl (tAnd (tV (xCmp .Gt (xV 4) (xK (.int 0)))) (tV (xCmp .Gt (xV 5) (xK (.int 0))))) (l__law_pick_1)) (sC (sIf (tV (xCmp .Gt (xV 4) (xK (.int 0)))) (sRet (xBin .Mod (xBin .Mod (xV 4) (xK (.int 840))) (xV 2))) (sN)) (sC (sSet 6 (xBin .Mod (xBin .Mult (xBin .Add (xBin .Mult (xV 3) (xK (.int 31))) (xBin .Mult (xK (.int 6151)) (xBin .Add (xV 1) (xK (.int 1))))) (xK (.int 40692))) (xK (.int 2147483399)))) (sRet (xBin .Mod (xBin .Mod (xBin .Add (xBin .Mult (xV 6) (xV 6)) (xBin .FloorDiv (xV 6) (xK (.int 31)))) (xK (.int 2147483629))) (xV 2)))))))
def p__law_pick : List PyData → Res PyData := runD 3 4 f__law_pick
/-- _law_box('_law_script', '_law_at', '_law_most') -/
def l__law_box_1 : FS :=
  sC (sPar [5, 6] (aC (xCall p__law_pick (aC (xV 0) (aC (xBin .Add (xV 1) (xBin .Mult (xK (.int 4)) (xV 4))) (aC (xK (.int 23)) (aN))))) (aC (xBin .Add (xK (.int 1)) (xCall p__law_pick (aC (xV 0) (aC (xBin .Add (xBin .Add (xV 1) (xBin .Mult (xK (.int 4)) (xV 4))) (xK (.int 1))) (aC (xK (.int 3)) (aN)))))) (aN)))) (sC (sSet 7 (xCall p__law_pick (aC (xV 0) (aC (xBin .Add (xBin .Add (xV 1) (xBin .Mult (xK (.int 4)) (xV 4))) (xK (.int 2))) (aC (xV 2) (aN)))))) (sC (sSet 8 (xCall p__law_pick (aC (xV 0) (aC (xBin .Add (xBin .Add (xV 1) (xBin .Mult (xK (.int 4)) (xV 4))) (xK (.int 3))) (aC (xV 6) (aN)))))) (sApp 3 (xTup (aC (xV 5) (aC (xBin .Add (xBin .Add (xV 5) (xBin .Mult (xV 6) (xV 7))) (xV 8)) (aC (xV 6) (aN))))))))
def f__law_box : FS :=
  sC (sSet 3 (xLst (aN))) (sC (sFor (.nm 4) (iRg 1 (aC (xK (.int 3)) (aN))) (l__law_box_1)) (sRet (xBi .tuple (aC (xV 3) (aN)))))
def p__law_box : List PyData → Res PyData := runD 3 6 f__law_box
/-- _law_every('_law_box_here',) -/
def c__law_every_1 : FE :=
  xComp (iRg 1 (aC (xBin .Add (xBin .Sub (xV 3) (xV 2)) (xK (.int 1))) (aN))) (.nm 7) (tV (xCmp .Eq (xBin .Mod (xV 7) (xV 4)) (xK (.int 0)))) (xBin .Add (xV 6) (xTup (aC (xBin .Add (xV 2) (xV 7)) (aN)))) [7]
def l__law_every_1 : FS :=
  sExt 5 (c__law_every_1)
def l__law_every_2 : FS :=
  sC (sSet 5 (xLst (aN))) (sC (sFor (.nm 6) (iSq' (xV 1)) (l__law_every_1)) (sSet 1 (xV 5)))
def f__law_every : FS :=
  sC (sSet 1 (xLst (aC (xTup (aN)) (aN)))) (sC (sFor (.tp [2, 3, 4]) (iSq' (xV 0)) (l__law_every_2)) (sRet (xV 1)))
def p__law_every : List PyData → Res PyData := runD 1 7 f__law_every
/-- _law_number('_law_one',) -/
def f__law_number : FS :=
  sRet (xBin .Sub (xBin .Add (xIdx (xV 0) (xK (.int 0))) (xIdx (xV 0) (xK (.int 1)))) (xIdx (xV 0) (xK (.int 2))))
def p__law_number : List PyData → Res PyData := runD 1 0 f__law_number
/-- _law_judged() -/
def c__law_judged_1 : FE :=
  xComp (iSq' (xV 1)) (.nm 3) (tYs) (xCmp .Is (xV 3) (xK (.bool true))) [3]
def c__law_judged_2 : FE :=
  xComp (iSq' (xV 2)) (.nm 3) (tYs) (xCmp .Is (xV 3) (xK (.bool false))) [3]
def f__law_judged : FS :=
  sC (sSet 0 (xTup (aC (xK (.int 0)) (aC (xK (.int 0)) (aC (xK (.int 1)) (aN)))))) (sC (sSet 1 (xLst (aC (xCall p_is_camera (aC (xTup (aC (xV 0) (aC (xV 0) (aC (xV 0) (aN))))) (aN))) (aC (xCall p_is_camera (aC (xTup (aC (xTup (aC (xK (.int 40)) (aC (xK (.int 60)) (aC (xK (.int 3)) (aN))))) (aC (xTup (aC (xK (.int 0)) (aC (xK (.int 12)) (aC (xK (.int 1)) (aN))))) (aC (xTup (aC (xK (.int 0)) (aC (xK (.int 38)) (aC (xK (.int 3)) (aN))))) (aN))))) (aN))) (aN))))) (sC (sSet 2 (xLst (aC (xCall p_is_camera (aC (xK .none) (aN))) (aC (xCall p_is_camera (aC (xTup (aC (xV 0) (aC (xV 0) (aN)))) (aN))) (aC (xCall p_is_camera (aC (xLst (aC (xV 0) (aC (xV 0) (aC (xV 0) (aN))))) (aN))) (aC (xCall p_is_camera (aC (xTup (aC (xTup (aC (xK (.int 0)) (aC (xK (.int 13)) (aC (xK (.int 1)) (aN))))) (aC (xV 0) (aC (xV 0) (aN))))) (aN))) (aN))))))) (sC (sExt 2 (xLst (aC (xCall p_is_camera (aC (xTup (aC (xTup (aC (xK (.int 41)) (aC (xK (.int 41)) (aC (xK (.int 1)) (aN))))) (aC (xV 0) (aC (xV 0) (aN))))) (aN))) (aC (xCall p_is_camera (aC (xTup (aC (xTup (aC (xK (.int 0)) (aC (xK (.int 61)) (aC (xK (.int 3)) (aN))))) (aC (xV 0) (aC (xV 0) (aN))))) (aN))) (aN))))) (sC (sApp 2 (xCall p_is_camera (aC (xTup (aC (xTup (aC (xK (.int 5)) (aC (xK (.int 4)) (aC (xK (.int 1)) (aN))))) (aC (xV 0) (aC (xV 0) (aN))))) (aN)))) (sC (sExt 2 (xLst (aC (xCall p_is_camera (aC (xTup (aC (xTup (aC (xK (.int 0)) (aC (xK (.int 0)) (aC (xK (.int 0)) (aN))))) (aC (xV 0) (aC (xV 0) (aN))))) (aN))) (aC (xCall p_is_camera (aC (xTup (aC (xTup (aC (xK (.int 0)) (aC (xK (.int 0)) (aC (xK (.int 4)) (aN))))) (aC (xV 0) (aC (xV 0) (aN))))) (aN))) (aC (xCall p_is_camera (aC (xTup (aC (xTup (aC (xNeg (xK (.int 1))) (aC (xK (.int 0)) (aC (xK (.int 1)) (aN))))) (aC (xV 0) (aC (xV 0) (aN))))) (aN))) (aN)))))) (sC (sExt 2 (xLst (aC (xCall p_is_camera (aC (xTup (aC (xTup (aC (xK (.bool true)) (aC (xK (.int 1)) (aC (xK (.int 1)) (aN))))) (aC (xV 0) (aC (xV 0) (aN))))) (aN))) (aC (xCall p_is_camera (aC (xTup (aC (xLst (aC (xK (.int 0)) (aC (xK (.int 0)) (aC (xK (.int 1)) (aN))))) (aC (xV 0) (aC (xV 0) (aN))))) (aN))) (aN))))) (sC (sExt 2 (xLst (aC (xCall p_is_camera (aC (xTup (aC (xTup (aC (xK (.int 0)) (aC (xK (.int 39)) (aC (xK (.int 3)) (aN))))) (aC (xV 0) (aC (xV 0) (aN))))) (aN))) (aC (xCall p_is_camera (aC (xTup (aC (xTup (aC (xK (.int 0)) (aC (xK (.int 0)) (aC (xK (.int 1)) (aC (xK (.int 1)) (aN)))))) (aC (xV 0) (aC (xV 0) (aN))))) (aN))) (aN))))) (sC (sExt 2 (xLst (aC (xCall p_is_camera (aC (xTup (aC (xTup (aC (xK (.int 0)) (aC (xK (.int 0)) (aN)))) (aC (xV 0) (aC (xV 0) (aN))))) (aN))) (aC (xCall p_is_camera (aC (xTup (aC (xV 0) (aC (xV 0) (aC (xV 0) (aC (xV 0) (aN)))))) (aN))) (aN))))) (sRet (xAnd (xBi .all (aC (c__law_judged_1) (aN))) (xBi .all (aC (c__law_judged_2) (aN)))))))))))))
def p__law_judged : List PyData → Res PyData := runD 0 4 f__law_judged
/-- law('_law_script',) -/
def c_law_k01_1 : FE :=
  xComp (iRg 2 (aC (xIdx (xV 5) (xK (.int 0))) (aC (xBin .Add (xIdx (xV 5) (xK (.int 1))) (xK (.int 1))) (aN)))) (.nm 13) (tV (xCmp .Eq (xBin .Mod (xBin .Sub (xV 13) (xIdx (xV 5) (xK (.int 0)))) (xIdx (xV 5) (xK (.int 2)))) (xK (.int 0)))) (xV 13) [13]
def l_law_k01_1 : FS :=
  sC (sSet 6 (c_law_k01_1)) (sC (sIf (tV (xCmp .NotEq (xCall p_values (aC (xV 2) (aC (xV 4) (aN)))) (xV 6))) (sRet (xK (.bool false))) (sN)) (sSet 3 (xBin .Mult (xV 3) (xBi .len (aC (xV 6) (aN))))))
def l_law_k01_2 : FS :=
  sC (sSet 9 (xIdx (xV 7) (xCall p__law_pick (aC (xV 0) (aC (xBin .Add (xBin .Add (xBin .Mult (xK (.int 30)) (xV 1)) (xK (.int 13))) (xV 8)) (aC (xBi .len (aC (xV 7) (aN))) (aN))))))) (sC (sSet 10 (xBin .Sub (xCall p__law_pick (aC (xV 0) (aC (xBin .Add (xBin .Add (xBin .Mult (xK (.int 30)) (xV 1)) (xK (.int 17))) (xV 8)) (aC (xK (.int 181)) (aN))))) (xK (.int 60)))) (sC (sIf (tOr (tV (xCmp .IsNot (xCall p_is_setting (aC (xV 2) (aC (xV 9) (aN)))) (xK (.bool true)))) (tV (xCmp .NotEq (xCall p_exposure (aC (xV 2) (aC (xV 9) (aN)))) (xCall p__law_number (aC (xV 9) (aN)))))) (sRet (xK (.bool false))) (sN)) (sC (sIf (tV (xCmp .NotEq (xCall p_error (aC (xV 2) (aC (xV 9) (aC (xV 10) (aN))))) (xBin .Sub (xCall p__law_number (aC (xV 9) (aN))) (xV 10)))) (sRet (xK (.bool false))) (sN)) (sC (sSet 11 (xTup (aC (xBin .Add (xIdx (xV 9) (xK (.int 0))) (xCall p__law_pick (aC (xV 0) (aC (xBin .Add (xBin .Mult (xK (.int 30)) (xV 1)) (xK (.int 21))) (aC (xK (.int 4)) (aN)))))) (aC (xIdx (xV 9) (xK (.int 1))) (aC (xBin .Sub (xIdx (xV 9) (xK (.int 2))) (xCall p__law_pick (aC (xV 0) (aC (xBin .Add (xBin .Mult (xK (.int 30)) (xV 1)) (xK (.int 22))) (aC (xK (.int 4)) (aN)))))) (aN)))))) (sIf (tV (xCmp .NotEq (xCall p_is_setting (aC (xV 2) (aC (xV 11) (aN)))) (xCmp .In (xV 11) (xV 7)))) (sRet (xK (.bool false))) (sN))))))
def l_law_k01_3 : FS :=
  sIf (tV (xCmp .IsNot (xCall p_is_setting (aC (xV 2) (aC (xV 12) (aN)))) (xK (.bool false)))) (sRet (xK (.bool false))) (sN)
def l_law_k01_4 : FS :=
  sC (sSet 2 (xCall p__law_box (aC (xV 0) (aC (xBin .Mult (xK (.int 30)) (xV 1)) (aC (xK (.int 13)) (aN)))))) (sC (sIf (tV (xCmp .IsNot (xCall p_is_camera (aC (xV 2) (aN))) (xK (.bool true)))) (sRet (xK (.bool false))) (sN)) (sC (sSet 3 (xK (.int 1))) (sC (sFor (.tp [4, 5]) (iZp (aC (xTup (aC (xK (.str "aperture")) (aC (xK (.str "time")) (aC (xK (.str "sensitivity")) (aN))))) (aC (xV 2) (aN)))) (l_law_k01_1)) (sC (sIf (tV (xCmp .NotEq (xCall p_count_settings (aC (xV 2) (aN))) (xV 3))) (sRet (xK (.bool false))) (sN)) (sC (sSet 7 (xCall p__law_every (aC (xV 2) (aN)))) (sC (sFor (.nm 8) (iRg 1 (aC (xK (.int 4)) (aN))) (l_law_k01_2)) (sFor (.nm 12) (iSq' (xTup (aC (xK .none) (aC (xSli (xV 9) oN (oS (xK (.int 2)))) (aC (xBi .list (aC (xV 9) (aN))) (aC (xBin .Add (xV 9) (xTup (aC (xK (.int 0)) (aN)))) (aC (xTup (aC (xIdx (xV 9) (xK (.int 0))) (aC (xIdx (xV 9) (xK (.int 1))) (aC (xK .none) (aN))))) (aC (xTup (aC (xIdx (xV 9) (xK (.int 0))) (aC (xK (.str "a")) (aC (xIdx (xV 9) (xK (.int 2))) (aN))))) (aN))))))))) (l_law_k01_3))))))))
def f_law_k01 : FS :=
  sC (sIf (tNot (tV (xCall0 p__law_judged))) (sRet (xK (.bool false))) (sN)) (sC (sFor (.nm 1) (iRg 1 (aC (xK (.int 3)) (aN))) (l_law_k01_4)) (sRet (xCmp .Eq (xCall p_exposure (aC (xTup (aC (xTup (aC (xK (.int 9)) (aC (xK (.int 15)) (aC (xK (.int 3)) (aN))))) (aC (xTup (aC (xK (.int 12)) (aC (xK (.int 14)) (aC (xK (.int 1)) (aN))))) (aC (xTup (aC (xK (.int 0)) (aC (xK (.int 6)) (aC (xK (.int 3)) (aN))))) (aN))))) (aC (xTup (aC (xK (.int 9)) (aC (xK (.int 13)) (aC (xK (.int 3)) (aN))))) (aN)))) (xK (.int 19)))))
def p_law_k01 : List PyData → Res PyData := runD 1 13 f_law_k01
/-- find_right('camera', 'brightness') -/
def c_find_right_1 : FE :=
  xComp (iSq' (xCall p_all_settings (aC (xV 0) (aN)))) (.nm 2) (tV (xCmp .Eq (xCall p_find_exposure (aC (xV 2) (aN))) (xV 1))) (xV 2) [2]
def f_find_right : FS :=
  sRet (c_find_right_1)
def p_find_right : List PyData → Res PyData := runD 2 1 f_find_right
/-- check_both('camera', 'brightness') -/
def f_check_both : FS :=
  sC (sExp (xCall p_check_camera (aC (xV 0) (aN)))) (sExp (xCall p_check_light (aC (xV 1) (aN))))
def p_check_both : List PyData → Res PyData := runD 2 0 f_check_both
/-- right_settings('camera', 'brightness') -/
def f_right_settings : FS :=
  sC (sExp (xCall p_check_both (aC (xV 0) (aC (xV 1) (aN))))) (sRet (xCall p_find_right (aC (xV 0) (aC (xV 1) (aN)))))
def p_right_settings : List PyData → Res PyData := runD 2 0 f_right_settings
/-- count_right('camera', 'brightness') -/
def f_count_right : FS :=
  sC (sExp (xCall p_check_both (aC (xV 0) (aC (xV 1) (aN))))) (sRet (xBi .len (aC (xCall p_find_right (aC (xV 0) (aC (xV 1) (aN)))) (aN))))
def p_count_right : List PyData → Res PyData := runD 2 0 f_count_right
/-- find_numbers('camera',) -/
def l_find_numbers_1 : FS :=
  sC (sSet 3 (xCall p_find_exposure (aC (xV 2) (aN)))) (sPut 1 (xV 3) (xBin .Add (xGet2 (xV 1) (xV 3) (xK (.int 0))) (xK (.int 1))))
def f_find_numbers : FS :=
  sC (sSet 1 (xK (dkD []))) (sC (sFor (.nm 2) (iSq' (xCall p_all_settings (aC (xV 0) (aN)))) (l_find_numbers_1)) (sRet (xV 1)))
def p_find_numbers : List PyData → Res PyData := runD 1 3 f_find_numbers
/-- find_reach('camera',) -/
def f_find_reach : FS :=
  sC (sSet 1 (xCall p_find_numbers (aC (xV 0) (aN)))) (sRet (xTup (aC (xBi .min (aC (xV 1) (aN))) (aC (xBi .max (aC (xV 1) (aN))) (aN)))))
def p_find_reach : List PyData → Res PyData := runD 1 1 f_find_reach
/-- reach('camera',) -/
def f_reach : FS :=
  sC (sExp (xCall p_check_camera (aC (xV 0) (aN)))) (sRet (xCall p_find_reach (aC (xV 0) (aN))))
def p_reach : List PyData → Res PyData := runD 1 0 f_reach
/-- reachable('camera',) -/
def f_reachable : FS :=
  sC (sExp (xCall p_check_camera (aC (xV 0) (aN)))) (sRet (xBi .sorted (aC (xCall p_find_numbers (aC (xV 0) (aN))) (aN))))
def p_reachable : List PyData → Res PyData := runD 1 0 f_reachable
/-- commonest('camera',) -/
def c_commonest_1 : FE :=
  xComp (iDk 1) (.nm 2) (tYs) (xTup (aC (xBin .Sub (xK (.int 0)) (xIdx (xV 1) (xV 2))) (aC (xV 2) (aN)))) [2]
def f_commonest : FS :=
  sC (sExp (xCall p_check_camera (aC (xV 0) (aN)))) (sC (sSet 1 (xCall p_find_numbers (aC (xV 0) (aN)))) (sRet (xIdx (xBi .min (aC (c_commonest_1) (aN))) (xK (.int 1)))))
def p_commonest : List PyData → Res PyData := runD 1 2 f_commonest
/-- _law_light('_law_script', '_law_at', '_law_box_here') -/
def f__law_light_k03 : FS :=
  sC (sSet 3 (xCall p__law_every (aC (xV 2) (aN)))) (sC (sSet 4 (xIdx (xV 3) (xCall p__law_pick (aC (xV 0) (aC (xV 1) (aC (xBi .len (aC (xV 3) (aN))) (aN))))))) (sRet (xBin .Add (xCall p__law_number (aC (xV 4) (aN))) (xIdx (xTup (aC (xK (.int 0)) (aC (xK (.int 0)) (aC (xK (.int 0)) (aC (xK (.int 1)) (aC (xNeg (xK (.int 1))) (aC (xK (.int 9)) (aN)))))))) (xCall p__law_pick (aC (xV 0) (aC (xBin .Add (xV 1) (xK (.int 1))) (aC (xK (.int 6)) (aN)))))))))
def p__law_light_k03 : List PyData → Res PyData := runD 3 2 f__law_light_k03
/-- law('_law_script',) -/
def l_law_k03_1 : FS :=
  sPut 4 (xCall p__law_number (aC (xV 5) (aN))) (xBin .Add (xGet2 (xV 4) (xCall p__law_number (aC (xV 5) (aN))) (xLst (aN))) (xLst (aC (xV 5) (aN))))
def c_law_k03_1 : FE :=
  xComp (iSq' (xV 6)) (.nm 12) (tYs) (xBi .len (aC (xIdx (xV 4) (xV 12)) (aN))) [12]
def c_law_k03_2 : FE :=
  xComp (iSq' (xV 6)) (.nm 12) (tV (xCmp .Eq (xBi .len (aC (xIdx (xV 4) (xV 12)) (aN))) (xV 7))) (xV 12) [12]
def l_law_k03_2 : FS :=
  sC (sSet 9 (xCall p__law_light_k03 (aC (xV 0) (aC (xBin .Add (xBin .Add (xBin .Mult (xK (.int 30)) (xV 1)) (xK (.int 13))) (xBin .Mult (xK (.int 2)) (xV 8))) (aC (xV 2) (aN)))))) (sC (sSet 10 (xGet2 (xV 4) (xV 9) (xLst (aN)))) (sC (sIf (tOr (tV (xCmp .NotEq (xCall p_right_settings (aC (xV 2) (aC (xV 9) (aN)))) (xV 10))) (tV (xCmp .NotEq (xCall p_count_right (aC (xV 2) (aC (xV 9) (aN)))) (xBi .len (aC (xV 10) (aN)))))) (sRet (xK (.bool false))) (sN)) (sC (sSet 11 (xBin .Sub (xBin .Add (xIdx (xV 6) (xK (.int 0))) (xIdx (xV 6) (xNeg (xK (.int 1))))) (xV 9))) (sIf (tV (xCmp .NotEq (xCall p_count_right (aC (xV 2) (aC (xV 9) (aN)))) (xCall p_count_right (aC (xV 2) (aC (xV 11) (aN)))))) (sRet (xK (.bool false))) (sN)))))
def c_law_k03_3 : FE :=
  xComp (iSq' (xV 6)) (.nm 12) (tYs) (xCall p_count_right (aC (xV 2) (aC (xV 12) (aN)))) [12]
def l_law_k03_3 : FS :=
  sC (sSet 2 (xCall p__law_box (aC (xV 0) (aC (xBin .Mult (xK (.int 30)) (xV 1)) (aC (xK (.int 8)) (aN)))))) (sC (sSet 3 (xCall p__law_every (aC (xV 2) (aN)))) (sC (sSet 4 (xK (dkD []))) (sC (sFor (.nm 5) (iSq' (xV 3)) (l_law_k03_1)) (sC (sSet 6 (xBi .sorted (aC (xV 4) (aN)))) (sC (sIf (tOr (tV (xCmp .NotEq (xCall p_reach (aC (xV 2) (aN))) (xTup (aC (xIdx (xV 6) (xK (.int 0))) (aC (xIdx (xV 6) (xNeg (xK (.int 1)))) (aN)))))) (tV (xCmp .NotEq (xCall p_reachable (aC (xV 2) (aN))) (xV 6)))) (sRet (xK (.bool false))) (sN)) (sC (sSet 7 (xBi .max (aC (c_law_k03_1) (aN)))) (sC (sIf (tV (xCmp .NotEq (xCall p_commonest (aC (xV 2) (aN))) (xBi .min (aC (c_law_k03_2) (aN))))) (sRet (xK (.bool false))) (sN)) (sC (sFor (.nm 8) (iRg 1 (aC (xK (.int 5)) (aN))) (l_law_k03_2)) (sIf (tV (xCmp .NotEq (xBi .sum (aC (c_law_k03_3) (aN))) (xBi .len (aC (xV 3) (aN))))) (sRet (xK (.bool false))) (sN))))))))))
def f_law_k03 : FS :=
  sC (sFor (.nm 1) (iRg 1 (aC (xK (.int 3)) (aN))) (l_law_k03_3)) (sRet (xCmp .Eq (xCall p_commonest (aC (xTup (aC (xTup (aC (xK (.int 9)) (aC (xK (.int 15)) (aC (xK (.int 3)) (aN))))) (aC (xTup (aC (xK (.int 12)) (aC (xK (.int 14)) (aC (xK (.int 1)) (aN))))) (aC (xTup (aC (xK (.int 0)) (aC (xK (.int 6)) (aC (xK (.int 3)) (aN))))) (aN))))) (aN))) (xK (.int 21))))
def p_law_k03 : List PyData → Res PyData := runD 1 12 f_law_k03
/-- gaps('camera',) -/
def c_gaps_1 : FE :=
  xComp (iRg 2 (aC (xBi .min (aC (xV 1) (aN))) (aC (xBi .max (aC (xV 1) (aN))) (aN)))) (.nm 2) (tV (xCmp .NotIn (xV 2) (xV 1))) (xV 2) [2]
def f_gaps : FS :=
  sC (sExp (xCall p_check_camera (aC (xV 0) (aN)))) (sC (sSet 1 (xCall p_find_numbers (aC (xV 0) (aN)))) (sRet (c_gaps_1)))
def p_gaps : List PyData → Res PyData := runD 1 2 f_gaps
/-- find_size('known', 'brightness') -/
def c_find_size_1 : FE :=
  xComp (iDk 0) (.nm 2) (tYs) (xBi .abs (aC (xBin .Sub (xV 2) (xV 1)) (aN))) [2]
def f_find_size : FS :=
  sRet (xBi .min (aC (c_find_size_1) (aN)))
def p_find_size : List PyData → Res PyData := runD 2 1 f_find_size
/-- least_error('camera', 'brightness') -/
def f_least_error : FS :=
  sC (sExp (xCall p_check_both (aC (xV 0) (aC (xV 1) (aN))))) (sRet (xCall p_find_size (aC (xCall p_find_numbers (aC (xV 0) (aN))) (aC (xV 1) (aN)))))
def p_least_error : List PyData → Res PyData := runD 2 0 f_least_error
/-- nearest_settings('camera', 'brightness') -/
def c_nearest_settings_1 : FE :=
  xComp (iSq' (xCall p_all_settings (aC (xV 0) (aN)))) (.nm 3) (tV (xCmp .Eq (xBi .abs (aC (xBin .Sub (xCall p_find_exposure (aC (xV 3) (aN))) (xV 1)) (aN))) (xV 2))) (xV 3) [3]
def f_nearest_settings : FS :=
  sC (sExp (xCall p_check_both (aC (xV 0) (aC (xV 1) (aN))))) (sC (sSet 2 (xCall p_find_size (aC (xCall p_find_numbers (aC (xV 0) (aN))) (aC (xV 1) (aN))))) (sRet (c_nearest_settings_1)))
def p_nearest_settings : List PyData → Res PyData := runD 2 2 f_nearest_settings
/-- worst_brightness('camera',) -/
def c_worst_brightness_1 : FE :=
  xComp (iRg 2 (aC (xV 2) (aC (xBin .Add (xV 3) (xK (.int 1))) (aN)))) (.nm 4) (tYs) (xTup (aC (xBin .Sub (xK (.int 0)) (xCall p_find_size (aC (xV 1) (aC (xV 4) (aN))))) (aC (xV 4) (aN)))) [4]
def f_worst_brightness : FS :=
  sC (sExp (xCall p_check_camera (aC (xV 0) (aN)))) (sC (sSet 1 (xCall p_find_numbers (aC (xV 0) (aN)))) (sC (sUnp (.tp [2, 3]) (xCall p_find_reach (aC (xV 0) (aN)))) (sRet (xIdx (xBi .min (aC (c_worst_brightness_1) (aN))) (xK (.int 1))))))
def p_worst_brightness : List PyData → Res PyData := runD 1 4 f_worst_brightness
/-- law('_law_script',) -/
def c_law_k07_1 : FE :=
  xComp (iSq' (xV 3)) (.nm 12) (tYs) (xCall p__law_number (aC (xV 12) (aN))) [12]
def c_law_k07_2 : FE :=
  xComp (iSq' (xV 5)) (.nm 13) (tV (xCmp .NotIn (xV 13) (xV 4))) (xV 13) [13]
def c_law_k07_3 : FE :=
  xComp (iSq' (xV 2)) (.nm 14) (tAnd (tV (xCmp .Eq (xIdx (xV 14) (xK (.int 2))) (xK (.int 1)))) (tV (xCmp .GtE (xBin .Sub (xIdx (xV 14) (xK (.int 1))) (xIdx (xV 14) (xK (.int 0)))) (xK (.int 2))))) (xV 14) [14]
def c_law_k07_4 : FE :=
  xComp (iSq' (xV 3)) (.nm 12) (tYs) (xBi .abs (aC (xBin .Sub (xCall p__law_number (aC (xV 12) (aN))) (xV 9)) (aN))) [12]
def c_law_k07_5 : FE :=
  xComp (iZp (aC (xV 3) (aC (xV 10) (aN)))) (.tp [12, 15]) (tV (xCmp .Eq (xV 15) (xBi .min (aC (xV 10) (aN))))) (xV 12) [12, 15]
def l_law_k07_1 : FS :=
  sC (sSet 9 (xCall p__law_light_k03 (aC (xV 0) (aC (xBin .Add (xBin .Add (xBin .Mult (xK (.int 40)) (xV 1)) (xK (.int 13))) (xBin .Mult (xK (.int 2)) (xV 8))) (aC (xV 2) (aN)))))) (sC (sSet 9 (xBi .max (aC (xNeg (xK (.int 60))) (aC (xBi .min (aC (xK (.int 120)) (aC (xBin .Add (xV 9) (xIdx (xTup (aC (xK (.int 0)) (aC (xK (.int 40)) (aC (xNeg (xK (.int 40))) (aC (xK (.int 0)) (aN)))))) (xV 8))) (aN)))) (aN))))) (sC (sSet 10 (c_law_k07_4)) (sC (sIf (tV (xCmp .NotEq (xCall p_least_error (aC (xV 2) (aC (xV 9) (aN)))) (xBi .min (aC (xV 10) (aN))))) (sRet (xK (.bool false))) (sN)) (sIf (tV (xCmp .NotEq (xCall p_nearest_settings (aC (xV 2) (aC (xV 9) (aN)))) (c_law_k07_5))) (sRet (xK (.bool false))) (sN)))))
def c_law_k07_6 : FE :=
  xComp (iSq' (xV 4)) (.nm 13) (tYs) (xBi .abs (aC (xBin .Sub (xV 13) (xV 9)) (aN))) [13]
def c_law_k07_7 : FE :=
  xComp (iSq' (xV 5)) (.nm 9) (tYs) (xBi .min (aC (c_law_k07_6) (aN))) [9]
def l_law_k07_2 : FS :=
  sC (sSet 2 (xCall p__law_box (aC (xV 0) (aC (xBin .Mult (xK (.int 40)) (xV 1)) (aC (xK (.int 6)) (aN)))))) (sC (sSet 3 (xCall p__law_every (aC (xV 2) (aN)))) (sC (sSet 4 (xSSet (c_law_k07_1))) (sC (sSet 5 (xRng2 (xIdx (xV 4) (xK (.int 0))) (xBin .Add (xIdx (xV 4) (xNeg (xK (.int 1)))) (xK (.int 1))))) (sC (sSet 6 (c_law_k07_2)) (sC (sIf (tV (xCmp .NotEq (xCall p_gaps (aC (xV 2) (aN))) (xV 6))) (sRet (xK (.bool false))) (sN)) (sC (sSet 7 (c_law_k07_3)) (sC (sIf (tAnd (tV (xCmp .NotEq (xV 7) (xLst (aN)))) (tV (xCmp .NotEq (xV 6) (xLst (aN))))) (sRet (xK (.bool false))) (sN)) (sC (sFor (.nm 8) (iRg 1 (aC (xK (.int 4)) (aN))) (l_law_k07_1)) (sC (sSet 11 (c_law_k07_7)) (sC (sIf (tV (xCmp .NotEq (xCall p_worst_brightness (aC (xV 2) (aN))) (xIdx (xV 5) (xMt .lindex (xV 11) (aC (xBi .max (aC (xV 11) (aN))) (aN)))))) (sRet (xK (.bool false))) (sN)) (sIf (tV (xCmp .NotEq (xCmp .Eq (xBi .max (aC (xV 11) (aN))) (xK (.int 0))) (xCmp .Eq (xV 6) (xLst (aN))))) (sRet (xK (.bool false))) (sN))))))))))))
def f_law_k07 : FS :=
  sC (sFor (.nm 1) (iRg 1 (aC (xK (.int 3)) (aN))) (l_law_k07_2)) (sRet (xCmp .Eq (xCall p_gaps (aC (xTup (aC (xTup (aC (xK (.int 0)) (aC (xK (.int 6)) (aC (xK (.int 3)) (aN))))) (aC (xTup (aC (xK (.int 0)) (aC (xK (.int 0)) (aC (xK (.int 1)) (aN))))) (aC (xTup (aC (xK (.int 0)) (aC (xK (.int 0)) (aC (xK (.int 1)) (aN))))) (aN))))) (aN))) (xLst (aC (xK (.int 1)) (aC (xK (.int 2)) (aC (xK (.int 4)) (aC (xK (.int 5)) (aN))))))))
def p_law_k07 : List PyData → Res PyData := runD 1 15 f_law_k07
/-- count_clicks('camera', 'one', 'other') -/
def l_count_clicks_1 : FS :=
  sSet 3 (xBin .Add (xV 3) (xBin .FloorDiv (xBi .abs (aC (xBin .Sub (xV 5) (xV 6)) (aN))) (xIdx (xV 4) (xK (.int 2)))))
def f_count_clicks : FS :=
  sC (sSet 3 (xK (.int 0))) (sC (sFor (.tp [4, 5, 6]) (iZ3 (aC (xV 0) (aC (xV 1) (aC (xV 2) (aN))))) (l_count_clicks_1)) (sRet (xV 3)))
def p_count_clicks : List PyData → Res PyData := runD 3 4 f_count_clicks
/-- clicks('camera', 'one', 'other') -/
def f_clicks : FS :=
  sC (sExp (xCall p_check_camera (aC (xV 0) (aN)))) (sC (sExp (xCall p_check_setting (aC (xV 0) (aC (xV 1) (aN))))) (sC (sExp (xCall p_check_setting (aC (xV 0) (aC (xV 2) (aN))))) (sRet (xCall p_count_clicks (aC (xV 0) (aC (xV 1) (aC (xV 2) (aN))))))))
def p_clicks : List PyData → Res PyData := runD 3 0 f_clicks
/-- find_nearest('camera', 'setting', 'brightness') -/
def c_find_nearest_1 : FE :=
  xComp (iSq' (xCall p_find_right (aC (xV 0) (aC (xV 2) (aN))))) (.nm 4) (tYs) (xTup (aC (xCall p_count_clicks (aC (xV 0) (aC (xV 1) (aC (xV 4) (aN))))) (aC (xV 4) (aN)))) [4]
def f_find_nearest : FS :=
  sC (sExp (xCall p_check_camera (aC (xV 0) (aN)))) (sC (sExp (xCall p_check_setting (aC (xV 0) (aC (xV 1) (aN))))) (sC (sExp (xCall p_check_light (aC (xV 2) (aN)))) (sC (sSet 3 (c_find_nearest_1)) (sRet (xIf (tV (xCmp .NotEq (xV 3) (xLst (aN)))) (xBi .min (aC (xV 3) (aN))) (xK .none))))))
def p_find_nearest : List PyData → Res PyData := runD 3 2 f_find_nearest
/-- fewest_clicks('camera', 'setting', 'brightness') -/
def f_fewest_clicks : FS :=
  sC (sSet 3 (xCall p_find_nearest (aC (xV 0) (aC (xV 1) (aC (xV 2) (aN)))))) (sRet (xIf (tV (xCmp .IsNot (xV 3) (xK .none))) (xIdx (xV 3) (xK (.int 0))) (xK .none)))
def p_fewest_clicks : List PyData → Res PyData := runD 3 1 f_fewest_clicks
/-- nearest_right('camera', 'setting', 'brightness') -/
def f_nearest_right : FS :=
  sC (sSet 3 (xCall p_find_nearest (aC (xV 0) (aC (xV 1) (aC (xV 2) (aN)))))) (sRet (xIf (tV (xCmp .IsNot (xV 3) (xK .none))) (xIdx (xV 3) (xK (.int 1))) (xK .none)))
def p_nearest_right : List PyData → Res PyData := runD 3 1 f_nearest_right
/-- farthest('camera', 'brightness') -/
def l_farthest_1 : FS :=
  sC (sSet 7 (xCall p_count_clicks (aC (xV 0) (aC (xV 5) (aC (xV 6) (aN)))))) (sIf (tV (xCmp .Gt (xV 7) (xV 3))) (sPar [3, 4] (aC (xV 7) (aC (xTup (aC (xV 5) (aC (xV 6) (aN)))) (aN)))) (sN))
def l_farthest_2 : FS :=
  sFor (.nm 6) (iSq' (xV 2)) (l_farthest_1)
def f_farthest : FS :=
  sC (sExp (xCall p_check_both (aC (xV 0) (aC (xV 1) (aN))))) (sC (sPar [2, 3, 4] (aC (xCall p_find_right (aC (xV 0) (aC (xV 1) (aN)))) (aC (xNeg (xK (.int 1))) (aC (xK .none) (aN))))) (sC (sFor (.nm 5) (iSq' (xV 2)) (l_farthest_2)) (sRet (xV 4))))
def p_farthest : List PyData → Res PyData := runD 2 6 f_farthest
/-- _law_from('_law_box_here', '_law_start') -/
def c__law_from_1 : FE :=
  xComp (iSq' (xCall p__law_every (aC (xV 0) (aN)))) (.nm 6) (tYs) (xTup (aC (xV 6) (aC (xK (.bool true)) (aN)))) [6]
def l__law_from_1 : FS :=
  sC (sSet 9 (xBin .Add (xBin .Add (xSli (xV 6) oN (oS (xV 7))) (xTup (aC (xBin .Add (xIdx (xV 6) (xV 7)) (xV 8)) (aN)))) (xSli (xV 6) (oS (xBin .Add (xV 7) (xK (.int 1)))) oN))) (sIf (tAnd (tV (xCmp .In (xV 9) (xV 2))) (tV (xCmp .NotIn (xV 9) (xV 3)))) (sC (sPut 3 (xV 9) (xBin .Add (xIdx (xV 3) (xV 6)) (xK (.int 1)))) (sApp 5 (xV 9))) (sN))
def l__law_from_2 : FS :=
  sFor (.nm 8) (iSq' (xTup (aC (xIdx (xIdx (xV 0) (xV 7)) (xK (.int 2))) (aC (xBin .Sub (xK (.int 0)) (xIdx (xIdx (xV 0) (xV 7)) (xK (.int 2)))) (aN))))) (l__law_from_1)
def l__law_from_3 : FS :=
  sFor (.nm 7) (iRg 1 (aC (xK (.int 3)) (aN))) (l__law_from_2)
def l__law_from_4 : FS :=
  sC (sSet 5 (xLst (aN))) (sC (sFor (.nm 6) (iSq' (xV 4)) (l__law_from_3)) (sSet 4 (xV 5)))
def f__law_from : FS :=
  sC (sSet 2 (xBi .dict (aC (c__law_from_1) (aN)))) (sC (sPar [3, 4] (aC (xDt1 (xV 1) (xK (.int 0))) (aC (xLst (aC (xV 1) (aN))) (aN)))) (sC (sWhl (tV (xCmp .NotEq (xV 4) (xLst (aN)))) (l__law_from_4)) (sRet (xV 3))))
def p__law_from : List PyData → Res PyData := runD 2 8 f__law_from
/-- law('_law_script',) -/
def c_law_k12_1 : FE :=
  xComp (iSq' (xV 3)) (.nm 13) (tYs) (xCall p_clicks (aC (xV 2) (aC (xV 4) (aC (xV 13) (aN))))) [13]
def c_law_k12_2 : FE :=
  xComp (iSq' (xV 3)) (.nm 13) (tYs) (xIdx (xV 5) (xV 13)) [13]
def c_law_k12_3 : FE :=
  xComp (iSq' (xV 3)) (.nm 13) (tV (xCmp .Eq (xCall p__law_number (aC (xV 13) (aN))) (xV 7))) (xV 13) [13]
def c_law_k12_4 : FE :=
  xComp (iSq' (xV 8)) (.nm 13) (tYs) (xTup (aC (xIdx (xV 5) (xV 13)) (aC (xV 13) (aN)))) [13]
def c_law_k12_5 : FE :=
  xComp (iSq' (xV 8)) (.nm 13) (tYs) (xTup (aC (xBin .Sub (xK (.int 0)) (xIdx (xV 12) (xV 13))) (aC (xTup (aC (xV 11) (aC (xV 13) (aN)))) (aN)))) [13]
def l_law_k12_1 : FS :=
  sC (sSet 12 (xCall p__law_from (aC (xV 2) (aC (xV 11) (aN))))) (sExt 10 (c_law_k12_5))
def l_law_k12_2 : FS :=
  sC (sSet 7 (xCall p__law_light_k03 (aC (xV 0) (aC (xBin .Add (xBin .Add (xBin .Mult (xK (.int 40)) (xV 1)) (xK (.int 14))) (xBin .Mult (xK (.int 2)) (xV 6))) (aC (xV 2) (aN)))))) (sC (sSet 8 (c_law_k12_3)) (sC (sSet 9 (xBi .sorted (aC (c_law_k12_4) (aN)))) (sC (sIf (tV (xCmp .NotEq (xCall p_fewest_clicks (aC (xV 2) (aC (xV 4) (aC (xV 7) (aN))))) (xIf (tV (xCmp .NotEq (xV 9) (xLst (aN)))) (xIdx (xIdx (xV 9) (xK (.int 0))) (xK (.int 0))) (xK .none)))) (sRet (xK (.bool false))) (sN)) (sC (sIf (tV (xCmp .NotEq (xCall p_nearest_right (aC (xV 2) (aC (xV 4) (aC (xV 7) (aN))))) (xIf (tV (xCmp .NotEq (xV 9) (xLst (aN)))) (xIdx (xIdx (xV 9) (xK (.int 0))) (xK (.int 1))) (xK .none)))) (sRet (xK (.bool false))) (sN)) (sC (sSet 10 (xLst (aN))) (sC (sFor (.nm 11) (iSq' (xV 8)) (l_law_k12_1)) (sIf (tV (xCmp .NotEq (xCall p_farthest (aC (xV 2) (aC (xV 7) (aN)))) (xIf (tV (xCmp .NotEq (xV 10) (xLst (aN)))) (xIdx (xBi .min (aC (xV 10) (aN))) (xK (.int 1))) (xK .none)))) (sRet (xK (.bool false))) (sN))))))))
def l_law_k12_3 : FS :=
  sC (sSet 2 (xCall p__law_box (aC (xV 0) (aC (xBin .Mult (xK (.int 40)) (xV 1)) (aC (xK (.int 4)) (aN)))))) (sC (sSet 3 (xCall p__law_every (aC (xV 2) (aN)))) (sC (sSet 4 (xIdx (xV 3) (xCall p__law_pick (aC (xV 0) (aC (xBin .Add (xBin .Mult (xK (.int 40)) (xV 1)) (xK (.int 13))) (aC (xBi .len (aC (xV 3) (aN))) (aN))))))) (sC (sSet 5 (xCall p__law_from (aC (xV 2) (aC (xV 4) (aN))))) (sC (sIf (tV (xCmp .NotEq (c_law_k12_1) (c_law_k12_2))) (sRet (xK (.bool false))) (sN)) (sFor (.nm 6) (iRg 1 (aC (xK (.int 3)) (aN))) (l_law_k12_2))))))
def f_law_k12 : FS :=
  sC (sFor (.nm 1) (iRg 1 (aC (xK (.int 2)) (aN))) (l_law_k12_3)) (sRet (xCmp .Eq (xCall p_clicks (aC (xTup (aC (xTup (aC (xK (.int 9)) (aC (xK (.int 15)) (aC (xK (.int 3)) (aN))))) (aC (xTup (aC (xK (.int 12)) (aC (xK (.int 14)) (aC (xK (.int 1)) (aN))))) (aC (xTup (aC (xK (.int 0)) (aC (xK (.int 6)) (aC (xK (.int 3)) (aN))))) (aN))))) (aC (xTup (aC (xK (.int 9)) (aC (xK (.int 12)) (aC (xK (.int 0)) (aN))))) (aC (xTup (aC (xK (.int 15)) (aC (xK (.int 13)) (aC (xK (.int 0)) (aN))))) (aN))))) (xK (.int 3))))
def p_law_k12 : List PyData → Res PyData := runD 1 13 f_law_k12
/-- count_changed('one', 'other') -/
def c_count_changed_1 : FE :=
  xComp (iZp (aC (xV 0) (aC (xV 1) (aN)))) (.tp [2, 3]) (tV (xCmp .NotEq (xV 2) (xV 3))) (xK (.int 1)) [2, 3]
def f_count_changed : FS :=
  sRet (xBi .len (aC (c_count_changed_1) (aN)))
def p_count_changed : List PyData → Res PyData := runD 2 2 f_count_changed
/-- find_shifts('known', 'setting') -/
def c_find_shifts_1 : FE :=
  xComp (iSq' (xV 0)) (.nm 2) (tV (xCmp .Eq (xCall p_count_changed (aC (xV 1) (aC (xV 2) (aN)))) (xK (.int 2)))) (xV 2) [2]
def f_find_shifts : FS :=
  sRet (c_find_shifts_1)
def p_find_shifts : List PyData → Res PyData := runD 2 1 f_find_shifts
/-- shifts('camera', 'setting') -/
def f_shifts : FS :=
  sC (sExp (xCall p_check_camera (aC (xV 0) (aN)))) (sC (sExp (xCall p_check_setting (aC (xV 0) (aC (xV 1) (aN))))) (sRet (xCall p_find_shifts (aC (xCall p_find_right (aC (xV 0) (aC (xCall p_find_exposure (aC (xV 1) (aN))) (aN)))) (aC (xV 1) (aN))))))
def p_shifts : List PyData → Res PyData := runD 2 0 f_shifts
/-- spread('known', 'start') -/
def l_spread_1 : FS :=
  sIf (tV (xCmp .NotIn (xV 6) (xV 2))) (sC (sPut 2 (xV 6) (xBin .Add (xIdx (xV 2) (xV 5)) (xK (.int 1)))) (sApp 4 (xV 6))) (sN)
def l_spread_2 : FS :=
  sFor (.nm 6) (iSq' (xCall p_find_shifts (aC (xV 0) (aC (xV 5) (aN))))) (l_spread_1)
def l_spread_3 : FS :=
  sC (sSet 4 (xLst (aN))) (sC (sFor (.nm 5) (iSq' (xV 3)) (l_spread_2)) (sSet 3 (xV 4)))
def f_spread : FS :=
  sC (sPar [2, 3] (aC (xDt1 (xV 1) (xK (.int 0))) (aC (xLst (aC (xV 1) (aN))) (aN)))) (sC (sWhl (tV (xCmp .NotEq (xV 3) (xLst (aN)))) (l_spread_3)) (sRet (xV 2)))
def p_spread : List PyData → Res PyData := runD 2 5 f_spread
/-- fewest_shifts('camera', 'one', 'other') -/
def f_fewest_shifts : FS :=
  sC (sExp (xCall p_check_camera (aC (xV 0) (aN)))) (sC (sExp (xCall p_check_setting (aC (xV 0) (aC (xV 1) (aN))))) (sC (sExp (xCall p_check_setting (aC (xV 0) (aC (xV 2) (aN))))) (sRet (xGet1 (xCall p_spread (aC (xCall p_find_right (aC (xV 0) (aC (xCall p_find_exposure (aC (xV 1) (aN))) (aN)))) (aC (xV 1) (aN)))) (xV 2)))))
def p_fewest_shifts : List PyData → Res PyData := runD 3 0 f_fewest_shifts
/-- shift_groups('camera', 'brightness') -/
def l_shift_groups_1 : FS :=
  sPut 4 (xV 7) (xK (.bool true))
def l_shift_groups_2 : FS :=
  sIf (tV (xCmp .NotIn (xV 5) (xV 4))) (sC (sSet 6 (xCall p_spread (aC (xV 2) (aC (xV 5) (aN))))) (sC (sApp 3 (xBi .tuple (aC (xBi .sorted (aC (xV 6) (aN))) (aN)))) (sForD (.nm 7) 6 (l_shift_groups_1)))) (sN)
def f_shift_groups : FS :=
  sC (sExp (xCall p_check_both (aC (xV 0) (aC (xV 1) (aN))))) (sC (sPar [2, 3, 4] (aC (xCall p_find_right (aC (xV 0) (aC (xV 1) (aN)))) (aC (xLst (aN)) (aC (xK (dtD [])) (aN))))) (sC (sFor (.nm 5) (iSq' (xV 2)) (l_shift_groups_2)) (sRet (xBi .sorted (aC (xV 3) (aN))))))
def p_shift_groups : List PyData → Res PyData := runD 2 6 f_shift_groups
/-- _law_reached('_law_near', '_law_one') -/
def l__law_reached_1 : FS :=
  sIf (tV (xCmp .NotIn (xV 6) (xV 2))) (sC (sPut 2 (xV 6) (xBin .Add (xIdx (xV 2) (xV 5)) (xK (.int 1)))) (sApp 4 (xV 6))) (sN)
def l__law_reached_2 : FS :=
  sFor (.nm 6) (iSq' (xIdx (xV 0) (xV 5))) (l__law_reached_1)
def l__law_reached_3 : FS :=
  sC (sSet 4 (xLst (aN))) (sC (sFor (.nm 5) (iSq' (xV 3)) (l__law_reached_2)) (sSet 3 (xV 4)))
def f__law_reached : FS :=
  sC (sPar [2, 3] (aC (xDt1 (xV 1) (xK (.int 0))) (aC (xLst (aC (xV 1) (aN))) (aN)))) (sC (sWhl (tV (xCmp .NotEq (xV 3) (xLst (aN)))) (l__law_reached_3)) (sRet (xV 2)))
def p__law_reached : List PyData → Res PyData := runD 2 5 f__law_reached
/-- check_number('value', 'most') -/
def f_check_number : FS :=
  sIf (tNot (tV (xCall p_is_int (aC (xV 0) (aC (xK (.int 1)) (aC (xV 1) (aN))))))) (sRse "InvalidNumber") (sN)
def p_check_number : List PyData → Res PyData := runD 2 0 f_check_number
/-- with_error('setting', 'place', 'number') -/
def f_with_error : FS :=
  sC (sSet 3 (xBin .Add (xIdx (xV 0) (xV 1)) (xBin .Mult (xIdx (xK (kstD k_SIGNS)) (xV 1)) (xV 2)))) (sRet (xBin .Add (xBin .Add (xSli (xV 0) oN (oS (xV 1))) (xTup (aC (xV 3) (aN)))) (xSli (xV 0) (oS (xBin .Add (xV 1) (xK (.int 1)))) oN)))
def p_with_error : List PyData → Res PyData := runD 3 1 f_with_error
/-- find_bracket('camera', 'setting', 'place', 'many', 'width') -/
def c_find_bracket_1 : FE :=
  xComp (iRg 2 (aC (xBin .Sub (xK (.int 0)) (xV 3)) (aC (xBin .Add (xV 3) (xK (.int 1))) (aN)))) (.nm 7) (tYs) (xCall p_with_error (aC (xV 1) (aC (xV 2) (aC (xBin .Mult (xV 4) (xV 7)) (aN))))) [7]
def c_find_bracket_2 : FE :=
  xComp (iSq' (xV 5)) (.nm 8) (tYs) (xCmp .In (xIdx (xV 8) (xV 2)) (xV 6)) [8]
def f_find_bracket : FS :=
  sC (sSet 5 (c_find_bracket_1)) (sC (sSet 6 (xCall p_wheel_values (aC (xIdx (xV 0) (xV 2)) (aN)))) (sRet (xIf (tV (xBi .all (aC (c_find_bracket_2) (aN)))) (xV 5) (xK .none))))
def p_find_bracket : List PyData → Res PyData := runD 5 4 f_find_bracket
/-- check_three('camera', 'setting', 'many') -/
def f_check_three_k20 : FS :=
  sC (sExp (xCall p_check_camera (aC (xV 0) (aN)))) (sC (sExp (xCall p_check_setting (aC (xV 0) (aC (xV 1) (aN))))) (sExp (xCall p_check_number (aC (xV 2) (aC (xK (.int 4)) (aN))))))
def p_check_three_k20 : List PyData → Res PyData := runD 3 0 f_check_three_k20
/-- bracket('camera', 'setting', 'wheel', 'many', 'width') -/
def f_bracket : FS :=
  sC (sExp (xCall p_check_camera (aC (xV 0) (aN)))) (sC (sExp (xCall p_check_setting (aC (xV 0) (aC (xV 1) (aN))))) (sC (sSet 5 (xCall p_find_wheel (aC (xV 2) (aN)))) (sC (sExp (xCall p_check_number (aC (xV 3) (aC (xK (.int 4)) (aN))))) (sC (sExp (xCall p_check_number (aC (xV 4) (aC (xK (.int 12)) (aN))))) (sRet (xCall p_find_bracket (aC (xV 0) (aC (xV 1) (aC (xV 5) (aC (xV 3) (aC (xV 4) (aN))))))))))))
def p_bracket : List PyData → Res PyData := runD 5 1 f_bracket
/-- wheels_for('camera', 'setting', 'many', 'width') -/
def c_wheels_for_1 : FE :=
  xComp (iRg 1 (aC (xBi .len (aC (xK (kstD k_NAMES)) (aN))) (aN))) (.nm 5) (tV (xCmp .IsNot (xCall p_find_bracket (aC (xV 0) (aC (xV 1) (aC (xV 5) (aC (xV 2) (aC (xV 3) (aN))))))) (xK .none))) (xV 5) [5]
def c_wheels_for_2 : FE :=
  xComp (iSq' (xV 4)) (.nm 5) (tYs) (xIdx (xK (kstD k_NAMES)) (xV 5)) [5]
def f_wheels_for : FS :=
  sC (sExp (xCall p_check_three_k20 (aC (xV 0) (aC (xV 1) (aC (xV 2) (aN)))))) (sC (sExp (xCall p_check_number (aC (xV 3) (aC (xK (.int 12)) (aN))))) (sC (sSet 4 (c_wheels_for_1)) (sRet (c_wheels_for_2))))
def p_wheels_for : List PyData → Res PyData := runD 4 2 f_wheels_for
/-- widest('camera', 'setting', 'wheel', 'many') -/
def c_widest_1 : FE :=
  xComp (iSq' (xV 5)) (.nm 6) (tV (xCmp .IsNot (xCall p_find_bracket (aC (xV 0) (aC (xV 1) (aC (xV 4) (aC (xV 3) (aC (xV 6) (aN))))))) (xK .none))) (xV 6) [6]
def f_widest : FS :=
  sC (sExp (xCall p_check_camera (aC (xV 0) (aN)))) (sC (sExp (xCall p_check_setting (aC (xV 0) (aC (xV 1) (aN))))) (sC (sSet 4 (xCall p_find_wheel (aC (xV 2) (aN)))) (sC (sExp (xCall p_check_number (aC (xV 3) (aC (xK (.int 4)) (aN))))) (sC (sSet 5 (xRng2 (xK (.int 1)) (xBin .Add (xK (.int 12)) (xK (.int 1))))) (sRet (xBi .max (aC (xBin .Add (c_widest_1) (xLst (aC (xK (.int 0)) (aN)))) (aN))))))))
def p_widest : List PyData → Res PyData := runD 4 3 f_widest
/-- _law_row('_law_box_here', '_law_one', '_law_k', '_law_many', '_law_width') -/
def c__law_row_1 : FE :=
  xComp (iRg 1 (aC (xK (.int 3)) (aN))) (.nm 10) (tV (xCmp .NotEq (xV 10) (xV 2))) (xCmp .Eq (xIdx (xV 8) (xV 10)) (xIdx (xV 1) (xV 10))) [10]
def l__law_row_1 : FS :=
  sC (sSet 9 (c__law_row_1)) (sIf (tAnd (tV (xBi .all (aC (xV 9) (aN)))) (tV (xCmp .Eq (xBin .Sub (xCall p__law_number (aC (xV 8) (aN))) (xCall p__law_number (aC (xV 1) (aN)))) (xBin .Mult (xV 6) (xV 4))))) (sApp 7 (xV 8)) (sN))
def l__law_row_2 : FS :=
  sC (sSet 7 (xLst (aN))) (sC (sFor (.nm 8) (iSq' (xCall p__law_every (aC (xV 0) (aN)))) (l__law_row_1)) (sC (sIf (tV (xCmp .NotEq (xBi .len (aC (xV 7) (aN))) (xK (.int 1)))) (sRet (xK .none)) (sN)) (sApp 5 (xIdx (xV 7) (xK (.int 0))))))
def f__law_row : FS :=
  sC (sSet 5 (xLst (aN))) (sC (sFor (.nm 6) (iRg 2 (aC (xBin .Sub (xK (.int 0)) (xV 3)) (aC (xBin .Add (xV 3) (xK (.int 1))) (aN)))) (l__law_row_2)) (sRet (xV 5)))
def p__law_row : List PyData → Res PyData := runD 5 6 f__law_row
/-- law('_law_script',) -/
def c_law_k20_1 : FE :=
  xComp (iSq' (xV 11)) (.nm 13) (tV (xCmp .IsNot (xCall p_bracket (aC (xV 3) (aC (xV 5) (aC (xIdx (xV 1) (xV 9)) (aC (xV 6) (aC (xV 13) (aN))))))) (xK .none))) (xV 13) [13]
def c_law_k20_2 : FE :=
  xComp (iSq' (xV 12)) (.nm 13) (tYs) (xCmp .NotEq (xBin .Mod (xV 13) (xIdx (xIdx (xV 3) (xV 9)) (xK (.int 2)))) (xK (.int 0))) [13]
def l_law_k20_1 : FS :=
  sC (sSet 10 (xCall p__law_row (aC (xV 3) (aC (xV 5) (aC (xV 9) (aC (xV 6) (aC (xV 7) (aN)))))))) (sC (sIf (tV (xCmp .NotEq (xCall p_bracket (aC (xV 3) (aC (xV 5) (aC (xIdx (xV 1) (xV 9)) (aC (xV 6) (aC (xV 7) (aN))))))) (xV 10))) (sRet (xK (.bool false))) (sN)) (sC (sIf (tV (xCmp .IsNot (xV 10) (xK .none))) (sApp 8 (xIdx (xV 1) (xV 9))) (sN)) (sC (sSet 11 (xRng2 (xK (.int 1)) (xK (.int 13)))) (sC (sSet 12 (c_law_k20_1)) (sC (sIf (tV (xCmp .NotEq (xCall p_widest (aC (xV 3) (aC (xV 5) (aC (xIdx (xV 1) (xV 9)) (aC (xV 6) (aN)))))) (xBi .max (aC (xBin .Add (xV 12) (xLst (aC (xK (.int 0)) (aN)))) (aN))))) (sRet (xK (.bool false))) (sN)) (sIf (tV (xBi .any (aC (c_law_k20_2) (aN)))) (sRet (xK (.bool false))) (sN)))))))
def l_law_k20_2 : FS :=
  sC (sSet 3 (xCall p__law_box (aC (xV 0) (aC (xBin .Mult (xK (.int 30)) (xV 2)) (aC (xK (.int 6)) (aN)))))) (sC (sSet 3 (xBin .Add (xSli (xV 3) oN (oS (xK (.int 2)))) (xTup (aC (xTup (aC (xK (.int 0)) (aC (xCall p__law_pick (aC (xV 0) (aC (xBin .Add (xBin .Mult (xK (.int 30)) (xV 2)) (xK (.int 12))) (aC (xK (.int 9)) (aN))))) (aC (xK (.int 1)) (aN))))) (aN))))) (sC (sSet 4 (xCall p__law_every (aC (xV 3) (aN)))) (sC (sSet 5 (xIf (tV (xCmp .Eq (xV 2) (xK (.int 0)))) (xIdx (xV 4) (xBin .FloorDiv (xBi .len (aC (xV 4) (aN))) (xK (.int 2)))) (xIdx (xV 4) (xCall p__law_pick (aC (xV 0) (aC (xBin .Add (xBin .Mult (xK (.int 30)) (xV 2)) (xK (.int 13))) (aC (xBi .len (aC (xV 4) (aN))) (aN)))))))) (sC (sSet 6 (xBin .Add (xK (.int 1)) (xCall p__law_pick (aC (xV 0) (aC (xBin .Add (xBin .Mult (xK (.int 30)) (xV 2)) (xK (.int 14))) (aC (xK (.int 2)) (aN))))))) (sC (sSet 7 (xBin .Add (xK (.int 1)) (xCall p__law_pick (aC (xV 0) (aC (xBin .Add (xBin .Mult (xK (.int 30)) (xV 2)) (xK (.int 15))) (aC (xK (.int 4)) (aN))))))) (sC (sSet 8 (xLst (aN))) (sC (sFor (.nm 9) (iRg 1 (aC (xK (.int 3)) (aN))) (l_law_k20_1)) (sIf (tV (xCmp .NotEq (xCall p_wheels_for (aC (xV 3) (aC (xV 5) (aC (xV 6) (aC (xV 7) (aN)))))) (xV 8))) (sRet (xK (.bool false))) (sN)))))))))
def f_law_k20 : FS :=
  sC (sSet 1 (xLst (aC (xK (.str "aperture")) (aC (xK (.str "time")) (aC (xK (.str "sensitivity")) (aN)))))) (sC (sFor (.nm 2) (iRg 1 (aC (xK (.int 2)) (aN))) (l_law_k20_2)) (sRet (xCmp .Eq (xCall p_wheels_for (aC (xTup (aC (xTup (aC (xK (.int 9)) (aC (xK (.int 15)) (aC (xK (.int 3)) (aN))))) (aC (xTup (aC (xK (.int 12)) (aC (xK (.int 14)) (aC (xK (.int 1)) (aN))))) (aC (xTup (aC (xK (.int 0)) (aC (xK (.int 6)) (aC (xK (.int 3)) (aN))))) (aN))))) (aC (xTup (aC (xK (.int 12)) (aC (xK (.int 13)) (aC (xK (.int 3)) (aN))))) (aC (xK (.int 1)) (aC (xK (.int 3)) (aN)))))) (xLst (aC (xK (.str "aperture")) (aC (xK (.str "sensitivity")) (aN)))))))
def p_law_k20 : List PyData → Res PyData := runD 1 13 f_law_k20
/-- check_limits('value',) -/
def c_check_limits_1 : FE :=
  xComp (iSq' (xV 0)) (.nm 1) (tYs) (xCall p_is_int (aC (xV 1) (aC (xK (.int 0)) (aC (xK (.int 60)) (aN))))) [1]
def f_check_limits : FS :=
  sIf (tOr (tNot (tV (xIsi .tuple (xV 0)))) (tOr (tV (xCmp .NotEq (xBi .len (aC (xV 0) (aN))) (xK (.int 3)))) (tNot (tV (xBi .all (aC (c_check_limits_1) (aN))))))) (sRse "InvalidLimits") (sN)
def p_check_limits : List PyData → Res PyData := runD 1 1 f_check_limits
/-- find_lack('setting', 'limits') -/
def f_find_lack : FS :=
  sC (sUnp (.tp [2, 3, 4]) (xV 0)) (sC (sUnp (.tp [5, 6, 7]) (xV 1)) (sRet (xBin .Add (xBin .Add (xBi .max (aC (xK (.int 0)) (aC (xBin .Sub (xV 5) (xV 2)) (aN)))) (xBi .max (aC (xK (.int 0)) (aC (xBin .Sub (xV 6) (xV 3)) (aN))))) (xBi .max (aC (xK (.int 0)) (aC (xBin .Sub (xV 4) (xV 7)) (aN)))))))
def p_find_lack : List PyData → Res PyData := runD 2 6 f_find_lack
/-- check_three('camera', 'setting', 'limits') -/
def f_check_three_k52 : FS :=
  sC (sExp (xCall p_check_camera (aC (xV 0) (aN)))) (sC (sExp (xCall p_check_setting (aC (xV 0) (aC (xV 1) (aN))))) (sExp (xCall p_check_limits (aC (xV 2) (aN)))))
def p_check_three_k52 : List PyData → Res PyData := runD 3 0 f_check_three_k52
/-- keeps('camera', 'setting', 'limits') -/
def f_keeps : FS :=
  sC (sExp (xCall p_check_three_k52 (aC (xV 0) (aC (xV 1) (aC (xV 2) (aN)))))) (sRet (xCmp .Eq (xCall p_find_lack (aC (xV 1) (aC (xV 2) (aN)))) (xK (.int 0))))
def p_keeps : List PyData → Res PyData := runD 3 0 f_keeps
/-- lack('camera', 'setting', 'limits') -/
def f_lack : FS :=
  sC (sExp (xCall p_check_three_k52 (aC (xV 0) (aC (xV 1) (aC (xV 2) (aN)))))) (sRet (xCall p_find_lack (aC (xV 1) (aC (xV 2) (aN)))))
def p_lack : List PyData → Res PyData := runD 3 0 f_lack
/-- find_lacks('camera', 'limits', 'brightness') -/
def c_find_lacks_1 : FE :=
  xComp (iSq' (xCall p_find_right (aC (xV 0) (aC (xV 2) (aN))))) (.nm 3) (tYs) (xTup (aC (xCall p_find_lack (aC (xV 3) (aC (xV 1) (aN)))) (aC (xV 3) (aN)))) [3]
def f_find_lacks : FS :=
  sC (sExp (xCall p_check_camera (aC (xV 0) (aN)))) (sC (sExp (xCall p_check_limits (aC (xV 1) (aN)))) (sC (sExp (xCall p_check_both (aC (xV 0) (aC (xV 2) (aN))))) (sRet (c_find_lacks_1))))
def p_find_lacks : List PyData → Res PyData := runD 3 1 f_find_lacks
/-- allowed('camera', 'limits', 'brightness') -/
def c_allowed_1 : FE :=
  xComp (iSq' (xCall p_find_lacks (aC (xV 0) (aC (xV 1) (aC (xV 2) (aN)))))) (.tp [3, 4]) (tV (xCmp .Eq (xV 3) (xK (.int 0)))) (xV 4) [3, 4]
def f_allowed : FS :=
  sRet (c_allowed_1)
def p_allowed : List PyData → Res PyData := runD 3 2 f_allowed
/-- least_lack('camera', 'limits', 'brightness') -/
def f_least_lack : FS :=
  sC (sSet 3 (xCall p_find_lacks (aC (xV 0) (aC (xV 1) (aC (xV 2) (aN)))))) (sRet (xIf (tV (xCmp .NotEq (xV 3) (xLst (aN)))) (xIdx (xBi .min (aC (xV 3) (aN))) (xK (.int 0))) (xK .none)))
def p_least_lack : List PyData → Res PyData := runD 3 1 f_least_lack
/-- best_compromise('camera', 'limits', 'brightness') -/
def f_best_compromise : FS :=
  sC (sSet 3 (xCall p_find_lacks (aC (xV 0) (aC (xV 1) (aC (xV 2) (aN)))))) (sRet (xIf (tV (xCmp .NotEq (xV 3) (xLst (aN)))) (xIdx (xBi .min (aC (xV 3) (aN))) (xK (.int 1))) (xK .none)))
def p_best_compromise : List PyData → Res PyData := runD 3 1 f_best_compromise
/-- _law_drawn('_law_script', '_law_k', '_law_many') -/
def l__law_drawn_1 : FS :=
  sC (sSet 5 (xBin .FloorDiv (xV 5) (xK (.int 1000000)))) (sSet 4 (xBin .Sub (xV 4) (xK (.int 1))))
def f__law_drawn : FS :=
  sC (sSet 3 (xBin .Mult (xK (.int 7)) (xV 1))) (sC (sIf (tV (xCmp .NotEq (xV 0) (xLst (aN)))) (sC (sSet 3 (xIdx (xV 0) (xBin .Mod (xV 1) (xBi .len (aC (xV 0) (aN)))))) (sC (sSet 4 (xBin .FloorDiv (xV 1) (xBi .len (aC (xV 0) (aN))))) (sC (sIf (tAnd (tV (xCmp .GtE (xV 3) (xBin .Pow (xK (.int 10)) (xK (.int 18))))) (tV (xCmp .Lt (xV 4) (xK (.int 60))))) (sC (sSet 5 (xBin .FloorDiv (xV 3) (xBin .Pow (xK (.int 10)) (xK (.int 18))))) (sC (sWhl (tAnd (tV (xCmp .Gt (xV 5) (xK (.int 0)))) (tV (xCmp .Gt (xV 4) (xK (.int 0))))) (l__law_drawn_1)) (sIf (tV (xCmp .Gt (xV 5) (xK (.int 0)))) (sRet (xBin .Mod (xBin .Mod (xV 5) (xK (.int 1000000))) (xV 2))) (sN)))) (sN)) (sSet 3 (xBin .Add (xV 3) (xBin .Mult (xK (.int 6553)) (xBin .FloorDiv (xV 1) (xBi .len (aC (xV 0) (aN)))))))))) (sN)) (sC (sSet 3 (xBin .Mod (xBin .Add (xBin .Mult (xBin .Mod (xV 3) (xK (.int 2147483563))) (xK (.int 69069))) (xBin .Mult (xK (.int 104723)) (xBin .Add (xV 1) (xK (.int 1))))) (xK (.int 2147483563)))) (sC (sSet 3 (xBin .Mod (xBin .Add (xBin .Mult (xV 3) (xV 3)) (xBin .FloorDiv (xV 3) (xK (.int 3)))) (xK (.int 2147483399)))) (sRet (xBin .Mod (xBin .FloorDiv (xBin .Mod (xBin .Add (xBin .Mult (xV 3) (xV 3)) (xBin .FloorDiv (xV 3) (xK (.int 7)))) (xK (.int 2147483647))) (xK (.int 11))) (xV 2))))))
def p__law_drawn : List PyData → Res PyData := runD 3 3 f__law_drawn
/-- _law_camera('_law_script', '_law_at') -/
def l__law_camera_1 : FS :=
  sC (sPar [4, 5] (aC (xCall p__law_drawn (aC (xV 0) (aC (xBin .Add (xV 1) (xBin .Mult (xK (.int 3)) (xV 3))) (aC (xK (.int 20)) (aN))))) (aC (xBin .Add (xK (.int 1)) (xCall p__law_drawn (aC (xV 0) (aC (xBin .Add (xBin .Add (xV 1) (xK (.int 1))) (xBin .Mult (xK (.int 3)) (xV 3))) (aC (xK (.int 3)) (aN)))))) (aN)))) (sC (sSet 6 (xBin .Add (xBin .Add (xV 4) (xBin .Mult (xV 5) (xCall p__law_drawn (aC (xV 0) (aC (xBin .Add (xBin .Add (xV 1) (xK (.int 2))) (xBin .Mult (xK (.int 3)) (xV 3))) (aC (xK (.int 4)) (aN))))))) (xCall p__law_drawn (aC (xV 0) (aC (xBin .Add (xBin .Add (xV 1) (xK (.int 9))) (xV 3)) (aC (xV 5) (aN))))))) (sApp 2 (xTup (aC (xV 4) (aC (xV 6) (aC (xV 5) (aN)))))))
def f__law_camera : FS :=
  sC (sSet 2 (xLst (aN))) (sC (sFor (.nm 3) (iRg 1 (aC (xK (.int 3)) (aN))) (l__law_camera_1)) (sRet (xBi .tuple (aC (xV 2) (aN)))))
def p__law_camera : List PyData → Res PyData := runD 2 5 f__law_camera
/-- _law_settings('_law_camera_here',) -/
def c__law_settings_1 : FE :=
  xComp (iRg 3 (aC (xV 2) (aC (xBin .Add (xV 3) (xK (.int 1))) (aC (xV 4) (aN))))) (.nm 7) (tYs) (xBin .Add (xV 6) (xTup (aC (xV 7) (aN)))) [7]
def l__law_settings_1 : FS :=
  sSet 5 (xBin .Add (xV 5) (c__law_settings_1))
def l__law_settings_2 : FS :=
  sC (sSet 5 (xLst (aN))) (sC (sFor (.nm 6) (iSq' (xV 1)) (l__law_settings_1)) (sSet 1 (xV 5)))
def f__law_settings : FS :=
  sC (sSet 1 (xLst (aC (xTup (aN)) (aN)))) (sC (sFor (.tp [2, 3, 4]) (iSq' (xV 0)) (l__law_settings_2)) (sRet (xV 1)))
def p__law_settings : List PyData → Res PyData := runD 1 7 f__law_settings
/-- _law_right('_law_camera_here', '_law_brightness') -/
def c__law_right_1 : FE :=
  xComp (iSq' (xCall p__law_settings (aC (xV 0) (aN)))) (.nm 2) (tV (xCmp .Eq (xCall p__law_number (aC (xV 2) (aN))) (xV 1))) (xV 2) [2]
def f__law_right : FS :=
  sRet (c__law_right_1)
def p__law_right : List PyData → Res PyData := runD 2 1 f__law_right
/-- _law_light('_law_script', '_law_at', '_law_camera_here') -/
def f__law_light_k52 : FS :=
  sC (sSet 3 (xCall p__law_settings (aC (xV 2) (aN)))) (sC (sSet 4 (xCall p__law_number (aC (xIdx (xV 3) (xCall p__law_drawn (aC (xV 0) (aC (xV 1) (aC (xBi .len (aC (xV 3) (aN))) (aN)))))) (aN)))) (sRet (xBin .Add (xV 4) (xIdx (xLst (aC (xK (.int 0)) (aC (xK (.int 0)) (aC (xK (.int 1)) (aC (xBin .Sub (xCall p__law_drawn (aC (xV 0) (aC (xBin .Add (xV 1) (xK (.int 1))) (aC (xK (.int 9)) (aN))))) (xK (.int 4))) (aN)))))) (xCall p__law_drawn (aC (xV 0) (aC (xBin .Add (xV 1) (xK (.int 2))) (aC (xK (.int 4)) (aN)))))))))
def p__law_light_k52 : List PyData → Res PyData := runD 3 2 f__law_light_k52
/-- _law_badcamera('_law_script', '_law_at') -/
def f__law_badcamera : FS :=
  sC (sSet 2 (xTup (aC (xK (.int 0)) (aC (xK (.int 6)) (aC (xK (.int 3)) (aN)))))) (sC (sSet 3 (xLst (aC (xK .none) (aC (xTup (aN)) (aC (xTup (aC (xV 2) (aC (xV 2) (aN)))) (aC (xBin .Mult (xTup (aC (xV 2) (aN))) (xK (.int 4))) (aC (xTup (aC (xTup (aC (xK (.int 41)) (aC (xK (.int 50)) (aC (xK (.int 1)) (aN))))) (aC (xV 2) (aC (xV 2) (aN))))) (aN)))))))) (sC (sSet 3 (xBin .Add (xV 3) (xLst (aC (xTup (aC (xTup (aC (xK (.int 0)) (aC (xK (.int 61)) (aC (xK (.int 3)) (aN))))) (aC (xV 2) (aC (xV 2) (aN))))) (aN))))) (sC (sSet 3 (xBin .Add (xV 3) (xLst (aC (xTup (aC (xTup (aC (xK (.int 9)) (aC (xK (.int 8)) (aC (xK (.int 1)) (aN))))) (aC (xV 2) (aC (xV 2) (aN))))) (aC (xTup (aC (xV 2) (aC (xTup (aC (xK (.int 0)) (aC (xK (.int 6)) (aC (xK (.int 4)) (aN))))) (aC (xV 2) (aN))))) (aC (xTup (aC (xV 2) (aC (xTup (aC (xK (.int 0)) (aC (xK (.int 6)) (aC (xK (.int 0)) (aN))))) (aC (xV 2) (aN))))) (aN))))))) (sC (sSet 3 (xBin .Add (xV 3) (xLst (aC (xTup (aC (xTup (aC (xK (.int 0)) (aC (xK (.int 13)) (aC (xK (.int 1)) (aN))))) (aC (xV 2) (aC (xV 2) (aN))))) (aN))))) (sRet (xIdx (xBin .Add (xV 3) (xLst (aC (xBin .Mult (xLst (aC (xV 2) (aN))) (xK (.int 3))) (aC (xTup (aC (xV 2) (aC (xV 2) (aC (xLst (aC (xK (.int 0)) (aC (xK (.int 6)) (aC (xK (.int 3)) (aN))))) (aN))))) (aC (xTup (aC (xV 2) (aC (xV 2) (aC (xTup (aC (xK (.int 0)) (aC (xK (.bool true)) (aC (xK (.int 1)) (aN))))) (aN))))) (aN)))))) (xCall p__law_drawn (aC (xV 0) (aC (xV 1) (aC (xK (.int 13)) (aN)))))))))))
def p__law_badcamera : List PyData → Res PyData := runD 2 2 f__law_badcamera
/-- _law_badsetting('_law_script', '_law_at', '_law_camera_here') -/
def c__law_badsetting_1 : FE :=
  xComp (iSq' (xV 2)) (.nm 5) (tYs) (xIdx (xV 5) (xK (.int 0))) [5]
def f__law_badsetting : FS :=
  sC (sSet 3 (xBi .tuple (aC (c__law_badsetting_1) (aN)))) (sC (sSet 4 (xLst (aC (xK .none) (aC (xTup (aN)) (aC (xSli (xV 3) oN (oS (xK (.int 2)))) (aC (xBin .Add (xV 3) (xTup (aC (xK (.int 0)) (aN)))) (aC (xBin .Add (xTup (aC (xBin .Sub (xIdx (xV 3) (xK (.int 0))) (xK (.int 1))) (aN))) (xSli (xV 3) (oS (xK (.int 1))) oN)) (aN)))))))) (sC (sSet 4 (xBin .Add (xV 4) (xLst (aC (xBin .Add (xTup (aC (xBin .Add (xIdx (xIdx (xV 2) (xK (.int 0))) (xK (.int 1))) (xK (.int 1))) (aN))) (xSli (xV 3) (oS (xK (.int 1))) oN)) (aC (xBi .list (aC (xV 3) (aN))) (aN)))))) (sRet (xIdx (xBin .Add (xV 4) (xLst (aC (xBin .Add (xSli (xV 3) oN (oS (xK (.int 2)))) (xTup (aC (xBi .str (aC (xIdx (xV 3) (xK (.int 2))) (aN))) (aN)))) (aC (xBin .Add (xSli (xV 3) oN (oS (xK (.int 2)))) (xTup (aC (xK .none) (aN)))) (aN))))) (xCall p__law_drawn (aC (xV 0) (aC (xV 1) (aC (xK (.int 9)) (aN)))))))))
def p__law_badsetting : List PyData → Res PyData := runD 3 3 f__law_badsetting
/-- _law_error('_law_way', '_law_one', '_law_two', '_law_three') -/
def f__law_error_k52 : FS :=
  sC (sTry excs_k52 (sExp (xPick [("keeps", p_keeps), ("lack", p_lack), ("allowed", p_allowed), ("best_compromise", p_best_compromise), ("least_lack", p_least_lack)] (xV 0) (aC (xV 1) (aC (xV 2) (aC (xV 3) (aN)))))) 4 (fun a c => sC (sSet 5 (xLst (aC (xIsE 4 a (eqB c "InvalidCamera")) (aC (xIsE 4 a (eqB c "InvalidSetting")) (aN))))) (sC (sSet 5 (xBin .Add (xV 5) (xLst (aC (xIsE 4 a (eqB c "InvalidLimits")) (aN))))) (sRet (xMt .lindex (xBin .Add (xV 5) (xLst (aC (xIsE 4 a (eqB c "InvalidBrightness")) (aN)))) (aC (xK (.bool true)) (aN))))))) (sRet (xK .none))
def p__law_error_k52 : List PyData → Res PyData := runD 4 2 f__law_error_k52
/-- _law_lack('_law_setting', '_law_limits') -/
def l__law_lack_1 : FS :=
  sSet 2 (xBin .Add (xV 2) (xIf (tV (xCmp .Gt (xV 3) (xK (.int 0)))) (xV 3) (xK (.int 0))))
def f__law_lack : FS :=
  sC (sSet 2 (xK (.int 0))) (sC (sFor (.nm 3) (iSq' (xTup (aC (xBin .Sub (xIdx (xV 1) (xK (.int 0))) (xIdx (xV 0) (xK (.int 0)))) (aC (xBin .Sub (xIdx (xV 1) (xK (.int 1))) (xIdx (xV 0) (xK (.int 1)))) (aC (xBin .Sub (xIdx (xV 0) (xK (.int 2))) (xIdx (xV 1) (xK (.int 2)))) (aN)))))) (l__law_lack_1)) (sRet (xV 2)))
def p__law_lack : List PyData → Res PyData := runD 2 2 f__law_lack
/-- law('_law_script',) -/
def c_law_k52_1 : FE :=
  xComp (iRg 1 (aC (xK (.int 3)) (aN))) (.nm 15) (tYs) (xBi .max (aC (xK (.int 0)) (aC (xBin .Sub (xBin .Add (xIdx (xV 4) (xV 15)) (xCall p__law_drawn (aC (xV 0) (aC (xBin .Add (xBin .Add (xK (.int 33)) (xBin .Mult (xK (.int 3)) (xV 3))) (xV 15)) (aC (xK (.int 7)) (aN)))))) (xK (.int 3))) (aN)))) [15]
def l_law_k52_1 : FS :=
  sC (sSet 7 (xCall p__law_lack (aC (xV 6) (aC (xV 5) (aN))))) (sC (sIf (tV (xCmp .NotEq (xCall p_lack (aC (xV 1) (aC (xV 6) (aC (xV 5) (aN))))) (xV 7))) (sRet (xK (.bool false))) (sN)) (sIf (tV (xCmp .NotEq (xCall p_keeps (aC (xV 1) (aC (xV 6) (aC (xV 5) (aN))))) (xCmp .Eq (xV 7) (xK (.int 0))))) (sRet (xK (.bool false))) (sN)))
def c_law_k52_2 : FE :=
  xComp (iSq' (xCall p__law_right (aC (xV 1) (aC (xV 8) (aN))))) (.nm 6) (tYs) (xTup (aC (xCall p__law_lack (aC (xV 6) (aC (xV 5) (aN)))) (aC (xV 6) (aN)))) [6]
def c_law_k52_3 : FE :=
  xComp (iSq' (xV 9)) (.tp [7, 6]) (tV (xCmp .Eq (xV 7) (xK (.int 0)))) (xV 6) [7, 6]
def l_law_k52_2 : FS :=
  sC (sSet 4 (xIdx (xV 2) (xCall p__law_drawn (aC (xV 0) (aC (xBin .Add (xK (.int 30)) (xV 3)) (aC (xBi .len (aC (xV 2) (aN))) (aN))))))) (sC (sSet 5 (xBi .tuple (aC (c_law_k52_1) (aN)))) (sC (sFor (.nm 6) (iSq' (xSli (xV 2) oN (oS (xK (.int 20))))) (l_law_k52_1)) (sC (sSet 8 (xCall p__law_light_k52 (aC (xV 0) (aC (xBin .Add (xK (.int 50)) (xBin .Mult (xK (.int 3)) (xV 3))) (aC (xV 1) (aN)))))) (sC (sSet 9 (c_law_k52_2)) (sC (sIf (tV (xCmp .NotEq (xCall p_allowed (aC (xV 1) (aC (xV 5) (aC (xV 8) (aN))))) (c_law_k52_3))) (sRet (xK (.bool false))) (sN)) (sC (sSet 10 (xIf (tV (xCmp .NotEq (xV 9) (xLst (aN)))) (xBi .min (aC (xV 9) (aN))) (xTup (aC (xK .none) (aC (xK .none) (aN)))))) (sC (sIf (tV (xCmp .NotEq (xCall p_least_lack (aC (xV 1) (aC (xV 5) (aC (xV 8) (aN))))) (xIdx (xV 10) (xK (.int 0))))) (sRet (xK (.bool false))) (sN)) (sIf (tV (xCmp .NotEq (xCall p_best_compromise (aC (xV 1) (aC (xV 5) (aC (xV 8) (aN))))) (xIdx (xV 10) (xK (.int 1))))) (sRet (xK (.bool false))) (sN)))))))))
def c_law_k52_4 : FE :=
  xComp (iSq' (xTup (aC (xK (.int 0)) (aC (xK (.int 1)) (aN))))) (.nm 16) (tYs) (xCall p__law_error_k52 (aC (xV 16) (aC (xV 11) (aC (xV 6) (aC (xV 12) (aN)))))) [16]
def c_law_k52_5 : FE :=
  xComp (iSq' (xTup (aC (xK (.int 2)) (aC (xK (.int 3)) (aC (xK (.int 4)) (aN)))))) (.nm 16) (tYs) (xCall p__law_error_k52 (aC (xV 16) (aC (xV 11) (aC (xV 12) (aC (xV 13) (aN)))))) [16]
def c_law_k52_6 : FE :=
  xComp (iSq' (xTup (aC (xK (.int 0)) (aC (xK (.int 1)) (aN))))) (.nm 16) (tYs) (xCall p__law_error_k52 (aC (xV 16) (aC (xV 1) (aC (xV 6) (aC (xV 12) (aN)))))) [16]
def c_law_k52_7 : FE :=
  xComp (iSq' (xTup (aC (xK (.int 0)) (aC (xK (.int 1)) (aN))))) (.nm 16) (tYs) (xCall p__law_error_k52 (aC (xV 16) (aC (xV 1) (aC (xIdx (xV 2) (xK (.int 0))) (aC (xV 12) (aN)))))) [16]
def c_law_k52_8 : FE :=
  xComp (iSq' (xTup (aC (xK (.int 2)) (aC (xK (.int 3)) (aC (xK (.int 4)) (aN)))))) (.nm 16) (tYs) (xCall p__law_error_k52 (aC (xV 16) (aC (xV 1) (aC (xV 12) (aC (xV 13) (aN)))))) [16]
def c_law_k52_9 : FE :=
  xComp (iSq' (xTup (aC (xK (.int 2)) (aC (xK (.int 3)) (aC (xK (.int 4)) (aN)))))) (.nm 16) (tYs) (xCall p__law_error_k52 (aC (xV 16) (aC (xV 1) (aC (xV 5) (aC (xV 13) (aN)))))) [16]
def f_law_k52 : FS :=
  sC (sSet 1 (xCall p__law_camera (aC (xV 0) (aC (xK (.int 10)) (aN))))) (sC (sSet 2 (xCall p__law_settings (aC (xV 1) (aN)))) (sC (sFor (.nm 3) (iRg 1 (aC (xK (.int 3)) (aN))) (l_law_k52_2)) (sC (sUnp (.tp [11, 6]) (xTup (aC (xCall p__law_badcamera (aC (xV 0) (aC (xK (.int 1)) (aN)))) (aC (xCall p__law_badsetting (aC (xV 0) (aC (xK (.int 2)) (aC (xV 1) (aN))))) (aN))))) (sC (sSet 12 (xIdx (xLst (aC (xK .none) (aC (xTup (aN)) (aC (xTup (aC (xK (.int 1)) (aC (xK (.int 2)) (aN)))) (aC (xTup (aC (xK (.int 1)) (aC (xK (.int 2)) (aC (xK (.int 61)) (aN))))) (aC (xTup (aC (xNeg (xK (.int 1))) (aC (xK (.int 2)) (aC (xK (.int 3)) (aN))))) (aC (xLst (aC (xK (.int 1)) (aC (xK (.int 2)) (aC (xK (.int 3)) (aN))))) (aC (xTup (aC (xK (.int 1)) (aC (xK (.bool true)) (aC (xK (.int 3)) (aN))))) (aC (xTup (aC (xK (.int 1)) (aC (xK (.str "2")) (aC (xK (.int 3)) (aN))))) (aN)))))))))) (xCall p__law_drawn (aC (xV 0) (aC (xK (.int 3)) (aC (xK (.int 8)) (aN))))))) (sC (sSet 13 (xIdx (xLst (aC (xK .none) (aC (xNeg (xK (.int 61))) (aC (xK (.int 121)) (aC (xK (.bool true)) (aC (xK (.str "5")) (aN))))))) (xCall p__law_drawn (aC (xV 0) (aC (xK (.int 4)) (aC (xK (.int 5)) (aN))))))) (sC (sSet 14 (c_law_k52_4)) (sC (sSet 14 (xBin .Add (xV 14) (c_law_k52_5))) (sC (sSet 14 (xBin .Add (xV 14) (c_law_k52_6))) (sC (sSet 14 (xBin .Add (xV 14) (c_law_k52_7))) (sC (sSet 14 (xBin .Add (xV 14) (c_law_k52_8))) (sC (sSet 14 (xBin .Add (xV 14) (c_law_k52_9))) (sRet (xCmp .Eq (xV 14) (xBin .Add (xBin .Add (xBin .Add (xBin .Mult (xLst (aC (xK (.int 0)) (aN))) (xK (.int 5))) (xBin .Mult (xLst (aC (xK (.int 1)) (aN))) (xK (.int 2)))) (xBin .Mult (xLst (aC (xK (.int 2)) (aN))) (xK (.int 5)))) (xBin .Mult (xLst (aC (xK (.int 3)) (aN))) (xK (.int 3)))))))))))))))))
def p_law_k52 : List PyData → Res PyData := runD 1 16 f_law_k52
/-- _law_looser('_law_camera_here', '_law_limits', '_law_light_here', '_law_near', '_law_told', '_law_right', '_law_least') -/
def c__law_looser_1 : FE :=
  xComp (iSq' (xV 4)) (.nm 10) (tV (xCmp .NotIn (xV 10) (xCall p_allowed (aC (xV 0) (aC (xV 8) (aC (xV 2) (aN))))))) (xV 10) [10]
def l__law_looser_1 : FS :=
  sC (sSet 11 (xCall p_lack (aC (xV 0) (aC (xV 10) (aC (xV 1) (aN)))))) (sC (sSet 12 (xTup (aC (xBi .min (aC (xIdx (xV 1) (xK (.int 0))) (aC (xIdx (xV 10) (xK (.int 0))) (aN)))) (aC (xBi .min (aC (xIdx (xV 1) (xK (.int 1))) (aC (xIdx (xV 10) (xK (.int 1))) (aN)))) (aC (xBi .max (aC (xIdx (xV 1) (xK (.int 2))) (aC (xIdx (xV 10) (xK (.int 2))) (aN)))) (aN)))))) (sC (sIf (tV (xCmp .NotEq (xV 11) (xBin .Sub (xBin .Add (xBin .Sub (xBin .Add (xBin .Sub (xIdx (xV 1) (xK (.int 0))) (xIdx (xV 12) (xK (.int 0)))) (xIdx (xV 1) (xK (.int 1)))) (xIdx (xV 12) (xK (.int 1)))) (xIdx (xV 12) (xK (.int 2)))) (xIdx (xV 1) (xK (.int 2)))))) (sRet (xK (.bool false))) (sN)) (sC (sIf (tV (xCmp .IsNot (xCall p_keeps (aC (xV 0) (aC (xV 10) (aC (xV 12) (aN))))) (xK (.bool true)))) (sRet (xK (.bool false))) (sN)) (sIf (tOr (tV (xCmp .NotEq (xCmp .Eq (xV 11) (xK (.int 0))) (xCall p_keeps (aC (xV 0) (aC (xV 10) (aC (xV 1) (aN))))))) (tV (xCmp .Gt (xCall p_lack (aC (xV 0) (aC (xV 10) (aC (xV 8) (aN))))) (xV 11)))) (sRet (xK (.bool false))) (sN)))))
def f__law_looser : FS :=
  sC (sSet 7 (xCall p__law_settings (aC (xV 0) (aN)))) (sC (sSet 8 (xTup (aC (xBi .max (aC (xK (.int 0)) (aC (xBin .Sub (xIdx (xV 1) (xK (.int 0))) (xK (.int 1))) (aN)))) (aC (xBi .max (aC (xK (.int 0)) (aC (xBin .Sub (xIdx (xV 1) (xK (.int 1))) (xK (.int 2))) (aN)))) (aC (xBi .min (aC (xK (.int 60)) (aC (xBin .Add (xIdx (xV 1) (xK (.int 2))) (xK (.int 1))) (aN)))) (aN)))))) (sC (sIf (tV (xCmp .NotEq (c__law_looser_1) (xLst (aN)))) (sRet (xK (.bool false))) (sN)) (sC (sSet 9 (xCall p_least_lack (aC (xV 0) (aC (xV 8) (aC (xV 2) (aN)))))) (sC (sIf (tAnd (tV (xCmp .IsNot (xV 6) (xK .none))) (tNot (tV (xChain .LtE .LtE (xV 9) (xV 6) (xBin .Add (xV 9) (xK (.int 4))))))) (sRet (xK (.bool false))) (sN)) (sC (sFor (.nm 10) (iSq' (xSli (xV 7) oN (oS (xK (.int 20))))) (l__law_looser_1)) (sC (sSet 13 (xTup (aC (xK (.int 0)) (aC (xK (.int 0)) (aC (xK (.int 60)) (aN)))))) (sC (sIf (tOr (tV (xCmp .NotEq (xCall p_allowed (aC (xV 0) (aC (xV 13) (aC (xV 2) (aN))))) (xV 5))) (tV (xCmp .IsNot (xCall p_keeps (aC (xV 0) (aC (xV 3) (aC (xV 3) (aN))))) (xK (.bool true))))) (sRet (xK (.bool false))) (sN)) (sC (sIf (tV (xCmp .NotEq (xBi .len (aC (xCall p_allowed (aC (xV 0) (aC (xV 13) (aC (xV 2) (aN))))) (aN))) (xCall p_count_right (aC (xV 0) (aC (xV 2) (aN)))))) (sRet (xK (.bool false))) (sN)) (sRet (xOr (xCmp .Eq (xV 5) (xLst (aN))) (xCmp .Eq (xCall p_least_lack (aC (xV 0) (aC (xV 13) (aC (xV 2) (aN))))) (xK (.int 0)))))))))))))
def p__law_looser : List PyData → Res PyData := runD 7 7 f__law_looser
/-- law('_law_script',) -/
def c_law_k54_1 : FE :=
  xComp (iRg 1 (aC (xK (.int 3)) (aN))) (.nm 10) (tYs) (xBi .max (aC (xK (.int 0)) (aC (xBin .Sub (xBin .Add (xIdx (xV 3) (xV 10)) (xCall p__law_drawn (aC (xV 0) (aC (xBin .Add (xK (.int 33)) (xV 10)) (aC (xK (.int 7)) (aN)))))) (xK (.int 3))) (aN)))) [10]
def c_law_k54_2 : FE :=
  xComp (iSq' (xV 7)) (.nm 11) (tV (xCall p_keeps (aC (xV 1) (aC (xV 11) (aC (xV 5) (aN)))))) (xV 11) [11]
def c_law_k54_3 : FE :=
  xComp (iSq' (xV 7)) (.nm 11) (tV (xCmp .Lt (xCall p_lack (aC (xV 1) (aC (xV 11) (aC (xV 5) (aN))))) (xV 8))) (xV 11) [11]
def c_law_k54_4 : FE :=
  xComp (iSq' (xV 7)) (.nm 11) (tAnd (tV (xCmp .Lt (xV 11) (xV 9))) (tV (xCmp .Eq (xCall p_lack (aC (xV 1) (aC (xV 11) (aC (xV 5) (aN))))) (xV 8)))) (xV 11) [11]
def f_law_k54 : FS :=
  sC (sSet 1 (xCall p__law_camera (aC (xV 0) (aC (xK (.int 10)) (aN))))) (sC (sSet 2 (xCall p__law_settings (aC (xV 1) (aN)))) (sC (sUnp (.tp [3, 4]) (xTup (aC (xIdx (xV 2) (xCall p__law_drawn (aC (xV 0) (aC (xK (.int 30)) (aC (xBi .len (aC (xV 2) (aN))) (aN)))))) (aC (xCall p__law_light_k52 (aC (xV 0) (aC (xK (.int 50)) (aC (xV 1) (aN))))) (aN))))) (sC (sSet 5 (xBi .tuple (aC (c_law_k54_1) (aN)))) (sC (sPar [6, 7] (aC (xCall p_allowed (aC (xV 1) (aC (xV 5) (aC (xV 4) (aN))))) (aC (xCall p_right_settings (aC (xV 1) (aC (xV 4) (aN)))) (aN)))) (sC (sUnp (.tp [8, 9]) (xTup (aC (xCall p_least_lack (aC (xV 1) (aC (xV 5) (aC (xV 4) (aN))))) (aC (xCall p_best_compromise (aC (xV 1) (aC (xV 5) (aC (xV 4) (aN))))) (aN))))) (sC (sIf (tV (xCmp .NotEq (xV 6) (c_law_k54_2))) (sRet (xK (.bool false))) (sN)) (sC (sIf (tV (xCmp .NotEq (xCmp .Is (xV 9) (xK .none)) (xCmp .Eq (xV 7) (xLst (aN))))) (sRet (xK (.bool false))) (sN)) (sC (sIf (tOr (tV (xCmp .NotEq (xCmp .Is (xV 8) (xK .none)) (xCmp .Eq (xV 7) (xLst (aN))))) (tV (xCmp .NotEq (xCmp .Eq (xV 8) (xK (.int 0))) (xCmp .NotEq (xV 6) (xLst (aN)))))) (sRet (xK (.bool false))) (sN)) (sC (sIf (tV (xCmp .IsNot (xV 9) (xK .none))) (sC (sIf (tOr (tV (xCmp .NotIn (xV 9) (xV 7))) (tV (xCmp .NotEq (xCall p_lack (aC (xV 1) (aC (xV 9) (aC (xV 5) (aN))))) (xV 8)))) (sRet (xK (.bool false))) (sN)) (sC (sIf (tAnd (tV (xCmp .NotEq (xV 6) (xLst (aN)))) (tV (xCmp .NotEq (xV 9) (xIdx (xV 6) (xK (.int 0)))))) (sRet (xK (.bool false))) (sN)) (sC (sIf (tV (xCmp .NotEq (c_law_k54_3) (xLst (aN)))) (sRet (xK (.bool false))) (sN)) (sIf (tV (xCmp .NotEq (c_law_k54_4) (xLst (aN)))) (sRet (xK (.bool false))) (sN))))) (sN)) (sRet (xCall p__law_looser (aC (xV 1) (aC (xV 5) (aC (xV 4) (aC (xV 3) (aC (xV 6) (aC (xV 7) (aC (xV 8) (aN)))))))))))))))))))
def p_law_k54 : List PyData → Res PyData := runD 1 11 f_law_k54
/-- check_parts('value',) -/
def c_check_parts_1 : FE :=
  xComp (iSq' (xV 0)) (.nm 1) (tYs) (xCall p_is_int (aC (xV 1) (aC (xK (.int (-60))) (aC (xK (.int 120)) (aN))))) [1]
def f_check_parts : FS :=
  sC (sIf (tOr (tNot (tV (xIsi .list (xV 0)))) (tNot (tV (xChain .LtE .LtE (xK (.int 1)) (xBi .len (aC (xV 0) (aN))) (xK (.int 6)))))) (sRse "InvalidParts") (sN)) (sIf (tNot (tV (xBi .all (aC (c_check_parts_1) (aN))))) (sRse "InvalidParts") (sN))
def p_check_parts : List PyData → Res PyData := runD 1 1 f_check_parts
/-- check_latitude('value',) -/
def f_check_latitude : FS :=
  sIf (tNot (tV (xCall p_is_int (aC (xV 0) (aC (xK (.int 0)) (aC (xK (.int 60)) (aN))))))) (sRse "InvalidNumber") (sN)
def p_check_latitude : List PyData → Res PyData := runD 1 0 f_check_latitude
/-- find_held('setting', 'parts', 'latitude') -/
def c_find_held_1 : FE :=
  xComp (iEn (aC (xV 1) (aN))) (.tp [4, 5]) (tV (xCmp .LtE (xBi .abs (aC (xBin .Sub (xV 3) (xV 5)) (aN))) (xV 2))) (xV 4) [4, 5]
def f_find_held : FS :=
  sC (sSet 3 (xCall p_find_exposure (aC (xV 0) (aN)))) (sRet (c_find_held_1))
def p_find_held : List PyData → Res PyData := runD 3 3 f_find_held
/-- held('camera', 'setting', 'parts', 'latitude') -/
def f_held : FS :=
  sC (sExp (xCall p_check_camera (aC (xV 0) (aN)))) (sC (sExp (xCall p_check_setting (aC (xV 0) (aC (xV 1) (aN))))) (sC (sExp (xCall p_check_parts (aC (xV 2) (aN)))) (sC (sExp (xCall p_check_latitude (aC (xV 3) (aN)))) (sRet (xCall p_find_held (aC (xV 1) (aC (xV 2) (aC (xV 3) (aN)))))))))
def p_held : List PyData → Res PyData := runD 4 0 f_held
/-- find_best('camera', 'parts', 'latitude') -/
def c_find_best_1 : FE :=
  xComp (iSq' (xCall p_all_settings (aC (xV 0) (aN)))) (.nm 3) (tYs) (xTup (aC (xBin .Sub (xK (.int 0)) (xBi .len (aC (xCall p_find_held (aC (xV 3) (aC (xV 1) (aC (xV 2) (aN))))) (aN)))) (aC (xV 3) (aN)))) [3]
def f_find_best : FS :=
  sC (sExp (xCall p_check_camera (aC (xV 0) (aN)))) (sC (sExp (xCall p_check_parts (aC (xV 1) (aN)))) (sC (sExp (xCall p_check_latitude (aC (xV 2) (aN)))) (sRet (xBi .min (aC (c_find_best_1) (aN))))))
def p_find_best : List PyData → Res PyData := runD 3 1 f_find_best
/-- most_held('camera', 'parts', 'latitude') -/
def f_most_held : FS :=
  sRet (xBin .Sub (xK (.int 0)) (xIdx (xCall p_find_best (aC (xV 0) (aC (xV 1) (aC (xV 2) (aN))))) (xK (.int 0))))
def p_most_held : List PyData → Res PyData := runD 3 0 f_most_held
/-- best_setting('camera', 'parts', 'latitude') -/
def f_best_setting : FS :=
  sRet (xIdx (xCall p_find_best (aC (xV 0) (aC (xV 1) (aC (xV 2) (aN))))) (xK (.int 1)))
def p_best_setting : List PyData → Res PyData := runD 3 0 f_best_setting
/-- least_latitude('camera', 'parts') -/
def c_least_latitude_1 : FE :=
  xComp (iSq' (xV 1)) (.nm 5) (tYs) (xBi .abs (aC (xBin .Sub (xV 4) (xV 5)) (aN))) [5]
def l_least_latitude_1 : FS :=
  sC (sSet 4 (xCall p_find_exposure (aC (xV 3) (aN)))) (sApp 2 (xBi .max (aC (c_least_latitude_1) (aN))))
def f_least_latitude : FS :=
  sC (sExp (xCall p_check_camera (aC (xV 0) (aN)))) (sC (sExp (xCall p_check_parts (aC (xV 1) (aN)))) (sC (sSet 2 (xLst (aN))) (sC (sFor (.nm 3) (iSq' (xCall p_all_settings (aC (xV 0) (aN)))) (l_least_latitude_1)) (sRet (xIf (tV (xCmp .LtE (xBi .min (aC (xV 2) (aN))) (xK (.int 60)))) (xBi .min (aC (xV 2) (aN))) (xK .none))))))
def p_least_latitude : List PyData → Res PyData := runD 2 4 f_least_latitude
/-- _law_error('_law_way', '_law_one', '_law_two', '_law_three', '_law_four') -/
def f__law_error_k56 : FS :=
  sC (sTry excs_k56 (sIf (tV (xCmp .Eq (xV 0) (xK (.int 0)))) (sExp (xCall p_held (aC (xV 1) (aC (xV 2) (aC (xV 3) (aC (xV 4) (aN))))))) (sIf (tV (xCmp .Lt (xV 0) (xK (.int 3)))) (sExp (xPick [("most_held", p_most_held), ("best_setting", p_best_setting)] (xBin .Sub (xV 0) (xK (.int 1))) (aC (xV 1) (aC (xV 3) (aC (xV 4) (aN)))))) (sExp (xCall p_least_latitude (aC (xV 1) (aC (xV 3) (aN))))))) 5 (fun a c => sC (sSet 6 (xLst (aC (xIsE 5 a (eqB c "InvalidCamera")) (aC (xIsE 5 a (eqB c "InvalidSetting")) (aN))))) (sC (sSet 6 (xBin .Add (xV 6) (xLst (aC (xIsE 5 a (eqB c "InvalidParts")) (aN))))) (sRet (xMt .lindex (xBin .Add (xV 6) (xLst (aC (xIsE 5 a (eqB c "InvalidNumber")) (aN)))) (aC (xK (.bool true)) (aN))))))) (sRet (xK .none))
def p__law_error_k56 : List PyData → Res PyData := runD 5 2 f__law_error_k56
/-- law('_law_script',) -/
def c_law_k56_1 : FE :=
  xComp (iRg 1 (aC (xBin .Add (xK (.int 1)) (xCall p__law_drawn (aC (xV 0) (aC (xK (.int 1)) (aC (xK (.int 6)) (aN)))))) (aN))) (.nm 14) (tYs) (xCall p__law_light_k52 (aC (xV 0) (aC (xBin .Add (xK (.int 30)) (xBin .Mult (xK (.int 3)) (xV 14))) (aC (xV 1) (aN))))) [14]
def c_law_k56_2 : FE :=
  xComp (iSq' (xV 3)) (.nm 15) (tYs) (xBi .abs (aC (xBin .Sub (xCall p__law_number (aC (xV 7) (aN))) (xV 15)) (aN))) [15]
def c_law_k56_3 : FE :=
  xComp (iRg 1 (aC (xBi .len (aC (xV 3) (aN))) (aN))) (.nm 14) (tV (xCmp .LtE (xIdx (xV 8) (xV 14)) (xV 4))) (xV 14) [14]
def l_law_k56_1 : FS :=
  sC (sSet 8 (c_law_k56_2)) (sC (sSet 9 (c_law_k56_3)) (sC (sApp 5 (xBi .len (aC (xV 9) (aN)))) (sC (sApp 6 (xBi .max (aC (xV 8) (aN)))) (sIf (tV (xCmp .NotEq (xCall p_held (aC (xV 1) (aC (xV 7) (aC (xV 3) (aC (xV 4) (aN)))))) (xV 9))) (sRet (xK (.bool false))) (sN)))))
def c_law_k56_4 : FE :=
  xComp (iRg 1 (aC (xK (.int 4)) (aN))) (.nm 16) (tYs) (xCall p__law_error_k56 (aC (xV 16) (aC (xV 10) (aC (xV 7) (aC (xV 11) (aC (xV 12) (aN))))))) [16]
def c_law_k56_5 : FE :=
  xComp (iRg 1 (aC (xK (.int 4)) (aN))) (.nm 16) (tYs) (xCall p__law_error_k56 (aC (xV 16) (aC (xV 1) (aC (xIdx (xV 2) (xK (.int 0))) (aC (xV 11) (aC (xV 12) (aN))))))) [16]
def c_law_k56_6 : FE :=
  xComp (iRg 1 (aC (xK (.int 3)) (aN))) (.nm 16) (tYs) (xCall p__law_error_k56 (aC (xV 16) (aC (xV 1) (aC (xIdx (xV 2) (xK (.int 0))) (aC (xV 3) (aC (xV 12) (aN))))))) [16]
def f_law_k56 : FS :=
  sC (sSet 1 (xCall p__law_camera (aC (xV 0) (aC (xK (.int 10)) (aN))))) (sC (sSet 2 (xCall p__law_settings (aC (xV 1) (aN)))) (sC (sSet 3 (c_law_k56_1)) (sC (sIf (tV (xCmp .Eq (xCall p__law_drawn (aC (xV 0) (aC (xK (.int 2)) (aC (xK (.int 8)) (aN))))) (xK (.int 0)))) (sSet 3 (xBin .Add (xSli (xV 3) oN (oS (xK (.int 5)))) (xLst (aC (xBin .Sub (xCall p__law_drawn (aC (xV 0) (aC (xK (.int 3)) (aC (xK (.int 181)) (aN))))) (xK (.int 60))) (aN))))) (sN)) (sC (sPar [4, 5, 6] (aC (xCall p__law_drawn (aC (xV 0) (aC (xK (.int 4)) (aC (xK (.int 6)) (aN))))) (aC (xLst (aN)) (aC (xLst (aN)) (aN))))) (sC (sFor (.nm 7) (iSq' (xV 2)) (l_law_k56_1)) (sC (sIf (tV (xCmp .NotEq (xCall p_most_held (aC (xV 1) (aC (xV 3) (aC (xV 4) (aN))))) (xBi .max (aC (xV 5) (aN))))) (sRet (xK (.bool false))) (sN)) (sC (sIf (tV (xCmp .NotEq (xCall p_best_setting (aC (xV 1) (aC (xV 3) (aC (xV 4) (aN))))) (xIdx (xV 2) (xMt .lindex (xV 5) (aC (xBi .max (aC (xV 5) (aN))) (aN)))))) (sRet (xK (.bool false))) (sN)) (sC (sIf (tV (xCmp .NotEq (xCall p_least_latitude (aC (xV 1) (aC (xV 3) (aN)))) (xIf (tV (xCmp .LtE (xBi .min (aC (xV 6) (aN))) (xK (.int 60)))) (xBi .min (aC (xV 6) (aN))) (xK .none)))) (sRet (xK (.bool false))) (sN)) (sC (sUnp (.tp [10, 7]) (xTup (aC (xCall p__law_badcamera (aC (xV 0) (aC (xK (.int 5)) (aN)))) (aC (xCall p__law_badsetting (aC (xV 0) (aC (xK (.int 6)) (aC (xV 1) (aN))))) (aN))))) (sC (sSet 11 (xIdx (xLst (aC (xK .none) (aC (xLst (aN)) (aC (xTup (aC (xK (.int 5)) (aN))) (aC (xLst (aC (xK (.int 121)) (aN))) (aC (xLst (aC (xNeg (xK (.int 61))) (aN))) (aC (xBin .Mult (xLst (aC (xK (.int 5)) (aN))) (xK (.int 7))) (aC (xLst (aC (xK (.bool true)) (aN))) (aC (xLst (aC (xK (.str "5")) (aN))) (aC (xLst (aC (xK (.int 5)) (aC (xK .none) (aN)))) (aN))))))))))) (xCall p__law_drawn (aC (xV 0) (aC (xK (.int 7)) (aC (xK (.int 9)) (aN))))))) (sC (sSet 12 (xIdx (xLst (aC (xK .none) (aC (xNeg (xK (.int 1))) (aC (xK (.int 61)) (aC (xK (.bool true)) (aC (xK (.str "5")) (aN))))))) (xCall p__law_drawn (aC (xV 0) (aC (xK (.int 8)) (aC (xK (.int 5)) (aN))))))) (sC (sSet 13 (c_law_k56_4)) (sC (sSet 13 (xBin .Add (xV 13) (xLst (aC (xCall p__law_error_k56 (aC (xK (.int 0)) (aC (xV 1) (aC (xV 7) (aC (xV 11) (aC (xV 12) (aN))))))) (aN))))) (sC (sSet 13 (xBin .Add (xV 13) (c_law_k56_5))) (sC (sSet 13 (xBin .Add (xV 13) (c_law_k56_6))) (sRet (xCmp .Eq (xV 13) (xBin .Add (xBin .Add (xBin .Add (xBin .Mult (xLst (aC (xK (.int 0)) (aN))) (xK (.int 4))) (xLst (aC (xK (.int 1)) (aN)))) (xBin .Mult (xLst (aC (xK (.int 2)) (aN))) (xK (.int 4)))) (xBin .Mult (xLst (aC (xK (.int 3)) (aN))) (xK (.int 3)))))))))))))))))))))
def p_law_k56 : List PyData → Res PyData := runD 1 16 f_law_k56
/-- _law_least('_law_camera_here', '_law_parts', '_law_latitude', '_law_many') -/
def l__law_least_1 : FS :=
  sC (sSet 6 (xCall p_least_error (aC (xV 0) (aC (xV 5) (aN))))) (sC (sIf (tOr (tV (xCmp .NotEq (xCall p_least_latitude (aC (xV 0) (aC (xLst (aC (xV 5) (aN))) (aN)))) (xV 6))) (tAnd (tV (xCmp .IsNot (xV 4) (xK .none))) (tV (xCmp .Gt (xV 6) (xV 4))))) (sRet (xK (.bool false))) (sN)) (sC (sIf (tV (xCmp .NotEq (xCall p_most_held (aC (xV 0) (aC (xLst (aC (xV 5) (aN))) (aC (xV 6) (aN))))) (xK (.int 1)))) (sRet (xK (.bool false))) (sN)) (sIf (tAnd (tV (xCmp .Gt (xV 6) (xK (.int 0)))) (tV (xCmp .NotEq (xCall p_most_held (aC (xV 0) (aC (xLst (aC (xV 5) (aN))) (aC (xBin .Sub (xV 6) (xK (.int 1))) (aN))))) (xK (.int 0))))) (sRet (xK (.bool false))) (sN))))
def f__law_least : FS :=
  sC (sSet 4 (xCall p_least_latitude (aC (xV 0) (aC (xV 1) (aN))))) (sC (sIf (tV (xCmp .IsNot (xV 4) (xK .none))) (sC (sIf (tV (xCmp .NotEq (xCall p_most_held (aC (xV 0) (aC (xV 1) (aC (xV 4) (aN))))) (xBi .len (aC (xV 1) (aN))))) (sRet (xK (.bool false))) (sN)) (sC (sIf (tAnd (tV (xCmp .Gt (xV 4) (xK (.int 0)))) (tV (xCmp .Eq (xCall p_most_held (aC (xV 0) (aC (xV 1) (aC (xBin .Sub (xV 4) (xK (.int 1))) (aN))))) (xBi .len (aC (xV 1) (aN)))))) (sRet (xK (.bool false))) (sN)) (sIf (tOr (tV (xCmp .Lt (xBin .Mult (xK (.int 2)) (xV 4)) (xBin .Sub (xBi .max (aC (xV 1) (aN))) (xBi .min (aC (xV 1) (aN)))))) (tV (xCmp .NotEq (xCmp .LtE (xV 4) (xV 2)) (xCmp .Eq (xV 3) (xBi .len (aC (xV 1) (aN))))))) (sRet (xK (.bool false))) (sN)))) (sIf (tV (xCmp .Eq (xCall p_most_held (aC (xV 0) (aC (xV 1) (aC (xK (.int 60)) (aN))))) (xBi .len (aC (xV 1) (aN))))) (sRet (xK (.bool false))) (sN))) (sC (sFor (.nm 5) (iSq' (xV 1)) (l__law_least_1)) (sC (sIf (tV (xCmp .Gt (xCall p_most_held (aC (xV 0) (aC (xSli (xV 1) oN (oS (xK (.int 1)))) (aC (xV 2) (aN))))) (xV 3))) (sRet (xK (.bool false))) (sN)) (sC (sSet 7 (xSli (xBin .Add (xV 1) (xV 1)) oN (oS (xK (.int 6))))) (sC (sIf (tV (xCmp .NotEq (xCall p_least_latitude (aC (xV 0) (aC (xV 7) (aN)))) (xV 4))) (sRet (xK (.bool false))) (sN)) (sRet (xCmp .In (xCall p_most_held (aC (xV 0) (aC (xBin .Mult (xLst (aC (xIdx (xV 1) (xK (.int 0))) (aN))) (xK (.int 2))) (aC (xV 2) (aN))))) (xTup (aC (xK (.int 0)) (aC (xK (.int 2)) (aN)))))))))))
def p__law_least : List PyData → Res PyData := runD 4 4 f__law_least
/-- law('_law_script',) -/
def c_law_k58_1 : FE :=
  xComp (iRg 1 (aC (xBin .Add (xK (.int 1)) (xCall p__law_drawn (aC (xV 0) (aC (xK (.int 1)) (aC (xK (.int 6)) (aN)))))) (aN))) (.nm 9) (tYs) (xCall p__law_light_k52 (aC (xV 0) (aC (xBin .Add (xK (.int 30)) (xBin .Mult (xK (.int 3)) (xV 9))) (aC (xV 1) (aN))))) [9]
def c_law_k58_2 : FE :=
  xComp (iEn (aC (xV 2) (aN))) (.tp [9, 10]) (tV (xCmp .LtE (xBi .abs (aC (xCall p_error (aC (xV 1) (aC (xV 5) (aC (xV 10) (aN))))) (aN))) (xV 3))) (xV 9) [9, 10]
def c_law_k58_3 : FE :=
  xComp (iSq' (xV 8)) (.nm 9) (tV (xCmp .NotIn (xV 9) (xCall p_held (aC (xV 1) (aC (xV 7) (aC (xV 2) (aC (xBin .Add (xV 3) (xK (.int 1))) (aN)))))))) (xV 9) [9]
def l_law_k58_1 : FS :=
  sC (sSet 8 (xCall p_held (aC (xV 1) (aC (xV 7) (aC (xV 2) (aC (xV 3) (aN))))))) (sC (sIf (tOr (tV (xCmp .Gt (xBi .len (aC (xV 8) (aN))) (xV 4))) (tAnd (tV (xCmp .Lt (xV 7) (xV 5))) (tV (xCmp .Eq (xBi .len (aC (xV 8) (aN))) (xV 4))))) (sRet (xK (.bool false))) (sN)) (sIf (tV (xCmp .NotEq (c_law_k58_3) (xLst (aN)))) (sRet (xK (.bool false))) (sN)))
def f_law_k58 : FS :=
  sC (sSet 1 (xCall p__law_camera (aC (xV 0) (aC (xK (.int 10)) (aN))))) (sC (sSet 2 (c_law_k58_1)) (sC (sSet 3 (xCall p__law_drawn (aC (xV 0) (aC (xK (.int 4)) (aC (xK (.int 12)) (aN)))))) (sC (sUnp (.tp [4, 5]) (xTup (aC (xCall p_most_held (aC (xV 1) (aC (xV 2) (aC (xV 3) (aN))))) (aC (xCall p_best_setting (aC (xV 1) (aC (xV 2) (aC (xV 3) (aN))))) (aN))))) (sC (sSet 6 (xCall p_held (aC (xV 1) (aC (xV 5) (aC (xV 2) (aC (xV 3) (aN))))))) (sC (sIf (tOr (tV (xCmp .IsNot (xCall p_is_setting (aC (xV 1) (aC (xV 5) (aN)))) (xK (.bool true)))) (tOr (tV (xCmp .NotEq (xBi .len (aC (xV 6) (aN))) (xV 4))) (tV (xCmp .NotEq (xV 6) (xSSet (xV 6)))))) (sRet (xK (.bool false))) (sN)) (sC (sIf (tV (xCmp .NotEq (xV 6) (c_law_k58_2))) (sRet (xK (.bool false))) (sN)) (sC (sFor (.nm 7) (iSq' (xSli (xCall p__law_settings (aC (xV 1) (aN))) oN (oS (xK (.int 25))))) (l_law_k58_1)) (sC (sIf (tNot (tV (xChain .LtE .LtE (xV 4) (xCall p_most_held (aC (xV 1) (aC (xV 2) (aC (xBin .Add (xV 3) (xK (.int 3))) (aN))))) (xBi .len (aC (xV 2) (aN)))))) (sRet (xK (.bool false))) (sN)) (sRet (xCall p__law_least (aC (xV 1) (aC (xV 2) (aC (xV 3) (aC (xV 4) (aN)))))))))))))))
def p_law_k58 : List PyData → Res PyData := runD 1 10 f_law_k58
/-- find_plans('camera', 'parts') -/
def c_find_plans_1 : FE :=
  xComp (iSq' (xV 2)) (.tp [8, 9]) (tYs) (xTup (aC (xBin .Add (xV 8) (xCall p_count_clicks (aC (xV 0) (aC (xV 6) (aC (xIdx (xV 9) (xK (.int 0))) (aN)))))) (aC (xBin .Add (xTup (aC (xV 6) (aN))) (xV 9)) (aN)))) [8, 9]
def l_find_plans_1 : FS :=
  sC (sSet 7 (c_find_plans_1)) (sC (sIf (tV (xCmp .Eq (xV 3) (xK (.int 0)))) (sSet 7 (xLst (aC (xTup (aC (xK (.int 0)) (aC (xTup (aC (xV 6) (aN))) (aN)))) (aN)))) (sN)) (sSet 5 (xBin .Add (xV 5) (xIf (tV (xCmp .NotEq (xV 7) (xLst (aN)))) (xLst (aC (xBi .min (aC (xV 7) (aN))) (aN))) (xLst (aN))))))
def l_find_plans_2 : FS :=
  sC (sSet 5 (xLst (aN))) (sC (sFor (.nm 6) (iSq' (xCall p_find_right (aC (xV 0) (aC (xV 4) (aN))))) (l_find_plans_1)) (sSet 2 (xV 5)))
def f_find_plans : FS :=
  sC (sSet 2 (xLst (aN))) (sC (sFor (.tp [3, 4]) (iEn (aC (xRev (xV 1)) (aN))) (l_find_plans_2)) (sRet (xV 2)))
def p_find_plans : List PyData → Res PyData := runD 2 8 f_find_plans
/-- check_row('camera', 'parts') -/
def f_check_row : FS :=
  sC (sExp (xCall p_check_camera (aC (xV 0) (aN)))) (sExp (xCall p_check_parts (aC (xV 1) (aN))))
def p_check_row : List PyData → Res PyData := runD 2 0 f_check_row
/-- find_row('camera', 'parts') -/
def f_find_row : FS :=
  sC (sSet 2 (xCall p_find_plans (aC (xV 0) (aC (xV 1) (aN))))) (sRet (xIf (tV (xCmp .NotEq (xV 2) (xLst (aN)))) (xBi .min (aC (xV 2) (aN))) (xK .none)))
def p_find_row : List PyData → Res PyData := runD 2 1 f_find_row
/-- fewest_in_row('camera', 'parts') -/
def f_fewest_in_row : FS :=
  sC (sExp (xCall p_check_row (aC (xV 0) (aC (xV 1) (aN))))) (sC (sSet 2 (xCall p_find_row (aC (xV 0) (aC (xV 1) (aN))))) (sRet (xIf (tV (xCmp .IsNot (xV 2) (xK .none))) (xIdx (xV 2) (xK (.int 0))) (xK .none))))
def p_fewest_in_row : List PyData → Res PyData := runD 2 1 f_fewest_in_row
/-- best_row('camera', 'parts') -/
def f_best_row : FS :=
  sC (sExp (xCall p_check_row (aC (xV 0) (aC (xV 1) (aN))))) (sC (sSet 2 (xCall p_find_row (aC (xV 0) (aC (xV 1) (aN))))) (sRet (xIf (tV (xCmp .IsNot (xV 2) (xK .none))) (xBi .list (aC (xIdx (xV 2) (xK (.int 1))) (aN))) (xK .none))))
def p_best_row : List PyData → Res PyData := runD 2 1 f_best_row
/-- from_setting('camera', 'setting', 'parts') -/
def c_from_setting_1 : FE :=
  xComp (iSq' (xCall p_find_plans (aC (xV 0) (aC (xV 2) (aN))))) (.tp [4, 5]) (tYs) (xBin .Add (xV 4) (xCall p_count_clicks (aC (xV 0) (aC (xV 1) (aC (xIdx (xV 5) (xK (.int 0))) (aN)))))) [4, 5]
def f_from_setting : FS :=
  sC (sExp (xCall p_check_camera (aC (xV 0) (aN)))) (sC (sExp (xCall p_check_setting (aC (xV 0) (aC (xV 1) (aN))))) (sC (sExp (xCall p_check_parts (aC (xV 2) (aN)))) (sC (sSet 3 (c_from_setting_1)) (sRet (xIf (tV (xCmp .NotEq (xV 3) (xLst (aN)))) (xBi .min (aC (xV 3) (aN))) (xK .none))))))
def p_from_setting : List PyData → Res PyData := runD 3 3 f_from_setting
/-- all_orders('many',) -/
def c_all_orders_1 : FE :=
  xComp2 (iSq' (xV 1)) (.nm 3) (tYs) (iRg 1 (aC (xV 0) (aN))) (.nm 4) [4] (tV (xCmp .NotIn (xV 4) (xV 3))) (xBin .Add (xV 3) (xTup (aC (xV 4) (aN)))) [3, 4]
def l_all_orders_1 : FS :=
  sSet 1 (c_all_orders_1)
def f_all_orders : FS :=
  sC (sSet 1 (xLst (aC (xTup (aN)) (aN)))) (sC (sFor (.nm 2) (iRg 1 (aC (xV 0) (aN))) (l_all_orders_1)) (sRet (xV 1)))
def p_all_orders : List PyData → Res PyData := runD 1 4 f_all_orders
/-- best_start('camera', 'parts') -/
def c_best_start_1 : FE :=
  xComp (iSq' (xV 3)) (.nm 5) (tYs) (xIdx (xV 1) (xV 5)) [5]
def l_best_start_1 : FS :=
  sC (sSet 4 (xCall p_find_row (aC (xV 0) (aC (c_best_start_1) (aN))))) (sSet 2 (xBin .Add (xV 2) (xIf (tV (xCmp .IsNot (xV 4) (xK .none))) (xLst (aC (xTup (aC (xIdx (xV 4) (xK (.int 0))) (aC (xV 3) (aN)))) (aN))) (xLst (aN)))))
def f_best_start : FS :=
  sC (sExp (xCall p_check_row (aC (xV 0) (aC (xV 1) (aN))))) (sC (sIf (tV (xCmp .Gt (xBi .len (aC (xV 1) (aN))) (xK (.int 4)))) (sRse "TooLarge") (sN)) (sC (sSet 2 (xLst (aN))) (sC (sFor (.nm 3) (iSq' (xCall p_all_orders (aC (xBi .len (aC (xV 1) (aN))) (aN)))) (l_best_start_1)) (sRet (xIf (tV (xCmp .NotEq (xV 2) (xLst (aN)))) (xIdx (xBi .min (aC (xV 2) (aN))) (xK (.int 1))) (xK .none))))))
def p_best_start : List PyData → Res PyData := runD 2 4 f_best_start
/-- _law_clicks('_law_camera_here', '_law_one', '_law_other') -/
def c__law_clicks_1 : FE :=
  xComp (iRg 1 (aC (xK (.int 3)) (aN))) (.nm 3) (tYs) (xBin .FloorDiv (xBi .abs (aC (xBin .Sub (xIdx (xV 1) (xV 3)) (xIdx (xV 2) (xV 3))) (aN))) (xIdx (xIdx (xV 0) (xV 3)) (xK (.int 2)))) [3]
def f__law_clicks : FS :=
  sRet (xBi .sum (aC (c__law_clicks_1) (aN)))
def p__law_clicks : List PyData → Res PyData := runD 3 1 f__law_clicks
/-- _law_error('_law_way', '_law_one', '_law_two', '_law_three') -/
def f__law_error_k60 : FS :=
  sC (sTry excs_k60 (sIf (tV (xCmp .Lt (xV 0) (xK (.int 3)))) (sExp (xPick [("best_row", p_best_row), ("best_start", p_best_start), ("fewest_in_row", p_fewest_in_row)] (xV 0) (aC (xV 1) (aC (xV 3) (aN))))) (sExp (xCall p_from_setting (aC (xV 1) (aC (xV 2) (aC (xV 3) (aN))))))) 4 (fun a c => sC (sSet 5 (xLst (aC (xIsE 4 a (eqB c "InvalidCamera")) (aC (xIsE 4 a (eqB c "InvalidSetting")) (aN))))) (sC (sSet 5 (xBin .Add (xV 5) (xLst (aC (xIsE 4 a (eqB c "InvalidParts")) (aN))))) (sRet (xMt .lindex (xBin .Add (xV 5) (xLst (aC (xIsE 4 a (eqB c "TooLarge")) (aN)))) (aC (xK (.bool true)) (aN))))))) (sRet (xK .none))
def p__law_error_k60 : List PyData → Res PyData := runD 4 2 f__law_error_k60
/-- _law_plans('_law_camera_here', '_law_parts') -/
def l__law_plans_1 : FS :=
  sC (sSet 8 (xIf (tV (xCmp .NotEq (xV 6) (xLst (aN)))) (xCall p__law_clicks (aC (xV 0) (aC (xIdx (xV 6) (xNeg (xK (.int 1)))) (aC (xV 7) (aN))))) (xK (.int 0)))) (sApp 4 (xTup (aC (xBin .Add (xV 5) (xV 8)) (aC (xBin .Add (xV 6) (xLst (aC (xV 7) (aN)))) (aN)))))
def l__law_plans_2 : FS :=
  sFor (.nm 7) (iSq' (xCall p__law_right (aC (xV 0) (aC (xV 3) (aN))))) (l__law_plans_1)
def l__law_plans_3 : FS :=
  sC (sSet 4 (xLst (aN))) (sC (sFor (.tp [5, 6]) (iSq' (xV 2)) (l__law_plans_2)) (sSet 2 (xV 4)))
def f__law_plans : FS :=
  sC (sSet 2 (xLst (aC (xTup (aC (xK (.int 0)) (aC (xLst (aN)) (aN)))) (aN)))) (sC (sFor (.nm 3) (iSq' (xV 1)) (l__law_plans_3)) (sRet (xV 2)))
def p__law_plans : List PyData → Res PyData := runD 2 7 f__law_plans
/-- law('_law_script',) -/
def c_law_k60_1 : FE :=
  xComp (iRg 1 (aC (xBin .Add (xK (.int 1)) (xCall p__law_drawn (aC (xV 0) (aC (xK (.int 2)) (aC (xK (.int 3)) (aN)))))) (aN))) (.nm 19) (tYs) (xCall p__law_light_k52 (aC (xV 0) (aC (xBin .Add (xK (.int 30)) (xBin .Mult (xK (.int 3)) (xV 19))) (aC (xV 1) (aN))))) [19]
def c_law_k60_2 : FE :=
  xComp (iSq' (xV 6)) (.tp [20, 21]) (tYs) (xBin .Add (xV 20) (xCall p__law_clicks (aC (xV 1) (aC (xV 9) (aC (xIdx (xV 21) (xK (.int 0))) (aN)))))) [20, 21]
def c_law_k60_3 : FE :=
  xComp (iSq' (xV 13)) (.nm 19) (tYs) (xIdx (xV 5) (xV 19)) [19]
def l_law_k60_1 : FS :=
  sC (sSet 14 (xCall p__law_plans (aC (xV 1) (aC (c_law_k60_3) (aN))))) (sSet 12 (xBin .Add (xV 12) (xIf (tV (xCmp .NotEq (xV 14) (xLst (aN)))) (xLst (aC (xTup (aC (xIdx (xBi .min (aC (xV 14) (aN))) (xK (.int 0))) (aC (xV 13) (aN)))) (aN))) (xLst (aN)))))
def c_law_k60_4 : FE :=
  xComp (iRg 1 (aC (xK (.int 4)) (aN))) (.nm 22) (tYs) (xCall p__law_error_k60 (aC (xV 22) (aC (xV 15) (aC (xV 16) (aC (xV 17) (aN)))))) [22]
def c_law_k60_5 : FE :=
  xComp (iRg 1 (aC (xK (.int 4)) (aN))) (.nm 22) (tYs) (xCall p__law_error_k60 (aC (xV 22) (aC (xV 1) (aC (xV 9) (aC (xV 17) (aN)))))) [22]
def f_law_k60 : FS :=
  sC (sSet 1 (xCall p__law_camera (aC (xV 0) (aC (xK (.int 10)) (aN))))) (sC (sUnp (.tp [2, 3, 4]) (xIdx (xV 1) (xK (.int 2)))) (sC (sSet 1 (xBin .Add (xSli (xV 1) oN (oS (xK (.int 2)))) (xTup (aC (xTup (aC (xV 2) (aC (xBin .Add (xV 2) (xBin .Mult (xV 4) (xCall p__law_drawn (aC (xV 0) (aC (xK (.int 1)) (aC (xK (.int 2)) (aN))))))) (aC (xV 4) (aN))))) (aN))))) (sC (sSet 5 (c_law_k60_1)) (sC (sSet 6 (xCall p__law_plans (aC (xV 1) (aC (xV 5) (aN))))) (sC (sSet 7 (xIf (tV (xCmp .NotEq (xV 6) (xLst (aN)))) (xBi .min (aC (xV 6) (aN))) (xTup (aC (xK .none) (aC (xK .none) (aN)))))) (sC (sIf (tOr (tV (xCmp .NotEq (xCall p_fewest_in_row (aC (xV 1) (aC (xV 5) (aN)))) (xIdx (xV 7) (xK (.int 0))))) (tV (xCmp .NotEq (xCall p_best_row (aC (xV 1) (aC (xV 5) (aN)))) (xIdx (xV 7) (xK (.int 1)))))) (sRet (xK (.bool false))) (sN)) (sC (sSet 8 (xCall p__law_settings (aC (xV 1) (aN)))) (sC (sSet 9 (xIdx (xV 8) (xCall p__law_drawn (aC (xV 0) (aC (xK (.int 3)) (aC (xBi .len (aC (xV 8) (aN))) (aN))))))) (sC (sSet 10 (c_law_k60_2)) (sC (sIf (tV (xCmp .NotEq (xCall p_from_setting (aC (xV 1) (aC (xV 9) (aC (xV 5) (aN))))) (xIf (tV (xCmp .NotEq (xV 10) (xLst (aN)))) (xBi .min (aC (xV 10) (aN))) (xK .none)))) (sRet (xK (.bool false))) (sN)) (sC (sSet 11 (xLst (aC (xLst (aC (xTup (aC (xK (.int 0)) (aN))) (aN))) (aC (xLst (aC (xTup (aC (xK (.int 0)) (aC (xK (.int 1)) (aN)))) (aC (xTup (aC (xK (.int 1)) (aC (xK (.int 0)) (aN)))) (aN)))) (aN))))) (sC (sSet 11 (xBin .Add (xV 11) (xLst (aC (xLst (aC (xTup (aC (xK (.int 0)) (aC (xK (.int 1)) (aC (xK (.int 2)) (aN))))) (aC (xTup (aC (xK (.int 0)) (aC (xK (.int 2)) (aC (xK (.int 1)) (aN))))) (aC (xTup (aC (xK (.int 1)) (aC (xK (.int 0)) (aC (xK (.int 2)) (aN))))) (aC (xTup (aC (xK (.int 1)) (aC (xK (.int 2)) (aC (xK (.int 0)) (aN))))) (aC (xTup (aC (xK (.int 2)) (aC (xK (.int 0)) (aC (xK (.int 1)) (aN))))) (aC (xTup (aC (xK (.int 2)) (aC (xK (.int 1)) (aC (xK (.int 0)) (aN))))) (aN)))))))) (aN))))) (sC (sSet 12 (xLst (aN))) (sC (sFor (.nm 13) (iSq' (xIdx (xV 11) (xBin .Sub (xBi .len (aC (xV 5) (aN))) (xK (.int 1))))) (l_law_k60_1)) (sC (sIf (tV (xCmp .NotEq (xCall p_best_start (aC (xV 1) (aC (xV 5) (aN)))) (xIf (tV (xCmp .NotEq (xV 12) (xLst (aN)))) (xIdx (xBi .min (aC (xV 12) (aN))) (xK (.int 1))) (xK .none)))) (sRet (xK (.bool false))) (sN)) (sC (sUnp (.tp [15, 16]) (xTup (aC (xCall p__law_badcamera (aC (xV 0) (aC (xK (.int 5)) (aN)))) (aC (xCall p__law_badsetting (aC (xV 0) (aC (xK (.int 6)) (aC (xV 1) (aN))))) (aN))))) (sC (sSet 17 (xIdx (xLst (aC (xK .none) (aC (xLst (aN)) (aC (xTup (aC (xK (.int 5)) (aN))) (aC (xLst (aC (xK (.int 121)) (aN))) (aC (xLst (aC (xNeg (xK (.int 61))) (aN))) (aC (xBin .Mult (xLst (aC (xK (.int 5)) (aN))) (xK (.int 7))) (aC (xLst (aC (xK (.bool true)) (aN))) (aC (xLst (aC (xK (.str "5")) (aN))) (aN)))))))))) (xCall p__law_drawn (aC (xV 0) (aC (xK (.int 7)) (aC (xK (.int 8)) (aN))))))) (sC (sSet 18 (xBin .Add (c_law_k60_4) (xLst (aC (xCall p__law_error_k60 (aC (xK (.int 3)) (aC (xV 1) (aC (xV 16) (aC (xV 17) (aN)))))) (aN))))) (sC (sSet 18 (xBin .Add (xV 18) (c_law_k60_5))) (sRet (xCmp .Eq (xBin .Add (xV 18) (xLst (aC (xCall p__law_error_k60 (aC (xK (.int 1)) (aC (xV 1) (aC (xV 9) (aC (xBin .Mult (xLst (aC (xK (.int 5)) (aN))) (xK (.int 5))) (aN)))))) (aN)))) (xBin .Add (xBin .Add (xBin .Add (xBin .Mult (xLst (aC (xK (.int 0)) (aN))) (xK (.int 4))) (xLst (aC (xK (.int 1)) (aN)))) (xBin .Mult (xLst (aC (xK (.int 2)) (aN))) (xK (.int 4)))) (xLst (aC (xK (.int 3)) (aN)))))))))))))))))))))))))
def p_law_k60 : List PyData → Res PyData := runD 1 22 f_law_k60
/-- _law_starts('_law_camera_here', '_law_setting', '_law_parts', '_law_many', '_law_plan', '_law_start', '_law_order') -/
def c__law_starts_1 : FE :=
  xComp (iSq' (xCall p_right_settings (aC (xV 0) (aC (xIdx (xV 2) (xK (.int 0))) (aN))))) (.nm 9) (tYs) (xCall p_fewest_clicks (aC (xV 0) (aC (xV 9) (aC (xIdx (xV 2) (xK (.int 1))) (aN))))) [9]
def c__law_starts_2 : FE :=
  xComp (iSq' (xV 6)) (.nm 10) (tYs) (xIdx (xV 2) (xV 10)) [10]
def f__law_starts : FS :=
  sC (sIf (tNot (tV (xChain .LtE .LtE (xBi .max (aC (xV 3) (aC (xCall p_fewest_clicks (aC (xV 0) (aC (xV 1) (aC (xIdx (xV 2) (xK (.int 0))) (aN))))) (aN)))) (xV 5) (xBin .Add (xV 3) (xCall p_clicks (aC (xV 0) (aC (xV 1) (aC (xIdx (xV 4) (xK (.int 0))) (aN))))))))) (sRet (xK (.bool false))) (sN)) (sC (sIf (tV (xCmp .NotEq (xCall p_from_setting (aC (xV 0) (aC (xIdx (xV 4) (xK (.int 0))) (aC (xV 2) (aN))))) (xV 3))) (sRet (xK (.bool false))) (sN)) (sC (sIf (tV (xCmp .NotEq (xCall p_from_setting (aC (xV 0) (aC (xV 1) (aC (xSli (xV 2) oN (oS (xK (.int 1)))) (aN))))) (xCall p_fewest_clicks (aC (xV 0) (aC (xV 1) (aC (xIdx (xV 2) (xK (.int 0))) (aN))))))) (sRet (xK (.bool false))) (sN)) (sC (sIf (tAnd (tV (xCmp .Eq (xBi .len (aC (xV 2) (aN))) (xK (.int 1)))) (tOr (tV (xCmp .NotEq (xV 3) (xK (.int 0)))) (tV (xCmp .NotEq (xV 4) (xSli (xCall p_right_settings (aC (xV 0) (aC (xIdx (xV 2) (xK (.int 0))) (aN)))) oN (oS (xK (.int 1)))))))) (sRet (xK (.bool false))) (sN)) (sC (sIf (tV (xCmp .Eq (xBi .len (aC (xV 2) (aN))) (xK (.int 2)))) (sC (sSet 7 (c__law_starts_1)) (sIf (tV (xCmp .NotEq (xV 3) (xBi .min (aC (xV 7) (aN))))) (sRet (xK (.bool false))) (sN))) (sN)) (sC (sSet 8 (xCall p_fewest_in_row (aC (xV 0) (aC (c__law_starts_2) (aN))))) (sC (sIf (tOr (tV (xCmp .NotEq (xBi .sorted (aC (xV 6) (aN))) (xRng1 (xBi .len (aC (xV 2) (aN)))))) (tV (xCmp .Gt (xV 8) (xV 3)))) (sRet (xK (.bool false))) (sN)) (sC (sIf (tAnd (tV (xCmp .Eq (xV 8) (xV 3))) (tV (xCmp .NotEq (xV 6) (xBi .tuple (aC (xRng1 (xBi .len (aC (xV 2) (aN)))) (aN)))))) (sRet (xK (.bool false))) (sN)) (sC (sIf (tNot (tV (xCmp .IsNot (xCall p_best_start (aC (xV 0) (aC (xBi .sorted (aC (xV 2) (aN))) (aN)))) (xK .none)))) (sRet (xK (.bool false))) (sN)) (sRet (xCmp .Eq (xCall p_fewest_in_row (aC (xV 0) (aC (xBin .Mult (xLst (aC (xIdx (xV 2) (xK (.int 0))) (aN))) (xK (.int 3))) (aN)))) (xK (.int 0))))))))))))
def p__law_starts : List PyData → Res PyData := runD 7 4 f__law_starts
/-- law('_law_script',) -/
def c_law_k62_1 : FE :=
  xComp (iRg 1 (aC (xBin .Add (xK (.int 1)) (xCall p__law_drawn (aC (xV 0) (aC (xK (.int 2)) (aC (xK (.int 3)) (aN)))))) (aN))) (.nm 9) (tYs) (xCall p__law_light_k52 (aC (xV 0) (aC (xBin .Add (xK (.int 30)) (xBin .Mult (xK (.int 3)) (xV 9))) (aC (xV 1) (aN))))) [9]
def c_law_k62_2 : FE :=
  xComp (iSq' (xV 3)) (.nm 10) (tV (xCmp .Eq (xCall p_right_settings (aC (xV 1) (aC (xV 10) (aN)))) (xLst (aN)))) (xV 10) [10]
def c_law_k62_3 : FE :=
  xComp (iEn (aC (xV 3) (aN))) (.tp [9, 10]) (tV (xCmp .NotIn (xIdx (xV 5) (xV 9)) (xCall p_right_settings (aC (xV 1) (aC (xV 10) (aN)))))) (xV 9) [9, 10]
def c_law_k62_4 : FE :=
  xComp (iZp (aC (xV 5) (aC (xSli (xV 5) (oS (xK (.int 1))) oN) (aN)))) (.tp [11, 12]) (tYs) (xCall p_clicks (aC (xV 1) (aC (xV 11) (aC (xV 12) (aN))))) [11, 12]
def f_law_k62 : FS :=
  sC (sSet 1 (xCall p__law_camera (aC (xV 0) (aC (xK (.int 10)) (aN))))) (sC (sSet 2 (xCall p__law_settings (aC (xV 1) (aN)))) (sC (sSet 3 (c_law_k62_1)) (sC (sUnp (.tp [4, 5]) (xTup (aC (xCall p_fewest_in_row (aC (xV 1) (aC (xV 3) (aN)))) (aC (xCall p_best_row (aC (xV 1) (aC (xV 3) (aN)))) (aN))))) (sC (sIf (tV (xCmp .NotEq (xCmp .Is (xV 4) (xK .none)) (xCmp .Is (xV 5) (xK .none)))) (sRet (xK (.bool false))) (sN)) (sC (sIf (tV (xCmp .NotEq (xCmp .Is (xV 5) (xK .none)) (xCmp .NotEq (c_law_k62_2) (xLst (aN))))) (sRet (xK (.bool false))) (sN)) (sC (sSet 6 (xIdx (xV 2) (xCall p__law_drawn (aC (xV 0) (aC (xK (.int 3)) (aC (xBi .len (aC (xV 2) (aN))) (aN))))))) (sC (sPar [7, 8] (aC (xCall p_from_setting (aC (xV 1) (aC (xV 6) (aC (xV 3) (aN))))) (aC (xCall p_best_start (aC (xV 1) (aC (xV 3) (aN)))) (aN)))) (sC (sIf (tOr (tV (xCmp .NotEq (xCmp .Is (xV 7) (xK .none)) (xCmp .Is (xV 4) (xK .none)))) (tV (xCmp .NotEq (xCmp .Is (xV 8) (xK .none)) (xCmp .Is (xV 4) (xK .none))))) (sRet (xK (.bool false))) (sN)) (sC (sIf (tV (xCmp .Is (xV 5) (xK .none))) (sC (sIf (tNot (tV (xCmp .Is (xCall p_fewest_in_row (aC (xV 1) (aC (xBin .Add (xV 3) (xSli (xV 3) oN (oS (xK (.int 1))))) (aN)))) (xK .none)))) (sRet (xK (.bool false))) (sN)) (sRet (xCmp .Is (xCall p_best_row (aC (xV 1) (aC (xRev (xV 3)) (aN)))) (xK .none)))) (sN)) (sC (sIf (tV (xCmp .NotEq (c_law_k62_3) (xLst (aN)))) (sRet (xK (.bool false))) (sN)) (sC (sIf (tV (xCmp .NotEq (xBi .len (aC (xV 5) (aN))) (xBi .len (aC (xV 3) (aN))))) (sRet (xK (.bool false))) (sN)) (sC (sIf (tV (xCmp .NotEq (xBi .sum (aC (c_law_k62_4) (aN))) (xV 4))) (sRet (xK (.bool false))) (sN)) (sC (sIf (tV (xCmp .NotEq (xCall p_fewest_in_row (aC (xV 1) (aC (xRev (xV 3)) (aN)))) (xV 4))) (sRet (xK (.bool false))) (sN)) (sC (sIf (tV (xCmp .NotEq (xCall p_fewest_in_row (aC (xV 1) (aC (xBin .Add (xV 3) (xSli (xV 3) (oS (xNeg (xK (.int 1)))) oN)) (aN)))) (xV 4))) (sRet (xK (.bool false))) (sN)) (sC (sIf (tV (xCmp .NotEq (xCall p_fewest_in_row (aC (xV 1) (aC (xBin .Add (xSli (xV 3) oN (oS (xNeg (xK (.int 1))))) (xBin .Mult (xSli (xV 3) (oS (xNeg (xK (.int 1)))) oN) (xK (.int 2)))) (aN)))) (xV 4))) (sRet (xK (.bool false))) (sN)) (sC (sIf (tAnd (tV (xCmp .Gt (xBi .len (aC (xV 3) (aN))) (xK (.int 1)))) (tV (xCmp .Gt (xCall p_fewest_in_row (aC (xV 1) (aC (xSli (xV 3) oN (oS (xNeg (xK (.int 1))))) (aN)))) (xV 4)))) (sRet (xK (.bool false))) (sN)) (sRet (xCall p__law_starts (aC (xV 1) (aC (xV 6) (aC (xV 3) (aC (xV 4) (aC (xV 5) (aC (xV 7) (aC (xV 8) (aN))))))))))))))))))))))))))
def p_law_k62 : List PyData → Res PyData := runD 1 12 f_law_k62
/-- _law_due('_law_camera_here', '_law_present', '_law_way', '_law_one', '_law_two') -/
def c__law_due_1 : FE :=
  xComp (iSq' (xCall p__law_right (aC (xV 0) (aC (xV 3) (aN))))) (.nm 10) (tYs) (xTup (aC (xCall p__law_clicks (aC (xV 0) (aC (xV 5) (aC (xV 10) (aN))))) (aC (xV 10) (aN)))) [10]
def f__law_due : FS :=
  sC (sUnp (.tp [5, 6]) (xV 1)) (sC (sIf (tV (xCmp .Eq (xV 2) (xK (.int 1)))) (sC (sSet 7 (xBi .sorted (aC (c__law_due_1) (aN)))) (sRet (xIf (tV (xCmp .NotEq (xV 7) (xLst (aN)))) (xTup (aC (xIdx (xIdx (xV 7) (xK (.int 0))) (xK (.int 0))) (aC (xTup (aC (xIdx (xIdx (xV 7) (xK (.int 0))) (xK (.int 1))) (aC (xBin .Add (xV 6) (xIdx (xIdx (xV 7) (xK (.int 0))) (xK (.int 0)))) (aN)))) (aN)))) (xTup (aC (xTup (aC (xK (.str "raised")) (aC (xK (.int 3)) (aN)))) (aC (xK .none) (aN))))))) (sN)) (sC (sSet 8 (xMt .lindex (xLst (aC (xK (.str "aperture")) (aC (xK (.str "time")) (aC (xK (.str "sensitivity")) (aN))))) (aC (xV 3) (aN)))) (sC (sSet 9 (xBin .Add (xIdx (xV 5) (xV 8)) (xBin .Mult (xV 4) (xIdx (xIdx (xV 0) (xV 8)) (xK (.int 2)))))) (sC (sIf (tNot (tV (xChain .LtE .LtE (xIdx (xIdx (xV 0) (xV 8)) (xK (.int 0))) (xV 9) (xIdx (xIdx (xV 0) (xV 8)) (xK (.int 1)))))) (sRet (xTup (aC (xTup (aC (xK (.str "raised")) (aC (xK (.int 3)) (aN)))) (aC (xK .none) (aN))))) (sN)) (sRet (xTup (aC (xV 9) (aC (xTup (aC (xBin .Add (xBin .Add (xSli (xV 5) oN (oS (xV 8))) (xTup (aC (xV 9) (aN)))) (xSli (xV 5) (oS (xBin .Add (xV 8) (xK (.int 1)))) oN)) (aC (xBin .Add (xV 6) (xK (.int 1))) (aN)))) (aN)))))))))
def p__law_due : List PyData → Res PyData := runD 5 6 f__law_due
/-- join_camera('camera',) -/
def c_join_camera_1 : FE :=
  xComp (iSq' (xV 0)) (.tp [1, 2, 3]) (tYs) (xBin .Add (xBin .Add (xBin .Add (xBin .Add (xBi .str (aC (xV 1) (aN))) (xK (.str "-"))) (xBi .str (aC (xV 2) (aN)))) (xK (.str "/"))) (xBi .str (aC (xV 3) (aN)))) [1, 2, 3]
def f_join_camera : FS :=
  sRet (xMt .join (xK (.str " ")) (aC (c_join_camera_1) (aN)))
def p_join_camera : List PyData → Res PyData := runD 1 3 f_join_camera
/-- format_camera('camera',) -/
def f_format_camera : FS :=
  sC (sExp (xCall p_check_camera (aC (xV 0) (aN)))) (sRet (xCall p_join_camera (aC (xV 0) (aN))))
def p_format_camera : List PyData → Res PyData := runD 1 0 f_format_camera
/-- read_int('text',) -/
def c_read_int_1 : FE :=
  xComp (iSq' (xV 0)) (.nm 1) (tYs) (xCmp .In (xV 1) (xK (.str "0123456789"))) [1]
def f_read_int : FS :=
  sC (sIf (tOr (tNot (tV (xChain .LtE .LtE (xK (.int 1)) (xBi .len (aC (xV 0) (aN))) (xK (.int 2))))) (tNot (tV (xBi .all (aC (c_read_int_1) (aN)))))) (sRet (xK .none)) (sN)) (sRet (xBi .int (aC (xV 0) (aN))))
def p_read_int : List PyData → Res PyData := runD 1 1 f_read_int
/-- read_wheel('text',) -/
def f_read_wheel : FS :=
  sC (sUnp (.tp [1, 2, 3]) (xMt .partition (xV 0) (aC (xK (.str "-")) (aN)))) (sC (sUnp (.tp [4, 5, 6]) (xMt .partition (xV 3) (aC (xK (.str "/")) (aN)))) (sRet (xTup (aC (xCall p_read_int (aC (xV 1) (aN))) (aC (xCall p_read_int (aC (xV 4) (aN))) (aC (xCall p_read_int (aC (xV 6) (aN))) (aN)))))))
def p_read_wheel : List PyData → Res PyData := runD 1 6 f_read_wheel
/-- parse_camera('text',) -/
def c_parse_camera_1 : FE :=
  xComp (iSq' (xMt .split (xV 0) (aC (xK (.str " ")) (aN)))) (.nm 2) (tYs) (xCall p_read_wheel (aC (xV 2) (aN))) [2]
def f_parse_camera : FS :=
  sC (sIf (tNot (tV (xIsi .str (xV 0)))) (sRse "ParseError") (sN)) (sC (sSet 1 (xBi .tuple (aC (c_parse_camera_1) (aN)))) (sC (sIf (tOr (tNot (tV (xCall p_is_camera (aC (xV 1) (aN))))) (tV (xCmp .NotEq (xCall p_join_camera (aC (xV 1) (aN))) (xV 0)))) (sRse "ParseError") (sN)) (sRet (xV 1))))
def p_parse_camera : List PyData → Res PyData := runD 1 2 f_parse_camera
/-- join_stops('number',) -/
def f_join_stops : FS :=
  sC (sPar [1, 2] (aC (xBin .FloorDiv (xBi .abs (aC (xV 0) (aN))) (xK (.int 3))) (aC (xBin .Mod (xBi .abs (aC (xV 0) (aN))) (xK (.int 3))) (aN)))) (sC (sSet 3 (xBin .Add (xIf (tOr (tV (xCmp .Gt (xV 1) (xK (.int 0)))) (tV (xCmp .Eq (xV 2) (xK (.int 0))))) (xLst (aC (xBi .str (aC (xV 1) (aN))) (aN))) (xLst (aN))) (xIf (tV (xCmp .Gt (xV 2) (xK (.int 0)))) (xLst (aC (xBin .Add (xBin .Add (xBi .str (aC (xV 2) (aN))) (xK (.str "/"))) (xBi .str (aC (xK (.int 3)) (aN)))) (aN))) (xLst (aN))))) (sRet (xBin .Add (xIf (tV (xCmp .Lt (xV 0) (xK (.int 0)))) (xK (.str "-")) (xK (.str ""))) (xMt .join (xK (.str " ")) (aC (xV 3) (aN))))))
def p_join_stops : List PyData → Res PyData := runD 1 3 f_join_stops
/-- stops('number',) -/
def f_stops : FS :=
  sC (sIf (tNot (tV (xCall p_is_int (aC (xV 0) (aC (xBin .Sub (xK (.int 0)) (xK (.int 180))) (aC (xK (.int 180)) (aN))))))) (sRse "InvalidNumber") (sN)) (sRet (xCall p_join_stops (aC (xV 0) (aN))))
def p_stops : List PyData → Res PyData := runD 1 0 f_stops
/-- read_stops('text',) -/
def l_read_stops_1 : FS :=
  sIf (tV (xCmp .Eq (xCall p_join_stops (aC (xV 1) (aN))) (xV 0))) (sRet (xV 1)) (sN)
def f_read_stops : FS :=
  sC (sIf (tV (xIsi .str (xV 0))) (sFor (.nm 1) (iRg 2 (aC (xBin .Sub (xK (.int 0)) (xK (.int 180))) (aC (xBin .Add (xK (.int 180)) (xK (.int 1))) (aN)))) (l_read_stops_1)) (sN)) (sRse "ParseError")
def p_read_stops : List PyData → Res PyData := runD 1 1 f_read_stops
/-- _law_text('_law_camera_here',) -/
def c__law_text_1 : FE :=
  xComp (iSq' (xV 0)) (.tp [1, 2, 3]) (tYs) (xBin .Add (xBin .Add (xBin .Add (xBin .Add (xBi .str (aC (xV 1) (aN))) (xK (.str "-"))) (xBi .str (aC (xV 2) (aN)))) (xK (.str "/"))) (xBi .str (aC (xV 3) (aN)))) [1, 2, 3]
def f__law_text : FS :=
  sRet (xMt .join (xK (.str " ")) (aC (c__law_text_1) (aN)))
def p__law_text : List PyData → Res PyData := runD 1 3 f__law_text
/-- _law_stops('_law_number',) -/
def f__law_stops : FS :=
  sC (sSet 1 (xIf (tV (xCmp .GtE (xV 0) (xK (.int 0)))) (xV 0) (xBin .Sub (xK (.int 0)) (xV 0)))) (sC (sSet 2 (xIdx (xLst (aC (xK (.str "")) (aC (xK (.str "1/3")) (aC (xK (.str "2/3")) (aN))))) (xBin .Mod (xV 1) (xK (.int 3))))) (sC (sIf (tV (xCmp .GtE (xV 1) (xK (.int 3)))) (sSet 2 (xBin .Add (xBi .str (aC (xBin .FloorDiv (xV 1) (xK (.int 3))) (aN))) (xIf (tV (xCmp .NotEq (xV 2) (xK (.str "")))) (xBin .Add (xK (.str " ")) (xV 2)) (xK (.str ""))))) (sN)) (sRet (xBin .Add (xIf (tV (xCmp .Lt (xV 0) (xK (.int 0)))) (xK (.str "-")) (xK (.str ""))) (xIf (tV (xCmp .NotEq (xV 2) (xK (.str "")))) (xV 2) (xK (.str "0")))))))
def p__law_stops : List PyData → Res PyData := runD 1 2 f__law_stops
/-- _law_again('_law_way', '_law_text_here') -/
def f__law_again : FS :=
  sTry excs_k68 (sRet (xIf (tV (xCmp .Eq (xV 0) (xK (.int 0)))) (xCall p__law_text (aC (xCall p_parse_camera (aC (xV 1) (aN))) (aN))) (xCall p__law_stops (aC (xCall p_read_stops (aC (xV 1) (aN))) (aN))))) 2 (fun a c => sRet (xIf (tV (xIsE 2 a (eqB c "ParseError"))) (xK .none) (xK (.str "another exception"))))
def p__law_again : List PyData → Res PyData := runD 2 1 f__law_again
/-- _law_rejected() -/
def c__law_rejected_1 : FE :=
  xComp (iSq' (xV 0)) (.nm 1) (tV (xCmp .IsNot (xCall p__law_again (aC (xK (.int 0)) (aC (xV 1) (aN)))) (xK .none))) (xV 1) [1]
def c__law_rejected_2 : FE :=
  xComp (iSq' (xV 0)) (.nm 1) (tV (xCmp .IsNot (xCall p__law_again (aC (xK (.int 1)) (aC (xV 1) (aN)))) (xK .none))) (xV 1) [1]
def f__law_rejected : FS :=
  sC (sSet 0 (xLst (aC (xK .none) (aC (xK (.int 7)) (aC (xK (.str "")) (aC (xK (.str "0-6/3 0-6/3")) (aC (xK (.str "0-6/3 0-6/3 0-6/3 0-6/3")) (aC (xK (.str "0-6/3 0-6/3 0-6/4")) (aN))))))))) (sC (sSet 0 (xBin .Add (xV 0) (xLst (aC (xK (.str "0-6/3 0-6/3 6-0/3")) (aC (xK (.str "00-6/3 0-6/3 0-6/3")) (aN)))))) (sC (sSet 0 (xBin .Add (xV 0) (xLst (aC (xK (.str "0-6/3  0-6/3 0-6/3")) (aC (xK (.str "0-6/3 0-6/3 0-6/3 ")) (aC (xK (.str "0-61/3 0-6/3 0-6/3")) (aN))))))) (sC (sSet 0 (xBin .Add (xV 0) (xLst (aC (xK (.str "0-6 0-6/3 0-6/3")) (aC (xK (.str "0/6-3 0-6/3 0-6/3")) (aC (xK (.str "a-6/3 0-6/3 0-6/3")) (aN))))))) (sC (sSet 0 (xBin .Add (xV 0) (xLst (aC (xK (.str "41-50/1 0-6/3 0-6/3")) (aC (xK (.str "0-13/1 0-6/3 0-6/3")) (aC (xTup (aC (xK (.str "0-6/3 0-6/3 0-6/3")) (aN))) (aN))))))) (sC (sSet 0 (xBin .Add (xV 0) (xLst (aC (xK (.str "0-6/3,0-6/3,0-6/3")) (aC (xK (.str "0-6/0 0-6/3 0-6/3")) (aN)))))) (sC (sIf (tV (xCmp .NotEq (c__law_rejected_1) (xLst (aN)))) (sRet (xK (.bool false))) (sN)) (sC (sSet 0 (xLst (aC (xK .none) (aC (xK (.int 7)) (aC (xK (.str "")) (aC (xK (.str "-")) (aC (xK (.str "-0")) (aC (xK (.str "3/3")) (aC (xK (.str "0/3")) (aC (xK (.str "0 1/3")) (aC (xK (.str "1  1/3")) (aC (xK (.str "1 1/3 ")) (aC (xK (.str " 1")) (aC (xK (.str "01")) (aN))))))))))))))) (sC (sSet 0 (xBin .Add (xV 0) (xLst (aC (xK (.str "61")) (aC (xK (.str "60 1/3")) (aC (xK (.str "1 3/3")) (aC (xK (.str "+1")) (aC (xK (.str "1.5")) (aC (xTup (aC (xK (.str "1")) (aN))) (aC (xK (.str "1/2")) (aC (xK (.str "2 -1/3")) (aN)))))))))))) (sRet (xCmp .Eq (c__law_rejected_2) (xLst (aN))))))))))))
def p__law_rejected : List PyData → Res PyData := runD 0 2 f__law_rejected
/-- _law_refused('_law_way', '_law_one') -/
def f__law_refused : FS :=
  sC (sTry excs_k68 (sExp (xPick [("format_camera", p_format_camera), ("stops", p_stops)] (xV 0) (aC (xV 1) (aN)))) 2 (fun a c => sRet (xIf (tV (xCmp .Eq (xV 0) (xK (.int 0)))) (xIsE 2 a (eqB c "InvalidCamera")) (xIsE 2 a (eqB c "InvalidNumber"))))) (sRet (xK (.bool false)))
def p__law_refused : List PyData → Res PyData := runD 2 1 f__law_refused
/-- law('_law_script',) -/
def l_law_k68_1 : FS :=
  sC (sSet 4 (xIdx (xLst (aC (xBin .Sub (xCall p__law_drawn (aC (xV 0) (aC (xBin .Add (xK (.int 30)) (xV 3)) (aC (xK (.int 361)) (aN))))) (xK (.int 180))) (aC (xBin .Sub (xCall p__law_drawn (aC (xV 0) (aC (xBin .Add (xK (.int 30)) (xV 3)) (aC (xK (.int 13)) (aN))))) (xK (.int 6))) (aN)))) (xBin .Mod (xV 3) (xK (.int 2))))) (sIf (tOr (tV (xCmp .NotEq (xCall p_stops (aC (xV 4) (aN))) (xCall p__law_stops (aC (xV 4) (aN))))) (tV (xCmp .NotEq (xCall p_read_stops (aC (xCall p__law_stops (aC (xV 4) (aN))) (aN))) (xV 4)))) (sRet (xK (.bool false))) (sN))
def l_law_k68_2 : FS :=
  sC (sSet 5 (xBin .Add (xK (.int 40)) (xBin .Mult (xK (.int 4)) (xV 3)))) (sC (sSet 6 (xIdx (xLst (aC (xV 2) (aC (xCall p__law_stops (aC (xV 4) (aN))) (aN)))) (xBin .Mod (xV 3) (xK (.int 2))))) (sC (sPar [7, 8] (aC (xCall p__law_drawn (aC (xV 0) (aC (xV 5) (aC (xBin .Add (xBi .len (aC (xV 6) (aN))) (xK (.int 1))) (aN))))) (aC (xIdx (xK (.str "13-/ 0")) (xCall p__law_drawn (aC (xV 0) (aC (xBin .Add (xV 5) (xK (.int 1))) (aC (xK (.int 6)) (aN)))))) (aN)))) (sC (sSet 9 (xIf (tV (xCmp .Eq (xCall p__law_drawn (aC (xV 0) (aC (xBin .Add (xV 5) (xK (.int 2))) (aC (xK (.int 3)) (aN))))) (xK (.int 0)))) (xK (.str "")) (xV 8))) (sC (sSet 10 (xBin .Add (xBin .Add (xSli (xV 6) oN (oS (xV 7))) (xV 9)) (xSli (xV 6) (oS (xBin .Add (xV 7) (xCall p__law_drawn (aC (xV 0) (aC (xBin .Add (xV 5) (xK (.int 3))) (aC (xK (.int 2)) (aN))))))) oN))) (sIf (tV (xCmp .NotIn (xCall p__law_again (aC (xBin .Mod (xV 3) (xK (.int 2))) (aC (xV 10) (aN)))) (xTup (aC (xK .none) (aC (xV 10) (aN)))))) (sRet (xK (.bool false))) (sN))))))
def f_law_k68 : FS :=
  sC (sSet 1 (xCall p__law_camera (aC (xV 0) (aC (xK (.int 10)) (aN))))) (sC (sSet 2 (xCall p__law_text (aC (xV 1) (aN)))) (sC (sIf (tOr (tV (xCmp .NotEq (xCall p_format_camera (aC (xV 1) (aN))) (xV 2))) (tOr (tV (xCmp .NotEq (xCall p_parse_camera (aC (xV 2) (aN))) (xV 1))) (tNot (tV (xCall0 p__law_rejected))))) (sRet (xK (.bool false))) (sN)) (sC (sFor (.nm 3) (iRg 1 (aC (xK (.int 6)) (aN))) (l_law_k68_1)) (sC (sFor (.nm 3) (iRg 1 (aC (xK (.int 8)) (aN))) (l_law_k68_2)) (sC (sIf (tNot (tV (xCall p__law_refused (aC (xK (.int 0)) (aC (xCall p__law_badcamera (aC (xV 0) (aC (xK (.int 1)) (aN)))) (aN)))))) (sRet (xK (.bool false))) (sN)) (sRet (xCall p__law_refused (aC (xK (.int 1)) (aC (xIdx (xLst (aC (xK .none) (aC (xNeg (xK (.int 181))) (aC (xK (.int 181)) (aC (xK (.bool true)) (aC (xK (.str "5")) (aN))))))) (xCall p__law_drawn (aC (xV 0) (aC (xK (.int 2)) (aC (xK (.int 5)) (aN)))))) (aN))))))))))
def p_law_k68 : List PyData → Res PyData := runD 1 10 f_law_k68
/-- naive_count('camera', 'brightness') -/
def l_naive_count_1 : FS :=
  sSet 2 (xBin .Add (xV 2) (xIf (tV (xCmp .Eq (xBin .Sub (xBin .Add (xV 3) (xV 4)) (xV 5)) (xV 1))) (xK (.int 1)) (xK (.int 0))))
def l_naive_count_2 : FS :=
  sFor (.nm 5) (iSq' (xCall p_wheel_values (aC (xIdx (xV 0) (xK (.int 2))) (aN)))) (l_naive_count_1)
def l_naive_count_3 : FS :=
  sFor (.nm 4) (iSq' (xCall p_wheel_values (aC (xIdx (xV 0) (xK (.int 1))) (aN)))) (l_naive_count_2)
def f_naive_count : FS :=
  sC (sExp (xCall p_check_both (aC (xV 0) (aC (xV 1) (aN))))) (sC (sSet 2 (xK (.int 0))) (sC (sFor (.nm 3) (iSq' (xCall p_wheel_values (aC (xIdx (xV 0) (xK (.int 0))) (aN)))) (l_naive_count_3)) (sRet (xV 2))))
def p_naive_count : List PyData → Res PyData := runD 2 4 f_naive_count
/-- neighbours('camera', 'setting') -/
def l_neighbours_1 : FS :=
  sIf (tV (xCmp .In (xV 5) (xCall p_wheel_values (aC (xV 4) (aN))))) (sApp 2 (xBin .Add (xBin .Add (xSli (xV 1) oN (oS (xV 3))) (xTup (aC (xV 5) (aN)))) (xSli (xV 1) (oS (xBin .Add (xV 3) (xK (.int 1)))) oN))) (sN)
def l_neighbours_2 : FS :=
  sFor (.nm 5) (iSq' (xTup (aC (xBin .Sub (xIdx (xV 1) (xV 3)) (xIdx (xV 4) (xK (.int 2)))) (aC (xBin .Add (xIdx (xV 1) (xV 3)) (xIdx (xV 4) (xK (.int 2)))) (aN))))) (l_neighbours_1)
def f_neighbours : FS :=
  sC (sSet 2 (xLst (aN))) (sC (sFor (.tp [3, 4]) (iEn (aC (xV 0) (aN))) (l_neighbours_2)) (sRet (xV 2)))
def p_neighbours : List PyData → Res PyData := runD 2 4 f_neighbours
/-- naive_clicks('camera', 'one', 'other') -/
def l_naive_clicks_1 : FS :=
  sIf (tV (xCmp .NotIn (xV 8) (xV 3))) (sC (sPut 3 (xV 8) (xK (.bool true))) (sApp 6 (xV 8))) (sN)
def l_naive_clicks_2 : FS :=
  sFor (.nm 8) (iSq' (xCall p_neighbours (aC (xV 0) (aC (xV 7) (aN))))) (l_naive_clicks_1)
def l_naive_clicks_3 : FS :=
  sC (sPar [5, 6] (aC (xBin .Add (xV 5) (xK (.int 1))) (aC (xLst (aN)) (aN)))) (sC (sFor (.nm 7) (iSq' (xV 4)) (l_naive_clicks_2)) (sSet 4 (xV 6)))
def f_naive_clicks : FS :=
  sC (sExp (xCall p_check_camera (aC (xV 0) (aN)))) (sC (sExp (xCall p_check_setting (aC (xV 0) (aC (xV 1) (aN))))) (sC (sExp (xCall p_check_setting (aC (xV 0) (aC (xV 2) (aN))))) (sC (sIf (tV (xCmp .Gt (xBi .len (aC (xCall p_all_settings (aC (xV 0) (aN))) (aN))) (xK (.int 200)))) (sRse "TooLarge") (sN)) (sC (sPar [3, 4, 5] (aC (xDt1 (xV 1) (xK (.bool true))) (aC (xLst (aC (xV 1) (aN))) (aC (xK (.int 0)) (aN))))) (sC (sWhl (tV (xCmp .NotIn (xV 2) (xV 3))) (l_naive_clicks_3)) (sRet (xV 5)))))))
def p_naive_clicks : List PyData → Res PyData := runD 3 6 f_naive_clicks
/-- _law_error('_law_way', '_law_one', '_law_two', '_law_three') -/
def f__law_error_k70 : FS :=
  sC (sTry excs_k70 (sIf (tV (xCmp .Eq (xV 0) (xK (.int 0)))) (sExp (xCall p_naive_count (aC (xV 1) (aC (xV 3) (aN))))) (sExp (xCall p_naive_clicks (aC (xV 1) (aC (xV 2) (aC (xV 3) (aN))))))) 4 (fun a c => sC (sSet 5 (xLst (aC (xIsE 4 a (eqB c "InvalidCamera")) (aC (xIsE 4 a (eqB c "InvalidBrightness")) (aN))))) (sC (sSet 5 (xBin .Add (xV 5) (xLst (aC (xIsE 4 a (eqB c "InvalidSetting")) (aN))))) (sRet (xMt .lindex (xBin .Add (xV 5) (xLst (aC (xIsE 4 a (eqB c "TooLarge")) (aN)))) (aC (xK (.bool true)) (aN))))))) (sRet (xK .none))
def p__law_error_k70 : List PyData → Res PyData := runD 4 2 f__law_error_k70
/-- law('_law_script',) -/
def l_law_k70_1 : FS :=
  sC (sSet 4 (xCall p__law_light_k52 (aC (xV 0) (aC (xBin .Add (xK (.int 30)) (xBin .Mult (xK (.int 3)) (xV 3))) (aC (xV 1) (aN)))))) (sC (sSet 5 (xBi .len (aC (xCall p__law_right (aC (xV 1) (aC (xV 4) (aN)))) (aN)))) (sIf (tOr (tV (xCmp .NotEq (xCall p_naive_count (aC (xV 1) (aC (xV 4) (aN)))) (xV 5))) (tV (xCmp .NotEq (xCall p_count_right (aC (xV 1) (aC (xV 4) (aN)))) (xV 5)))) (sRet (xK (.bool false))) (sN)))
def l_law_k70_2 : FS :=
  sC (sSet 6 (xIdx (xV 2) (xCall p__law_drawn (aC (xV 0) (aC (xBin .Add (xK (.int 50)) (xBin .Mult (xK (.int 2)) (xV 3))) (aC (xBi .len (aC (xV 2) (aN))) (aN))))))) (sC (sSet 7 (xIdx (xV 2) (xCall p__law_drawn (aC (xV 0) (aC (xBin .Add (xK (.int 51)) (xBin .Mult (xK (.int 2)) (xV 3))) (aC (xBi .len (aC (xV 2) (aN))) (aN))))))) (sC (sSet 5 (xCall p__law_clicks (aC (xV 1) (aC (xV 6) (aC (xV 7) (aN)))))) (sIf (tOr (tV (xCmp .NotEq (xCall p_naive_clicks (aC (xV 1) (aC (xV 6) (aC (xV 7) (aN))))) (xV 5))) (tV (xCmp .NotEq (xCall p_clicks (aC (xV 1) (aC (xV 6) (aC (xV 7) (aN))))) (xV 5)))) (sRet (xK (.bool false))) (sN))))
def f_law_k70 : FS :=
  sC (sSet 1 (xCall p__law_camera (aC (xV 0) (aC (xK (.int 10)) (aN))))) (sC (sSet 2 (xCall p__law_settings (aC (xV 1) (aN)))) (sC (sFor (.nm 3) (iRg 1 (aC (xK (.int 4)) (aN))) (l_law_k70_1)) (sC (sFor (.nm 3) (iRg 1 (aC (xK (.int 3)) (aN))) (l_law_k70_2)) (sC (sPar [8, 9] (aC (xCall p__law_badcamera (aC (xV 0) (aC (xK (.int 1)) (aN)))) (aC (xCall p__law_badsetting (aC (xV 0) (aC (xK (.int 2)) (aC (xV 1) (aN))))) (aN)))) (sC (sPar [10, 11] (aC (xIdx (xLst (aC (xK .none) (aC (xNeg (xK (.int 61))) (aC (xK (.int 121)) (aC (xK (.bool true)) (aC (xK (.str "5")) (aN))))))) (xCall p__law_drawn (aC (xV 0) (aC (xK (.int 3)) (aC (xK (.int 5)) (aN)))))) (aC (xBin .Mult (xTup (aC (xTup (aC (xK (.int 0)) (aC (xK (.int 5)) (aC (xK (.int 1)) (aN))))) (aN))) (xK (.int 3))) (aN)))) (sC (sSet 12 (xLst (aC (xCall p__law_error_k70 (aC (xK (.int 0)) (aC (xV 8) (aC (xK (.int 0)) (aC (xV 10) (aN)))))) (aC (xCall p__law_error_k70 (aC (xK (.int 1)) (aC (xV 8) (aC (xV 9) (aC (xV 9) (aN)))))) (aN))))) (sC (sSet 12 (xBin .Add (xV 12) (xLst (aC (xCall p__law_error_k70 (aC (xK (.int 0)) (aC (xV 1) (aC (xK (.int 0)) (aC (xV 10) (aN)))))) (aN))))) (sC (sSet 12 (xBin .Add (xV 12) (xLst (aC (xCall p__law_error_k70 (aC (xK (.int 1)) (aC (xV 1) (aC (xV 9) (aC (xV 9) (aN)))))) (aC (xCall p__law_error_k70 (aC (xK (.int 1)) (aC (xV 1) (aC (xIdx (xV 2) (xK (.int 0))) (aC (xV 9) (aN)))))) (aN)))))) (sRet (xCmp .Eq (xBin .Add (xV 12) (xLst (aC (xCall p__law_error_k70 (aC (xK (.int 1)) (aC (xV 11) (aC (xTup (aC (xK (.int 0)) (aC (xK (.int 0)) (aC (xK (.int 0)) (aN))))) (aC (xTup (aC (xK (.int 1)) (aC (xK (.int 1)) (aC (xK (.int 1)) (aN))))) (aN)))))) (aN)))) (xLst (aC (xK (.int 0)) (aC (xK (.int 0)) (aC (xK (.int 1)) (aC (xK (.int 2)) (aC (xK (.int 2)) (aC (xK (.int 3)) (aN))))))))))))))))))
def p_law_k70 : List PyData → Res PyData := runD 1 12 f_law_k70
/-- _law_lists('_law_camera_here', '_law_parts') -/
def c__law_lists_1 : FE :=
  xComp (iSq' (xV 0)) (.nm 4) (tYs) (xIdx (xV 4) (xK (.int 0))) [4]
def f__law_lists : FS :=
  sC (sSet 2 (xBi .tuple (aC (c__law_lists_1) (aN)))) (sC (sSet 3 (xCall p__law_number (aC (xV 2) (aN)))) (sRet (xLst (aC (xCall p_allowed (aC (xV 0) (aC (xTup (aC (xK (.int 0)) (aC (xK (.int 0)) (aC (xK (.int 60)) (aN))))) (aC (xV 3) (aN))))) (aC (xCall p_held (aC (xV 0) (aC (xV 2) (aC (xV 1) (aC (xK (.int 60)) (aN)))))) (aC (xCall p_best_row (aC (xV 0) (aC (xLst (aC (xV 3) (aC (xV 3) (aN)))) (aN)))) (aN)))))))
def p__law_lists : List PyData → Res PyData := runD 2 3 f__law_lists
end
end Bv
set_option Elab.async false
set_option linter.all false
set_option maxRecDepth 100000
set_option maxHeartbeats 1000000
namespace Bv
open PySem PySem.Spec L2
theorem is_int_int (n a b : Int) : p_is_int [.int n, .int a, .int b] = .ok (.bool (decide (a ≤ n) && decide (n ≤ b))) := by
  simp [p_is_int, runD, f_is_int, isiD]
  split
  · rename_i h; simp [h]
  · rename_i h; simp [h]
theorem is_int_none (a b : Int) : p_is_int [.none, .int a, .int b] = .ok (.bool false) := by
  simp [p_is_int, runD, f_is_int, isiD]
theorem is_int_str (s : Str) (a b : Int) : p_is_int [.str s, .int a, .int b] = .ok (.bool false) := by
  simp [p_is_int, runD, f_is_int, isiD]
theorem is_int_bool (s : Bool) (a b : Int) : p_is_int [.bool s, .int a, .int b] = .ok (.bool false) := by
  simp [p_is_int, runD, f_is_int, isiD]
/-- a wheel -/
abbrev W3 := Int × Int × Int
def wD (w : W3) : PyData := .tuple [.int w.1, .int w.2.1, .int w.2.2]
structure OkW (w : W3) : Prop where
  l0 : 0 ≤ w.1
  l1 : w.1 ≤ 40
  m0 : w.1 ≤ w.2.1
  m1 : w.2.1 ≤ 60
  s0 : 1 ≤ w.2.2
  s1 : w.2.2 ≤ 3
  n : (w.2.1 - w.1) / w.2.2 + 1 ≤ 13
theorem is_wheel_w {w : W3} (h : OkW w) : p_is_wheel [wD w] = .ok (.bool true) := by
  obtain ⟨l, m, s⟩ := w
  obtain ⟨h1, h2, h3, h4, h5, h6, h7⟩ := h
  (try dsimp only at h1 h2 h3 h4 h5 h6 h7)
  have e1 : (0 < s ∧ s < 1180591620717411303424) := by omega
  simp [p_is_wheel, runD, f_is_wheel, isiD, is_int_int, wD, h1, h2, h3, h4, h5, h6, bindT, setAll, e1, h7]
def cD (ws : List W3) : PyData := .tuple (ws.map wD)
structure OkC (ws : List W3) : Prop where
  len : ws.length = 3
  ok : ∀ w ∈ ws, OkW w
theorem is_camera_c {ws : List W3} (h : OkC ws) : p_is_camera [cD ws] = .ok (.bool true) := by
  have hc : c_is_camera_1 [some (.tuple (ws.map wD)), none] = .ok (.list (ws.map fun _ => .bool true)) := by
    refine xComp_map wD (fun _ => .bool true) (by simp) fun w hw => ⟨_, rfl, rfl, ?_, rfl⟩
    simp [wipeR, is_wheel_w (h.ok w hw)]
  simp [p_is_camera, runD, f_is_camera, hc, cD, isiD, k_NAMES, h.len, all_map (p := fun _ => true)]
theorem check_camera_c {ws : List W3} (h : OkC ws) : p_check_camera [cD ws] = .ok .none := by
  simp [p_check_camera, runD, f_check_camera, is_camera_c h]
def nV (w : W3) : Nat := ((w.2.1 - w.1) / w.2.2 + 1).toNat
def vals (w : W3) : List Int := (List.range (nV w)).map fun (i : Nat) => w.1 + (i : Int) * w.2.2
def eL (ns : List Int) : PyData := .list (ns.map .int)
theorem wheel_values_w {w : W3} (h : OkW w) : p_wheel_values [wD w] = .ok (eL (vals w)) := by
  obtain ⟨l, m, s⟩ := w
  obtain ⟨h1, h2, h3, h4, h5, h6, h7⟩ := h
  (try dsimp only at h1 h2 h3 h4 h5 h6 h7)
  have e0 : Builtin.Range.rangeSize l (m + 1) s = (m - l) / s + 1 := by
    unfold Builtin.Range.rangeSize
    rw [if_pos (show s > 0 by omega), if_pos (show l < m + 1 by omega)]
    congr 2
    omega
  have b0 : 0 ≤ (m - l) / s := Int.ediv_nonneg (by omega) (by omega)
  have e : rngL [.int l, .int (m + 1), .int s] = .ok (vals (l, m, s)) := by
    show (if s ≠ 0 ∧ s.natAbs < 1073741824 ∧ Builtin.Range.small l (m + 1) s = true ∧ (Builtin.Range.rangeSize l (m + 1) s).toNat ≤ 16777216 then
      Res.ok ((List.range (Builtin.Range.rangeSize l (m + 1) s).toNat).map fun (i : Nat) => l + (i : Int) * s) else .stuck) = _
    rw [if_pos]
    · rw [e0]
      rfl
    · refine ⟨by omega, by omega, ?_, by rw [e0]; omega⟩
      have b1 : (m - l) / s ≤ 12 := by omega
      have fit : ∀ x : Int, -100 ≤ x → x ≤ 100 → Builtin.Range.rangeFitsLong x = true := fun x h1 h2 => by
        unfold Builtin.Range.rangeFitsLong
        simp
        omega
      unfold Builtin.Range.small
      rw [e0, fit l (by omega) (by omega), fit (m + 1) (by omega) (by omega), fit s (by omega) (by omega), fit ((m - l) / s + 1) (by omega) (by omega), if_pos (show s > 0 by omega), fit (m + 1 + (s - 1)) (by omega) (by omega)]
      simp
  simp [p_wheel_values, runD, f_wheel_values, wD, bindT, setAll, e, eL]
def eS (l : List Int) : PyData := .tuple (l.map .int)
theorem isEn_eS : IsEn eS 1 := isEn_tup isEn_int
def grow (w : W3) (found : List (List Int)) : List (List Int) := found.flatMap fun b => (vals w).map fun v => b ++ [v]
def sets (ws : List W3) : List (List Int) := ws.foldl (fun found w => grow w found) [[]]
theorem nV_le {w : W3} (h : OkW w) : nV w ≤ 13 := by
  have := h.n
  unfold nV
  omega
theorem vals_len (w : W3) : (vals w).length = nV w := by simp [vals]
theorem grow_len (w : W3) (found : List (List Int)) : (grow w found).length = found.length * nV w := by
  unfold grow
  rw [List.length_flatMap]
  simp [vals_len, List.map_const']
theorem grow_each {w : W3} {found : List (List Int)} {n : Nat} (h : ∀ b ∈ found, b.length = n) : ∀ b ∈ grow w found, b.length = n + 1 := by
  intro b hb
  unfold grow at hb
  rw [List.mem_flatMap] at hb
  obtain ⟨a, ha, hb⟩ := hb
  rw [List.mem_map] at hb
  obtain ⟨v, _, rfl⟩ := hb
  rw [List.length_append, h a ha]
  rfl
theorem sets_snoc (pre : List W3) (w : W3) : sets (pre ++ [w]) = grow w (sets pre) := by
  unfold sets
  rw [List.foldl_append]
  rfl
theorem sets_size (pre : List W3) : (∀ w ∈ pre, OkW w) → (sets pre).length ≤ 13 ^ pre.length := by
  refine snoc_ind (P := fun pre => (∀ w ∈ pre, OkW w) → (sets pre).length ≤ 13 ^ pre.length) (fun _ => by decide) (fun pre w ih h => ?_) pre
  rw [sets_snoc, grow_len, List.length_append]
  exact Nat.mul_le_mul (ih fun w hw => h w (List.mem_append_left _ hw)) (nV_le (h w (by simp)))
theorem sets_each (pre : List W3) : ∀ b ∈ sets pre, b.length = pre.length := by
  refine snoc_ind (P := fun pre => ∀ b ∈ sets pre, b.length = pre.length) (fun b hb => ?_) (fun pre w ih => ?_) pre
  · simp [sets] at hb
    rw [hb]
    rfl
  · rw [sets_snoc, List.length_append]
    exact grow_each ih
theorem grow_map (w : W3) (found : List (List Int)) : (found.filter fun _ => true).flatMap (fun b => ((vals w).filter fun _ => true).map fun v => eS (b ++ [v])) = (grow w found).map eS := by
  unfold grow
  rw [List.filter_eq_self.mpr fun _ _ => rfl, List.filter_eq_self.mpr fun _ _ => rfl, List.map_flatMap]
  congr 1
  funext b
  rw [List.map_map]
  rfl
theorem all_settings_c {ws : List W3} (h : OkC ws) : p_all_settings [cD ws] = .ok (.list ((sets ws).map eS)) := by
  refine runD_rt rfl (sC_nx (sSet_ok (d := .list [.tuple []]) (by simp [lstM_of])) ?_)
  obtain ⟨ρ', h1, x, hx⟩ := sFor_pre (fi := iSq' (xV 0)) (T := .nm 2) (f := l_all_settings_1) (ρ := [some (cD ws), some (.list [.tuple []]), none, none, none])
    wD (fun pre ρ => ∃ x : Option PyData, ρ = [some (cD ws), some (.list ((sets pre).map eS)), x, none, none]) (xs := ws) (by simp [cD]) ⟨none, rfl⟩ (by
      rintro pre w post ρ hw ⟨x, rfl⟩
      have okw : OkW w := h.ok w (by rw [hw]; simp)
      have okp : ∀ v ∈ pre, OkW v := fun v hv => h.ok v (by rw [hw]; simp [hv])
      have lp : pre.length ≤ 2 := by
        have := h.len
        rw [hw, List.length_append, List.length_cons] at this
        omega
      refine ⟨_, _, rfl, sSet_ok (d := .list ((sets (pre ++ [w])).map eS)) ?_, _, rfl⟩
      have key := xComp2_fm (ρ := [some (cD ws), some (.list ((sets pre).map eS)), some (wD w), none, none]) (fi := iSq' (xV 1)) (T := .nm 3) (ft := tYs) (fj := iSq' (xCall p_wheel_values (aC (xV 2) (aN)))) (T1 := .nm 4) (vs1 := [4]) (ft1 := tYs) (fe := xBin .Add (xV 3) (xTup (aC (xV 4) (aN)))) (vs := [3, 4])
        eS PyData.int (fun _ => true) (fun _ => vals w) (fun _ _ => true) (fun b v => eS (b ++ [v])) (xs := sets pre) (by simp) (fun b hb => ⟨_, rfl, rfl, fun _ => ⟨by simp [wipeR, wheel_values_w okw, eL], fun v hv => ⟨_, rfl, rfl, fun _ => ⟨?_, rfl⟩⟩⟩⟩) ?_
      · rw [grow_map, ← sets_snoc] at key
        exact key
      · have : b.length + 1 ≤ sizeLine := by
          rw [sets_each pre b hb, sizeLine_eq]; omega
        simp [wipeR, tupM_of, eS, this]
      · rw [grow_map, List.length_map, ← sets_snoc]
        refine Nat.le_trans (sets_size _ fun v hv => ?_) (Nat.le_trans (Nat.pow_le_pow_right (by decide) (show (pre ++ [w]).length ≤ 3 by rw [List.length_append]; simp; omega)) (by decide))
        rcases List.mem_append.mp hv with z | z
        · exact okp v z
        · rw [List.mem_singleton.mp z]; exact okw)
  refine sC_nx h1 ?_
  subst hx
  exact sRet_ok rfl
end Bv
set_option Elab.async false
set_option linter.all false
set_option maxRecDepth 100000
set_option maxHeartbeats 1000000
namespace Bv
open PySem PySem.Spec L2
theorem zipD_map {α β : Type} (e1 : α → PyData) (e2 : β → PyData) : ∀ (l : List α) (m : List β), zipD (l.map e1) (m.map e2) = (l.zip m).map fun p => .tuple [e1 p.1, e2 p.2]
  | [], _ => rfl
  | _ :: _, [] => rfl
  | a :: l, b :: m => by
    have ih := zipD_map e1 e2 l m
    unfold zipD at ih ⊢
    rw [List.map_cons, List.map_cons, List.zip_cons_cons, List.map_cons, ih, List.zip_cons_cons, List.map_cons]
theorem count_settings_c {ws : List W3} (h : OkC ws) : p_count_settings [cD ws] = .ok (.int (sets ws).length) := by
  simp [p_count_settings, runD, f_count_settings, check_camera_c h, all_settings_c h]
def itm (d : PyData) (w : W3) : Bool := match d with
  | .int v => decide (0 ≤ v) && decide (v ≤ 60) && decide (v ∈ vals w)
  | _ => false
def okI : PyData → Bool
  | .int _ => true
  | .none => true
  | .str _ => true
  | _ => false
theorem has_setting_g {ws : List W3} (h : OkC ws) {ds : List PyData} (hl : ds.length = 3) (hk : ∀ d ∈ ds, okI d = true) : p_has_setting [cD ws, .tuple ds] = .ok (.bool ((ds.zip ws).all fun p => itm p.1 p.2)) := by
  have hz : zipD ds (ws.map wD) = (ds.zip ws).map fun p => .tuple [p.1, wD p.2] := by
    have := zipD_map (fun d : PyData => d) wD ds ws
    simpa using this
  have hc : c_has_setting_1 [some (.tuple (ws.map wD)), some (.tuple ds), none, none, none]
      = .ok (.list ((ds.zip ws).map fun p => .bool (itm p.1 p.2))) := by
    refine xComp_map (fun p : PyData × W3 => .tuple [p.1, wD p.2]) (fun p => .bool (itm p.1 p.2)) ?_ fun p hp => ⟨_, rfl, rfl, ?_, rfl⟩
    · have : (3 : Nat) ≤ sizeLine := by rw [sizeLine_eq]; omega
      simp [zip2D, hl, this, hz]
    · obtain ⟨d, w⟩ := p
      obtain ⟨h1, h2⟩ := List.of_mem_zip hp
      have hw := wheel_values_w (h.ok w h2)
      have hi := hk d h1
      cases d with
      | int v =>
        have hin := in_en isEn_int (by omega) v (vals w)
        simp [wipeR, setAll, is_int_int, hw, eL, itm]
        split
        · rename_i c; simp [c, hin]
        · rename_i c
          have : (decide (0 ≤ v) && decide (v ≤ 60)) = false := by
            cases q : decide (0 ≤ v) && decide (v ≤ 60)
            · rfl
            · simp at q; exact absurd q c
          simp [this]
      | none => simp [wipeR, setAll, is_int_none, itm]
      | str s => simp [wipeR, setAll, is_int_str, itm]
      | _ => cases hi
  simp [p_has_setting, runD, f_has_setting, hc, cD, isiD, k_NAMES, hl, all_map]
theorem has_setting_n {ws : List W3} {ds : List PyData} (hl : ds.length ≠ 3) : p_has_setting [cD ws, .tuple ds] = .ok (.bool false) := by
  have : ¬ ((ds.length : Int) = 3) := by omega
  simp [p_has_setting, runD, f_has_setting, isiD, k_NAMES, this]
theorem has_setting_none {ws : List W3} : p_has_setting [cD ws, .none] = .ok (.bool false) := by
  simp [p_has_setting, runD, f_has_setting, isiD]
theorem has_setting_list {ws : List W3} {l : List PyData} : p_has_setting [cD ws, .list l] = .ok (.bool false) := by
  simp [p_has_setting, runD, f_has_setting, isiD]
theorem vals_60 {w : W3} (h : OkW w) {v : Int} (hv : v ∈ vals w) : 0 ≤ v ∧ v ≤ 60 := by
  unfold vals at hv
  rw [List.mem_map] at hv
  obtain ⟨i, hi, rfl⟩ := hv
  rw [List.mem_range] at hi
  have h0 := h.l0
  have h1 := h.m1
  have h2 := h.s0
  have hd : (i : Int) ≤ (w.2.1 - w.1) / w.2.2 := by
    unfold nV at hi
    omega
  have h3 : (i : Int) * w.2.2 ≤ (w.2.1 - w.1) / w.2.2 * w.2.2 := Int.mul_le_mul_of_nonneg_right hd (by omega)
  have h4 : (w.2.1 - w.1) / w.2.2 * w.2.2 ≤ w.2.1 - w.1 := Int.ediv_mul_le _ (by omega)
  have h5 : 0 ≤ (i : Int) * w.2.2 := Int.mul_nonneg (by omega) (by omega)
  omega
/-- whether ints are a setting -/
def isS (ws : List W3) (s : List Int) : Bool := decide (s ∈ sets ws)
theorem mem_grow {w : W3} {found : List (List Int)} {s : List Int} : s ∈ grow w found ↔ ∃ b ∈ found, ∃ v ∈ vals w, s = b ++ [v] := by
  unfold grow
  simp only [List.mem_flatMap, List.mem_map]
  constructor
  · rintro ⟨b, hb, v, hv, rfl⟩; exact ⟨b, hb, v, hv, rfl⟩
  · rintro ⟨b, hb, v, hv, rfl⟩; exact ⟨b, hb, v, hv, rfl⟩
theorem mem_sets3 {w1 w2 w3 : W3} {s : List Int} : s ∈ sets [w1, w2, w3] ↔ ∃ a ∈ vals w1, ∃ b ∈ vals w2, ∃ c ∈ vals w3, s = [a, b, c] := by
  have e : sets [w1, w2, w3] = grow w3 (grow w2 (grow w1 [[]])) := rfl
  rw [e, mem_grow]
  constructor
  · rintro ⟨b, hb, c, hc, rfl⟩
    obtain ⟨a, ha, b2, hb2, rfl⟩ := mem_grow.mp hb
    obtain ⟨z, hz, a2, ha2, rfl⟩ := mem_grow.mp ha
    simp at hz
    subst hz
    exact ⟨a2, ha2, b2, hb2, c, hc, rfl⟩
  · rintro ⟨a, ha, b, hb, c, hc, rfl⟩
    exact ⟨[a, b], mem_grow.mpr ⟨[a], mem_grow.mpr ⟨[], by simp, a, ha, rfl⟩, b, hb, rfl⟩, c, hc, rfl⟩
theorem three {ws : List W3} (h : OkC ws) : ∃ w1 w2 w3, ws = [w1, w2, w3] := by
  have := h.len
  match ws, this with
  | [a, b, c], _ => exact ⟨a, b, c, rfl⟩
theorem mem_sets {ws : List W3} (h : OkC ws) {a b c : Int} : decide ([a, b, c] ∈ sets ws) = (([.int a, .int b, .int c] : List PyData).zip ws).all fun p => itm p.1 p.2 := by
  obtain ⟨w1, w2, w3, rfl⟩ := three h
  have o1 := h.ok w1 (by simp)
  have o2 := h.ok w2 (by simp)
  have o3 := h.ok w3 (by simp)
  have one : ∀ (w : W3) (v : Int), OkW w → itm (.int v) w = decide (v ∈ vals w) := fun w v o => by
    unfold itm
    by_cases hv : v ∈ vals w
    · obtain ⟨h1, h2⟩ := vals_60 o hv
      simp [hv, h1, h2]
    · simp [hv]
  simp only [List.zip_cons_cons, List.zip_nil_right, List.all_cons, List.all_nil, Bool.and_true]
  rw [one w1 a o1, one w2 b o2, one w3 c o3, ← Bool.decide_and, ← Bool.decide_and]
  refine decide_eq_decide.mpr ?_
  rw [mem_sets3]
  constructor
  · rintro ⟨x, hx, y, hy, z, hz, e⟩
    injection e with e1 e; injection e with e2 e; injection e with e3 _
    subst e1 e2 e3
    exact ⟨hx, hy, hz⟩
  · rintro ⟨ha, hb, hc⟩
    exact ⟨a, ha, b, hb, c, hc, rfl⟩
theorem has_setting_i {ws : List W3} (h : OkC ws) (a b c : Int) : p_has_setting [cD ws, eS [a, b, c]] = .ok (.bool (decide ([a, b, c] ∈ sets ws))) := by
  rw [mem_sets h]
  exact has_setting_g h rfl fun d hd => by
    simp at hd
    rcases hd with rfl | rfl | rfl <;> rfl
theorem set3 {ws : List W3} (h : OkC ws) {s : List Int} (hs : s ∈ sets ws) : ∃ a b c, s = [a, b, c] := by
  have := sets_each ws s hs
  rw [h.len] at this
  match s, this with
  | [a, b, c], _ => exact ⟨a, b, c, rfl⟩
theorem has_setting_s {ws : List W3} (h : OkC ws) {s : List Int} (hs : s ∈ sets ws) : p_has_setting [cD ws, eS s] = .ok (.bool true) := by
  obtain ⟨a, b, c, rfl⟩ := set3 h hs
  rw [has_setting_i h, decide_eq_true hs]
theorem check_setting_s {ws : List W3} (h : OkC ws) {s : List Int} (hs : s ∈ sets ws) : p_check_setting [cD ws, eS s] = .ok .none := by
  simp [p_check_setting, runD, f_check_setting, has_setting_s h hs]
theorem check_light_i {b : Int} (h1 : -60 ≤ b) (h2 : b ≤ 120) : p_check_light [.int b] = .ok .none := by
  simp [p_check_light, runD, f_check_light, is_int_int, h1, h2]
def num : List Int → Int
  | [a, b, c] => a + b - c
  | _ => 0
theorem find_exposure_3 (a b c : Int) : p_find_exposure [eS [a, b, c]] = .ok (.int (a + b - c)) := by
  simp [p_find_exposure, runD, f_find_exposure, eS]
theorem find_exposure_s {ws : List W3} (h : OkC ws) {s : List Int} (hs : s ∈ sets ws) : p_find_exposure [eS s] = .ok (.int (num s)) := by
  obtain ⟨a, b, c, rfl⟩ := set3 h hs
  exact find_exposure_3 a b c
end Bv
set_option Elab.async false
set_option linter.all false
set_option maxRecDepth 100000
set_option maxHeartbeats 1000000
namespace Bv
open PySem PySem.Spec L2
theorem depth_ints (ns : List Int) : PyData.depthAll (ns.map .int) = 0 := by
  have := depthAll_map isEn_int ns
  omega
theorem scr_ne_nil (ns : List Int) : cmpD .NotEq (scrD (ns.map .int)) (.list []) = .ok (.bool (!ns.isEmpty)) := by
  show (if SeqAt.shaped (.list (ns.map .int)) && SeqAt.shaped (.list []) then Res.ok (PyData.bool (PyData.eqv (.list (ns.map .int)) (.list []) != true)) else .stuck) = _
  have s1 : SeqAt.shaped (.list (ns.map .int)) = true := shaped_en (isEn_list isEn_int) (by omega) ns
  have s2 : SeqAt.shaped (.list []) = true := rfl
  rw [s1, s2]
  cases ns <;> rfl
theorem scr_at {ns : List Int} (h : ns ≠ []) {k : Int} (hk : 0 ≤ k) : ∃ c, idxD (scrD (ns.map .int)) (.int (k % (ns.length : Int))) = .ok (.int c) := by
  have hl : 0 < ns.length := List.length_pos_iff.mpr h
  have h1 := Int.emod_nonneg k (show (ns.length : Int) ≠ 0 by omega)
  have h2 := Int.emod_lt_of_pos k (show (0 : Int) < ns.length by omega)
  obtain ⟨j, hj⟩ := Int.eq_ofNat_of_zero_le h1
  have hj2 : j < ns.length := by omega
  refine ⟨ns[j], ?_⟩
  rw [hj]
  exact idx_scr (by rw [List.getElem?_map, List.getElem?_eq_getElem hj2]; rfl)
noncomputable abbrev pickW : FS := sWhl (tAnd (tV (xCmp .Gt (xV 4) (xK (.int 0)))) (tV (xCmp .Gt (xV 5) (xK (.int 0))))) l__law_pick_1
theorem pick_loop (d0 d1 d2 d3 : PyData) (x : Option PyData) : ∀ (n : Nat) (r a : Int), a.toNat = n → ∃ r' a', pickW [some d0, some d1, some d2, some d3, some (.int r), some (.int a), x] = .nx [some d0, some d1, some d2, some d3, some (.int r'), some (.int a'), x]
  | 0, r, a, h => ⟨r, a, sWhl_f (by
    have : ¬ 0 < a := by omega
    simp [this])⟩
  | n + 1, r, a, h => by
    by_cases hr : 0 < r
    · obtain ⟨r', a', e⟩ := pick_loop d0 d1 d2 d3 x n (r / 840) (a - 1) (by omega)
      have ha : 0 < a := by omega
      exact ⟨r', a', (sWhl_t (by simp [hr, ha]) (by simp [l__law_pick_1])).trans e⟩
    · exact ⟨r, a, sWhl_f (by simp [hr])⟩
theorem pick_ok {ns : List Int} (hn : ns.length ≤ 63) {k many : Int} (hk : 0 ≤ k) (hm : 0 < many) : ∃ v, 0 ≤ v ∧ v < many ∧ p__law_pick [scrD (ns.map .int), .int k, .int many] = .ok (.int v) := by
  have hcell : ∃ c, xIf (tV (xCmp .NotEq (xV 0) (xLst (aN)))) (xIdx (xV 0) (xBin .Mod (xV 1) (xBi .len (aC (xV 0) (aN))))) (xK (.int 0)) [some (scrD (ns.map .int)), some (.int k), some (.int many), none, none, none, none] = .ok (.int c) := by
    have z := scr_ne_nil ns
    by_cases h : ns = []
    · subst h
      refine ⟨0, ?_⟩
      rw [List.map_nil] at z ⊢
      simp only [xIf_ap, tV_ap, xCmp_ap, xV_ap, gv_0, xLst_ap, aN_ap, Res.ok_bind, lstM_0, z]
      rfl
    · obtain ⟨c, hc⟩ := scr_at h hk
      have hl : (0 : Int) < ns.length := by
        have := List.length_pos_iff.mpr h
        omega
      have he : ns.isEmpty = false := by cases ns with
        | nil => exact absurd rfl h
        | cons _ _ => rfl
      refine ⟨c, ?_⟩
      simp only [xIf_ap, tV_ap, xCmp_ap, xV_ap, gv_0, gv_1, xLst_ap, aN_ap, Res.ok_bind, lstM_0, z, he, toB_b, Bool.not_false, if_pos, xIdx_ap, xBin_ap, xBi_ap, aC_ap, len_scr, List.length_map, modD_int, hl, hc]
  obtain ⟨c, hc⟩ := hcell
  obtain ⟨q, hq1, hq2⟩ : ∃ q, binD .FloorDiv (.int k) (.int (if (1 : Int) > (ns.length : Int) then 1 else (ns.length : Int))) = .ok (.int q) ∧ True := by
    rw [fdivD_int, if_pos (by split <;> omega)]
    exact ⟨_, rfl, trivial⟩
  have e1 : sPar [4, 5] (aC (xBin .FloorDiv (xV 3) (xBin .Pow (xK (.int 10)) (xK (.int 18)))) (aC (xBin .FloorDiv (xV 1) (xBi .max (aC (xBi .len (aC (xV 0) (aN))) (aC (xK (.int 1)) (aN))))) (aN))) [some (scrD (ns.map .int)), some (.int k), some (.int many), some (.int c), none, none, none]
      = .nx [some (scrD (ns.map .int)), some (.int k), some (.int many), some (.int c), some (.int (c / 1000000000000000000)), some (.int q), none] := by
    simp [parM, setAll]
    simp only [gt_iff_lt] at hq1
    rw [fdivD_int] at hq1
    simp [hq1]
  obtain ⟨r', a', e2⟩ := pick_loop (scrD (ns.map .int)) (.int k) (.int many) (.int c) none _ (c / 1000000000000000000) q rfl
  by_cases hr : 0 < r'
  · have m1 := Int.emod_nonneg (r' % 840) (show many ≠ 0 by omega)
    have m2 := Int.emod_lt_of_pos (r' % 840) hm
    refine ⟨r' % 840 % many, m1, m2, runD_rt rfl (sC_nx (sSet_ok hc) (sC_nx e1 (sC_nx e2 (sC_rt (sIf_t (by simp [hr]) (sRet_ok (by simp [hm])))))))⟩
  · have d1 := Int.emod_nonneg ((c * 31 + 6151 * (k + 1)) * 40692) (show (2147483399 : Int) ≠ 0 by decide)
    have d2 := Int.emod_lt_of_pos ((c * 31 + 6151 * (k + 1)) * 40692) (show (0 : Int) < 2147483399 by decide)
    obtain ⟨d, hd⟩ : ∃ d, d = (c * 31 + 6151 * (k + 1)) * 40692 % 2147483399 := ⟨_, rfl⟩
    rw [← hd] at d1 d2
    have m1 := Int.emod_nonneg ((d * d + d / 31) % 2147483629) (show many ≠ 0 by omega)
    have m2 := Int.emod_lt_of_pos ((d * d + d / 31) % 2147483629) hm
    refine ⟨_, m1, m2, runD_rt rfl (sC_nx (sSet_ok hc) (sC_nx e1 (sC_nx e2 (sC_nx (sIf_f (by simp [hr]) rfl) (sC_nx (sSet_ok (d := .int d) (by simp [hd])) (sRet_ok ?_))))))⟩
    have b : (-18446744073709551616 < d ∧ d < 18446744073709551616) := by omega
    simp [b, hm]
end Bv
set_option Elab.async false
set_option linter.all false
set_option maxRecDepth 100000
set_option maxHeartbeats 1000000
namespace Bv
open PySem PySem.Spec L2
@[simp] theorem rngL_1 {n : Int} (h : -16777216 ≤ n) (h2 : n ≤ 16777216) : rngL [.int n] = .ok ((List.range n.toNat).map fun (i : Nat) => (i : Int)) := by
  show (if n ≤ 16777216 ∧ -16777216 ≤ n then _ else _) = _
  rw [if_pos ⟨h2, h⟩]
@[simp] theorem rngL_2 {a b : Int} (h : -1000000 ≤ a) (h2 : a ≤ 1000000) (h3 : -1000000 ≤ b) (h4 : b ≤ 1000000) : rngL [.int a, .int b] = .ok ((List.range (b - a).toNat).map fun (i : Nat) => a + (i : Int)) := by
  show (if a ≤ 1000000 ∧ -1000000 ≤ a ∧ b ≤ 1000000 ∧ -1000000 ≤ b then _ else _) = _
  rw [if_pos ⟨h2, h, h4, h3⟩]
/-- a camera that the laws draw: few values a wheel -/
structure OkB (m : Int) (w : W3) : Prop where
  ok : OkW w
  n : (nV w : Int) ≤ m
  l : w.1 ≤ 22
theorem box_ok {ns : List Int} (hn : ns.length ≤ 63) {at_ m : Int} (ha : 0 ≤ at_) (hm : 1 ≤ m) (hm2 : m ≤ 13) : ∃ ws : List W3, ws.length = 3 ∧ (∀ w ∈ ws, OkB m w) ∧ p__law_box [scrD (ns.map .int), .int at_, .int m] = .ok (cD ws) := by
  have loop := sFor_pre (fi := iRg 1 (aC (xK (.int 3)) (aN))) (T := .nm 4) (f := l__law_box_1)
    (ρ := [some (scrD (ns.map .int)), some (.int at_), some (.int m), some (.list []), none, none, none, none, none])
    PyData.int (fun pre ρ => ∃ (x4 x5 x6 x7 x8 : Option PyData) (ws : List W3), ws.length = pre.length ∧ (∀ w ∈ ws, OkB m w) ∧ ρ = [some (scrD (ns.map .int)), some (.int at_), some (.int m), some (.list (ws.map wD)), x4, x5, x6, x7, x8]) (xs := [0, 1, 2]) (by simp; rfl)
    ⟨none, none, none, none, none, [], rfl, fun _ h => absurd h List.not_mem_nil, rfl⟩ (by
      rintro pre k post ρ hx ⟨x4, x5, x6, x7, x8, ws, hl, hw, rfl⟩
      have hk : 0 ≤ k := by
        have : k ∈ ([0, 1, 2] : List Int) := by rw [hx]; simp
        simp at this
        omega
      have hpl : pre.length ≤ 2 := by
        have := congrArg List.length hx
        simp at this
        omega
      obtain ⟨l, l0, l1, e1⟩ := pick_ok hn (k := at_ + 4 * k) (many := 23) (by omega) (by omega)
      obtain ⟨s, s0, s1, e2⟩ := pick_ok hn (k := at_ + 4 * k + 1) (many := 3) (by omega) (by omega)
      obtain ⟨n, n0, n1, e3⟩ := pick_ok hn (k := at_ + 4 * k + 2) (many := m) (by omega) (by omega)
      obtain ⟨r, r0, r1, e4⟩ := pick_ok hn (k := at_ + 4 * k + 3) (many := 1 + s) (by omega) (by omega)
      refine ⟨_, _, rfl, sC_nx (ρ1 := [some (scrD (ns.map .int)), some (.int at_), some (.int m), some (.list (ws.map wD)), some (.int k), some (.int l), some (.int (1 + s)), x7, x8]) (by simp [e1, e2]) (sC_nx (sSet_ok (d := .int n) (by simp [e3])) (sC_nx (sSet_ok (d := .int r) (by simp [e4])) (?_ : _ = SR.nx [some (scrD (ns.map .int)), some (.int at_), some (.int m), some (.list ((ws ++ [(l, l + (1 + s) * n + r, 1 + s)]).map wD)), some (.int k), some (.int l), some (.int (1 + s)), some (.int n), some (.int r)]))), _, _, _, _, _, ws ++ [(l, l + (1 + s) * n + r, 1 + s)], by simp [hl], ?_, rfl⟩
      · have b : (-18446744073709551616 < 1 + s ∧ 1 + s < 18446744073709551616) := by omega
        simp [b, tupM_of]
        rw [appD_l rfl (by simp; omega)]
        simp [wD]
      · have sn : (1 + s) * n ≤ 3 * 12 := by
          have h1 : (1 + s) * n ≤ 3 * n := Int.mul_le_mul_of_nonneg_right (by omega) n0
          omega
        have sn0 : 0 ≤ (1 + s) * n := Int.mul_nonneg (by omega) n0
        have hd : (l + (1 + s) * n + r - l) / (1 + s) = n := by
          have : l + (1 + s) * n + r - l = r + (1 + s) * n := by omega
          rw [this, Int.add_mul_ediv_left _ _ (by omega), Int.ediv_eq_zero_of_lt r0 r1]
          omega
        intro w h
        rcases List.mem_append.mp h with h | h
        · exact hw w h
        · rw [List.mem_singleton.mp h]
          refine ⟨⟨l0, by show l ≤ 40; omega, by show l ≤ l + (1 + s) * n + r; omega, by show l + (1 + s) * n + r ≤ 60; omega, by show 1 ≤ 1 + s; omega, by show 1 + s ≤ 3; omega, ?_⟩, ?_, ?_⟩
          · show (l + (1 + s) * n + r - l) / (1 + s) + 1 ≤ 13
            rw [hd]; omega
          · unfold nV
            (try dsimp only)
            rw [hd]
            omega
          · show l ≤ 22
            omega)
  obtain ⟨ρ', h1, x4, x5, x6, x7, x8, ws, hl, hw, rfl⟩ := loop
  refine ⟨ws, hl, hw, runD_rt rfl (sC_nx (sSet_ok (d := .list []) (by simp)) (sC_nx h1 (sRet_ok ?_)))⟩
  simp [cD]
theorem okC_of {ws : List W3} {m : Int} (hl : ws.length = 3) (h : ∀ w ∈ ws, OkB m w) : OkC ws := ⟨hl, fun w hw => (h w hw).ok⟩
end Bv
set_option Elab.async false
set_option linter.all false
set_option maxRecDepth 100000
set_option maxHeartbeats 1000000
namespace Bv
open PySem PySem.Spec L2
theorem nV_pos' {w : W3} (h : OkW w) : 0 < nV w := by
  have h1 := h.m0
  have h2 := h.s0
  have : 0 ≤ (w.2.1 - w.1) / w.2.2 := Int.ediv_nonneg (by omega) (by omega)
  unfold nV
  omega
/-- every s-th of a row -/
theorem steps_tab : ∀ d, d < 61 → ∀ s, s < 4 → 0 < s → (List.range (d + 1)).filter (fun k => k % s == 0) = (List.range (d / s + 1)).map fun k => k * s := by decide +kernel
/-- the numbers from 0 to m - l -/
def upto (w : W3) : List Int := (List.range (w.2.1 - w.1 + 1).toNat).map fun (i : Nat) => (i : Int)
theorem upto_vals {w : W3} (h : OkW w) : ((upto w).filter fun k => decide (k % w.2.2 = 0)).map (fun k => w.1 + k) = vals w := by
  obtain ⟨l, m, s⟩ := w
  obtain ⟨h1, h2, h3, h4, h5, h6, h7⟩ := h
  (try dsimp only at h1 h2 h3 h4 h5 h6 h7)
  obtain ⟨d, hd⟩ := Int.eq_ofNat_of_zero_le (show 0 ≤ m - l by omega)
  obtain ⟨t, ht⟩ := Int.eq_ofNat_of_zero_le (show 0 ≤ s by omega)
  have tab := steps_tab d (by omega) t (by omega) (by omega)
  have e1 : (m - l + 1).toNat = d + 1 := by omega
  have e2 : nV (l, m, s) = d / t + 1 := by
    unfold nV
    (try dsimp only)
    rw [hd, ht, ← Int.natCast_ediv]
    generalize d / t = q
    omega
  unfold upto vals
  (try dsimp only)
  rw [e1, e2, List.filter_map, ht]
  have e3 : ((fun k : Int => decide (k % (t : Int) = 0)) ∘ fun (i : Nat) => (i : Int)) = fun k : Nat => k % t == 0 := funext fun k => by
    show decide ((k : Int) % (t : Int) = 0) = _
    rw [← Int.natCast_emod]
    by_cases c : k % t = 0
    · simp [c]
    · have : ¬ (((k % t : Nat) : Int) = 0) := by omega
      rw [decide_eq_false this]
      simp [c]
  rw [e3, tab, List.map_map, List.map_map]
  exact List.map_congr_left fun k _ => by simp
theorem grow_snoc (w : W3) (done : List (List Int)) (b : List Int) : grow w (done ++ [b]) = grow w done ++ (vals w).map fun v => b ++ [v] := by
  unfold grow
  simp
theorem every_c {ws : List W3} (h : OkC ws) : p__law_every [cD ws] = .ok (.list ((sets ws).map eS)) := by
  refine runD_rt rfl (sC_nx (sSet_ok (d := .list [.tuple []]) (by simp [lstM_of])) ?_)
  have loop := sFor_pre (fi := iSq' (xV 0)) (T := .tp [2, 3, 4]) (f := l__law_every_2) (ρ := [some (cD ws), some (.list [.tuple []]), none, none, none, none, none, none])
    wD (fun pre ρ => ∃ (x2 x3 x4 x5 x6 : Option PyData), ρ = [some (cD ws), some (.list ((sets pre).map eS)), x2, x3, x4, x5, x6, none]) (xs := ws) (by simp [cD]) ⟨none, none, none, none, none, rfl⟩ (by
      rintro pre w post ρ hw ⟨x2, x3, x4, x5, x6, rfl⟩
      have okw : OkW w := h.ok w (by rw [hw]; simp)
      have okp : ∀ v ∈ pre, OkW v := fun v hv => h.ok v (by rw [hw]; simp [hv])
      have lp : pre.length ≤ 2 := by
        have := h.len
        rw [hw, List.length_append, List.length_cons] at this
        omega
      have big : (sets pre).length ≤ 169 := Nat.le_trans (sets_size _ okp) (Nat.le_trans (Nat.pow_le_pow_right (by decide) lp) (by decide))
      obtain ⟨l, m, s⟩ := w
      have o := okw
      obtain ⟨h1, h2, h3, h4, h5, h6, h7⟩ := o
      (try dsimp only at h1 h2 h3 h4 h5 h6 h7)
      have inner := sFor_pre (fi := iSq' (xV 1)) (T := .nm 6) (f := l__law_every_1) (ρ := [some (cD ws), some (.list ((sets pre).map eS)), some (.int l), some (.int m), some (.int s), some (.list []), x6, none])
        eS (fun done ρ => ∃ (x6 : Option PyData), ρ = [some (cD ws), some (.list ((sets pre).map eS)), some (.int l), some (.int m), some (.int s), some (.list ((grow (l, m, s) done).map eS)), x6, none]) (xs := sets pre) (by simp) ⟨x6, rfl⟩ (by
          rintro done b rest ρ hb ⟨x6, rfl⟩
          have bl : b.length ≤ 2 := by rw [sets_each pre b (by rw [hb]; simp)]; exact lp
          have dl : done.length ≤ 169 := by
            have := congrArg List.length hb
            simp at this
            omega
          refine ⟨_, [some (cD ws), some (.list ((sets pre).map eS)), some (.int l), some (.int m), some (.int s), some (.list ((grow (l, m, s) (done ++ [b])).map eS)), some (eS b), none], rfl, ?_, _, rfl⟩
          have hc : c__law_every_1 [some (cD ws), some (.list ((sets pre).map eS)), some (.int l), some (.int m), some (.int s), some (.list ((grow (l, m, s) done).map eS)), some (eS b), none] = .ok (.list (((vals (l, m, s)).map fun v => b ++ [v]).map eS)) := by
            have key := xComp_fm (ρ := [some (cD ws), some (.list ((sets pre).map eS)), some (.int l), some (.int m), some (.int s), some (.list ((grow (l, m, s) done).map eS)), some (eS b), none]) (fi := iRg 1 (aC (xBin .Add (xBin .Sub (xV 3) (xV 2)) (xK (.int 1))) (aN))) (T := .nm 7)
              (ft := tV (xCmp .Eq (xBin .Mod (xV 7) (xV 4)) (xK (.int 0)))) (fe := xBin .Add (xV 6) (xTup (aC (xBin .Add (xV 2) (xV 7)) (aN)))) (vs := [7])
              PyData.int (fun k => decide (k % s = 0)) (fun k => eS (b ++ [l + k])) (xs := upto (l, m, s)) (by simp [rngL_1 (show -16777216 ≤ m - l + 1 by omega) (by omega), upto]) (fun k hk => ⟨_, rfl, by simp [wipeR, show 0 < s by omega], fun _ => ⟨?_, rfl⟩⟩)
            · rw [← upto_vals okw]
              rw [List.map_map, List.map_map]
              exact key
            · have : b.length + 1 ≤ sizeLine := by rw [sizeLine_eq]; omega
              simp [wipeR, tupM_of, eS, this]
          have gl : ((grow (l, m, s) done).map eS).length + (((vals (l, m, s)).map fun v => b ++ [v]).map eS).length ≤ 1000000 := by
            rw [List.length_map, List.length_map, List.length_map, grow_len, vals_len]
            have := nV_le okw
            have : done.length * nV (l, m, s) ≤ 169 * 13 := Nat.mul_le_mul dl this
            omega
          have := sExt_ok (i := 5) (a := (grow (l, m, s) done).map eS) (by simp) hc gl
          rw [← List.map_append, ← grow_snoc] at this
          exact this)
      obtain ⟨ρ', i1, y6, rfl⟩ := inner
      refine ⟨[some (cD ws), some (.list ((sets pre).map eS)), some (.int l), some (.int m), some (.int s), x5, x6, none], _, by simp [wD], sC_nx (sSet_ok (d := .list []) (by simp)) (sC_nx i1 (sSet_ok (d := .list ((grow (l, m, s) (sets pre)).map eS)) (by simp))), some (.int l), some (.int m), some (.int s), some (.list ((grow (l, m, s) (sets pre)).map eS)), y6, ?_⟩
      rw [sets_snoc]
      rfl)
  obtain ⟨ρ', h1, x2, x3, x4, x5, x6, rfl⟩ := loop
  exact sC_nx h1 (sRet_ok rfl)
end Bv
set_option Elab.async false
set_option linter.all false
set_option maxRecDepth 100000
set_option maxHeartbeats 1000000
namespace Bv
open PySem PySem.Spec L2
theorem dget_ints {ks : List Int} {f : Int → PyData} (x : Int) : dget (ks.map fun k => (.int k, f k)) (.int x) = if x ∈ ks then some (f x) else none := by
  unfold dget
  induction ks with
  | nil => rfl
  | cons k ks ih =>
    rw [List.map_cons, List.find?_cons]
    have e : PyData.eqv (.int k) (.int x) = decide (k = x) := eqv_en isEn_int k x
    (try dsimp only)
    rw [e]
    by_cases h : k = x
    · subst h; simp
    · rw [decide_eq_false h]
      (try dsimp only)
      rw [ih]
      have : (x ∈ k :: ks) ↔ x ∈ ks := by simp [show x ≠ k from fun z => h z.symm]
      by_cases c : x ∈ ks <;> simp [c, this, show ¬ x = k from fun z => h z.symm]
theorem dput_ints {ks : List Int} {f : Int → PyData} (x : Int) (y : PyData) : dput (ks.map fun k => (.int k, f k)) (.int x) y = if x ∈ ks then ks.map (fun k => (.int k, if k = x then y else f k)) else ks.map (fun k => (.int k, f k)) ++ [(.int x, y)] := by
  unfold dput
  have e : ∀ k : Int, PyData.eqv (.int k) (.int x) = decide (k = x) := fun k => eqv_en isEn_int k x
  have ha : ((ks.map fun k => ((.int k : PyData), f k)).any fun p => PyData.eqv p.1 (.int x)) = decide (x ∈ ks) := by
    rw [List.any_map]
    induction ks with
    | nil => simp
    | cons k ks ih =>
      rw [List.any_cons, ih]
      show (PyData.eqv (.int k) (.int x) || _) = _
      rw [e]
      by_cases h : k = x
      · simp [h]
      · simp [h, show ¬ x = k from fun z => h z.symm]
  rw [ha]
  by_cases c : x ∈ ks
  · rw [if_pos (decide_eq_true c), if_pos c, List.map_map]
    refine List.map_congr_left fun k _ => ?_
    show (if PyData.eqv (.int k) (.int x) = true then ((.int k : PyData), y) else (.int k, f k)) = _
    rw [e]
    by_cases h : k = x <;> simp [h]
  · rw [if_neg (by rw [decide_eq_false c]; exact Bool.false_ne_true), if_neg c]
@[simp] theorem isDic_dk {l : List (PyData × PyData)} : isDic (dkD l) = true := rfl
@[simp] theorem isDic_dt {l : List (PyData × PyData)} : isDic (dtD l) = true := rfl
theorem dicD_int {l : List (PyData × PyData)} {x : Int} : dicD (dkD l) (.int x) = .ok (dget l (.int x)) := rfl
theorem idx_dk {l : List (PyData × PyData)} {x : Int} {y : PyData} (h : dget l (.int x) = some y) : idxD (dkD l) (.int x) = .ok y := by
  cases l with
  | nil => cases h
  | cons p l =>
    show (Res.ok (dget (p :: l) (.int x))).bind (fun o => match o with
      | some v => Res.ok v
      | none => .stuck) = _
    rw [h]
    rfl
theorem putD_int {l : List (PyData × PyData)} {x : Int} {y : PyData} (h : nodict y = true) (hl : l.length < 1000000) : putD (dkD l) (.int x) y = .ok (dkD (dput l (.int x) y)) := by
  show (if nodict y then (if l.length < 1000000 then Res.ok (dkD (dput l (.int x) y)) else .stuck) else .stuck) = _
  rw [if_pos h, if_pos hl]
/-- things by their number, each number's in the order of coming -/
def tab {α : Type} (num : α → Int) (v : List α → PyData) (S : List α) : List (PyData × PyData) := (uniq (S.map num)).map fun k => (.int k, v (S.filter fun s => decide (num s = k)))
section
variable {α : Type} {num : α → Int} {v : List α → PyData}
theorem tab_snoc (S : List α) (s : α) : dput (tab num v S) (.int (num s)) (v (S.filter (fun t => decide (num t = num s)) ++ [s])) = tab num v (S ++ [s]) := by
  unfold tab
  rw [dput_ints, List.map_append, List.map_singleton, uniq_snoc]
  have e1 : ∀ k, k ≠ num s → (S ++ [s]).filter (fun t => decide (num t = k)) = S.filter fun t => decide (num t = k) := fun k hk => by
    rw [List.filter_append]
    simp [show ¬ num s = k from fun z => hk z.symm]
  have e2 : (S ++ [s]).filter (fun t => decide (num t = num s)) = S.filter (fun t => decide (num t = num s)) ++ [s] := by
    rw [List.filter_append]
    simp
  by_cases c : num s ∈ uniq (S.map num)
  · rw [if_pos c, if_pos c]
    refine List.map_congr_left fun k _ => ?_
    by_cases h : k = num s
    · subst h; rw [if_pos rfl, e2]
    · rw [if_neg h, e1 k h]
  · rw [if_neg c, if_neg c, List.map_append]
    congr 1
    · refine List.map_congr_left fun k hk => ?_
      rw [e1 k fun z => c (z ▸ hk)]
    · rw [List.map_singleton, e2]
theorem tab_get (S : List α) (k : Int) : dget (tab num v S) (.int k) = if k ∈ S.map num then some (v (S.filter fun s => decide (num s = k))) else none := by
  unfold tab
  rw [dget_ints (f := fun k => v (S.filter fun s => decide (num s = k)))]
  by_cases c : k ∈ S.map num
  · rw [if_pos c, if_pos ((mem_uniq _ _).mpr c)]
  · rw [if_neg c, if_neg fun z => c ((mem_uniq _ _).mp z)]
theorem tab_len (S : List α) : (tab num v S).length ≤ S.length := by
  unfold tab
  rw [List.length_map]
  exact Nat.le_trans (uniq_len _) (by rw [List.length_map]; exact Nat.le_refl _)
theorem filter_none {S : List α} {k : Int} (h : k ∉ S.map num) : S.filter (fun s => decide (num s = k)) = [] := by
  rw [List.filter_eq_nil_iff]
  intro s hs
  simp
  exact fun z => h (List.mem_map.mpr ⟨s, hs, z⟩)
theorem tab_keys (S : List α) : keysI (tab num v S) = some (uniq (S.map num)) := by
  unfold keysI tab
  rw [List.map_map]
  exact intsOf_map _
end
theorem mem_sortI (ns : List Int) (k : Int) : k ∈ sortI ns ↔ k ∈ ns := (List.mergeSort_perm ns _).mem_iff
theorem len_sortI (ns : List Int) : (sortI ns).length = ns.length := (List.mergeSort_perm ns _).length_eq
/-- lo and hi are the least and the greatest -/
structure Ends2 (ns : List Int) (x y : Int) : Prop where
  lo : x ∈ ns
  hi : y ∈ ns
  le : ∀ k ∈ ns, x ≤ k ∧ k ≤ y
theorem sort_head {ns : List Int} {lo hi : Int} (h : Ends2 ns lo hi) : (sortI ns)[0]? = some lo := by
  have hp := sortI_le ns
  cases e : sortI ns with
  | nil => have := (mem_sortI ns lo).mpr h.lo; rw [e] at this; cases this
  | cons a r =>
    rw [e] at hp
    have ha : a ∈ ns := (mem_sortI ns a).mp (by rw [e]; simp)
    have hl : lo ∈ a :: r := by rw [← e]; exact (mem_sortI ns lo).mpr h.lo
    have h1 := (h.le a ha).1
    have h2 : a ≤ lo := by
      rcases List.mem_cons.mp hl with z | z
      · omega
      · exact (List.pairwise_cons.mp hp).1 lo z
    show some a = some lo
    rw [Int.le_antisymm h2 h1]
theorem sort_last {ns : List Int} {lo hi : Int} (h : Ends2 ns lo hi) : (sortI ns)[ns.length - 1]? = some hi := by
  have hp := sortI_le ns
  have hl := len_sortI ns
  have pos : 0 < ns.length := List.length_pos_of_mem h.lo
  have hlt : ns.length - 1 < (sortI ns).length := by omega
  rw [List.getElem?_eq_getElem hlt]
  have hm : (sortI ns)[ns.length - 1] ∈ ns := (mem_sortI ns _).mp (List.getElem_mem hlt)
  obtain ⟨j, hj, ej⟩ := List.mem_iff_getElem.mp ((mem_sortI ns hi).mpr h.hi)
  have h1 := (h.le _ hm).2
  have h2 : hi ≤ (sortI ns)[ns.length - 1] := by
    rw [← ej]
    by_cases c : j = ns.length - 1
    · simp [c]
    · exact List.pairwise_iff_getElem.mp hp j (ns.length - 1) hj hlt (by omega)
  rw [Int.le_antisymm h1 h2]
theorem idx_last {l : List PyData} {a : PyData} (h : l[l.length - 1]? = some a) : idxD (.list l) (.int (-1)) = .ok a := by
  have hl : l.length - 1 < l.length := (List.getElem?_eq_some_iff.mp h).1
  have : atI l (-1) = some a := by
    unfold atI ixN
    rw [if_neg (by omega)]
    split
    · rename_i c
      have e : (-1 + (l.length : Int)).toNat = l.length - 1 := by omega
      first
        | (rw [e]; exact h)
        | (show l[((-1 : Int) + l.length).toNat]? = _; rw [e]; exact h)
        | (show l[((l.length : Int) + -1).toNat]? = _; rw [show ((l.length : Int) + -1).toNat = l.length - 1 by omega]; exact h)
    · omega
  show (match atI l (-1) with
    | some v => Res.ok v
    | none => .stuck) = _
  rw [this]
theorem min_keys {kvs : List (PyData × PyData)} {ns : List Int} {lo hi : Int} (hk : keysI kvs = some ns) (h : Ends2 ns lo hi) : biD .min [dkD kvs] = .ok (.int lo) := by
  show (match keysI kvs with
    | some (n :: ns) => Res.ok (PyData.int (minI n ns))
    | _ => .stuck) = _
  rw [hk]
  cases ns with
  | nil => cases h.lo
  | cons n r =>
    obtain ⟨c1, c2⟩ := minI_mem r n
    have : minI n r = lo := Int.le_antisymm (c2 lo h.lo) (h.le _ c1).1
    simp [this]
theorem max_keys {kvs : List (PyData × PyData)} {ns : List Int} {lo hi : Int} (hk : keysI kvs = some ns) (h : Ends2 ns lo hi) : biD .max [dkD kvs] = .ok (.int hi) := by
  show (match keysI kvs with
    | some (n :: ns) => Res.ok (PyData.int (maxI n ns))
    | _ => .stuck) = _
  rw [hk]
  cases ns with
  | nil => cases h.lo
  | cons n r =>
    obtain ⟨c1, c2⟩ := maxI_mem r n
    have : maxI n r = hi := Int.le_antisymm (h.le _ c1).2 (c2 hi h.hi)
    simp [this]
theorem sort_keys {kvs : List (PyData × PyData)} {ns : List Int} (hk : keysI kvs = some ns) (h : ns.length < 64) : biD .sorted [dkD kvs] = .ok (eL (sortI ns)) := by
  show (match keysI kvs with
    | some ns => if ns.length < 64 then Res.ok (PyData.list ((sortI ns).map .int)) else .stuck
    | none => .stuck) = _
  rw [hk]
  simp [h, eL]
theorem max_ints {ns : List Int} {m : Int} (h : m ∈ ns) (hm : ∀ k ∈ ns, k ≤ m) : biD .max [eL ns] = .ok (.int m) := by
  show (match intsOf (ns.map .int) with
    | some (n :: ns) => Res.ok (PyData.int (maxI n ns))
    | _ => .stuck) = _
  rw [intsOf_map]
  cases ns with
  | nil => cases h
  | cons n r =>
    obtain ⟨c1, c2⟩ := maxI_mem r n
    have : maxI n r = m := Int.le_antisymm (hm _ c1) (c2 m h)
    simp [this]
theorem sum_ints (ns : List Int) : biD .sum [eL ns] = .ok (.int ns.sum) := by
  show (match intsOf (ns.map .int) with
    | some ns => Res.ok (PyData.int ns.sum)
    | none => .stuck) = _
  rw [intsOf_map]
section
open PySem.W
variable {α : Type} [DecidableEq α] [DatumOrd α]
theorem depthAll_dat : ∀ l : List α, PyData.depthAll (l.map Datum.toD) ≤ Datum.depth α
  | [] => Nat.zero_le _
  | a :: l => by
    rw [List.map_cons]
    simp only [PyData.depthAll]
    exact Nat.max_le.mpr ⟨Datum.depth_le a, depthAll_dat l⟩
theorem min_dat (hd : Datum.depth α ≤ 30) (x : α) (xs : List α) : biD .min [.list ((x :: xs).map Datum.toD)] = .ok (Datum.toD (minOf x xs)) := by
  have al := alikeAll_datum (x :: xs)
  have h1 : alikeB ((x :: xs).map Datum.toD) = true := by
    unfold alikeB
    rw [List.all_eq_true]
    intro a ha
    rw [Bool.and_eq_true, List.all_eq_true]
    refine ⟨fun b hb => al.1 a ha b hb, ?_⟩
    have := al.2 a ha
    cases a <;> first | rfl | exact absurd rfl this
  have h2 := Nat.le_trans (depthAll_dat (x :: xs)) hd
  show (if alikeB ((x :: xs).map Datum.toD) = true ∧ PyData.depthAll ((x :: xs).map Datum.toD) ≤ 30 then Res.ok (minD (Datum.toD x) (xs.map Datum.toD)) else .stuck) = _
  rw [if_pos ⟨h1, h2⟩, minD_map]
/-- the least of all -/
theorem minOf_is (irr : ∀ a : α, DatumOrd.lt a a = false) (tr : ∀ a b c : α, DatumOrd.lt a b = true → DatumOrd.lt b c = true → DatumOrd.lt a c = true) (tot : ∀ a b : α, DatumOrd.lt a b = false → DatumOrd.lt b a = false → a = b) : ∀ (xs : List α) (x : α), minOf x xs ∈ x :: xs ∧ ∀ y ∈ x :: xs, DatumOrd.lt y (minOf x xs) = false
  | [], x => ⟨by simp [minOf], fun y hy => by rw [List.mem_singleton.mp hy]; exact irr x⟩
  | z :: xs, x => by
    have e : minOf x (z :: xs) = minOf (if DatumOrd.lt z x = true then z else x) xs := rfl
    rw [e]
    obtain ⟨h1, h2⟩ := minOf_is irr tr tot xs (if DatumOrd.lt z x = true then z else x)
    have h0 := h2 _ List.mem_cons_self
    constructor
    · rcases List.mem_cons.mp h1 with h | h
      · rw [h]
        split <;> simp
      · simp [h]
    · intro y hy
      rcases List.mem_cons.mp hy with rfl | hy
      · by_cases c : DatumOrd.lt z y = true
        · rw [if_pos c] at h0 ⊢
          cases q : DatumOrd.lt y (minOf z xs) with
          | false => rfl
          | true => rw [tr _ _ _ c q] at h0; cases h0
        · rw [if_neg c] at h0 ⊢; exact h0
      · rcases List.mem_cons.mp hy with rfl | hy
        · by_cases c : DatumOrd.lt y x = true
          · rw [if_pos c] at h0 ⊢; exact h0
          · rw [if_neg c] at h0 ⊢
            cases q : DatumOrd.lt y (minOf x xs) with
            | false => rfl
            | true =>
              cases q2 : DatumOrd.lt (minOf x xs) x with
              | true => exact absurd (tr _ _ _ q q2) c
              | false => rw [tot _ _ q2 h0] at q; exact absurd q c
        · exact h2 y (List.mem_cons_of_mem _ hy)
end
end Bv
set_option Elab.async false
set_option linter.all false
set_option maxRecDepth 100000
set_option maxHeartbeats 1000000
namespace Bv
open PySem PySem.Spec L2
open PySem.W (DatumOrd Datum minOf Tup listLt)
/-- the laws of an order -/
structure OrdLaws (α : Type) [DecidableEq α] [DatumOrd α] : Prop where
  irr : ∀ a : α, DatumOrd.lt a a = false
  tr : ∀ a b c : α, DatumOrd.lt a b = true → DatumOrd.lt b c = true → DatumOrd.lt a c = true
  tot : ∀ a b : α, DatumOrd.lt a b = false → DatumOrd.lt b a = false → a = b
theorem ordInt : OrdLaws Int where
  irr a := decide_eq_false (Int.lt_irrefl a)
  tr a b c h1 h2 := by
    have h1' : a < b := of_decide_eq_true h1
    have h2' : b < c := of_decide_eq_true h2
    exact decide_eq_true (Int.lt_trans h1' h2')
  tot a b h1 h2 := by
    have h1' : ¬ a < b := of_decide_eq_false h1
    have h2' : ¬ b < a := of_decide_eq_false h2
    omega
section
variable {α β : Type} [DecidableEq α] [DatumOrd α] [DecidableEq β] [DatumOrd β]
theorem lt_pair (p q : α × β) : DatumOrd.lt p q = if p.1 = q.1 then DatumOrd.lt p.2 q.2 else DatumOrd.lt p.1 q.1 := rfl
theorem ordPair (h1 : OrdLaws α) (h2 : OrdLaws β) : OrdLaws (α × β) where
  irr a := by rw [lt_pair, if_pos rfl]; exact h2.irr _
  tr a b c k1 k2 := by
    rw [lt_pair] at k1 k2 ⊢
    by_cases e1 : a.1 = b.1
    · rw [if_pos e1] at k1
      by_cases e2 : b.1 = c.1
      · rw [if_pos e2] at k2
        rw [if_pos (e1.trans e2)]
        exact h2.tr _ _ _ k1 k2
      · rw [if_neg e2] at k2
        rw [if_neg fun z => e2 (e1.symm.trans z), e1]
        exact k2
    · rw [if_neg e1] at k1
      by_cases e2 : b.1 = c.1
      · rw [if_pos e2] at k2
        rw [if_neg fun z => e1 (z.trans e2.symm), ← e2]
        exact k1
      · rw [if_neg e2] at k2
        have k3 := h1.tr _ _ _ k1 k2
        rw [if_neg fun z => by rw [z, h1.irr] at k3; cases k3]
        exact k3
  tot a b k1 k2 := by
    rw [lt_pair] at k1 k2
    by_cases e : a.1 = b.1
    · rw [if_pos e] at k1
      rw [if_pos e.symm] at k2
      exact Prod.ext e (h2.tot _ _ k1 k2)
    · rw [if_neg e] at k1
      rw [if_neg fun z => e z.symm] at k2
      exact absurd (h1.tot _ _ k1 k2) e
theorem list_irr (h : OrdLaws α) : ∀ l : List α, listLt l l = false
  | [] => rfl
  | a :: l => by rw [listLt, if_pos rfl]; exact list_irr h l
theorem list_tr (h : OrdLaws α) : ∀ a b c : List α, listLt a b = true → listLt b c = true → listLt a c = true
  | [], [], _, k, _ => by cases k
  | [], _ :: _, [], _, k => by cases k
  | [], _ :: _, _ :: _, _, _ => rfl
  | _ :: _, [], _, k, _ => by cases k
  | _ :: _, _ :: _, [], _, k => by cases k
  | x :: a, y :: b, z :: c, k1, k2 => by
    rw [listLt] at k1 k2 ⊢
    by_cases e1 : x = y
    · rw [if_pos e1] at k1
      by_cases e2 : y = z
      · rw [if_pos e2] at k2
        rw [if_pos (e1.trans e2)]
        exact list_tr h _ _ _ k1 k2
      · rw [if_neg e2] at k2
        rw [if_neg fun w => e2 (e1.symm.trans w), e1]
        exact k2
    · rw [if_neg e1] at k1
      by_cases e2 : y = z
      · rw [if_pos e2] at k2
        rw [if_neg fun w => e1 (w.trans e2.symm), ← e2]
        exact k1
      · rw [if_neg e2] at k2
        have k3 := h.tr _ _ _ k1 k2
        rw [if_neg fun w => by rw [w, h.irr] at k3; cases k3]
        exact k3
theorem list_tot (h : OrdLaws α) : ∀ a b : List α, listLt a b = false → listLt b a = false → a = b
  | [], [], _, _ => rfl
  | [], _ :: _, k, _ => by cases k
  | _ :: _, [], _, k => by cases k
  | x :: a, y :: b, k1, k2 => by
    rw [listLt] at k1 k2
    by_cases e : x = y
    · rw [if_pos e] at k1
      rw [if_pos e.symm] at k2
      rw [e, list_tot h a b k1 k2]
    · rw [if_neg e] at k1
      rw [if_neg fun w => e w.symm] at k2
      exact absurd (h.tot _ _ k1 k2) e
theorem ordTup (h : OrdLaws α) : OrdLaws (Tup α) where
  irr a := list_irr h a.items
  tr a b c := list_tr h a.items b.items c.items
  tot a b k1 k2 := by
    have := list_tot h a.items b.items k1 k2
    cases a; cases b
    (try dsimp only at this)
    rw [this]
/-- min of a list, by a law -/
theorem min_law (L : OrdLaws α) (hd : Datum.depth α ≤ 30) {xs : List α} {m : α} (hm : m ∈ xs) (hl : ∀ y ∈ xs, DatumOrd.lt y m = false) : biD .min [.list (xs.map Datum.toD)] = .ok (Datum.toD m) := by
  cases xs with
  | nil => cases hm
  | cons x xs =>
    rw [min_dat hd]
    obtain ⟨h1, h2⟩ := minOf_is L.irr L.tr L.tot xs x
    rw [L.tot _ _ (hl _ h1) (h2 m hm)]
/-- there is a least one -/
theorem least_ex (L : OrdLaws α) {xs : List α} (h : xs ≠ []) : ∃ m ∈ xs, ∀ y ∈ xs, DatumOrd.lt y m = false := by
  cases xs with
  | nil => exact absurd rfl h
  | cons x xs =>
    obtain ⟨h1, h2⟩ := minOf_is L.irr L.tr L.tot xs x
    exact ⟨_, h1, h2⟩
end
abbrev cntV (l : List (List Int)) : PyData := .int l.length
abbrev lstV (l : List (List Int)) : PyData := .list (l.map eS)
def numsOf (ws : List W3) : List Int := uniq ((sets ws).map num)
theorem find_numbers_c {ws : List W3} (h : OkC ws) : p_find_numbers [cD ws] = .ok (dkD (tab num cntV (sets ws))) := by
  have hb := sets_size ws h.ok
  rw [h.len] at hb
  have loop := sFor_pre (fi := iSq' (xCall p_all_settings (aC (xV 0) (aN)))) (T := .nm 2) (f := l_find_numbers_1) (ρ := [some (cD ws), some (dkD []), none, none])
    eS (fun pre ρ => ∃ x2 x3 : Option PyData, ρ = [some (cD ws), some (dkD (tab num cntV pre)), x2, x3]) (xs := sets ws) (by simp [all_settings_c h]) ⟨none, none, rfl⟩ (by
      rintro pre s post ρ hx ⟨x2, x3, rfl⟩
      have hs : s ∈ sets ws := by rw [hx]; simp
      have hl : (tab num cntV pre).length < 1000000 := by
        have h1 := tab_len (num := num) (v := cntV) pre
        have h2 := congrArg List.length hx
        simp at h2
        omega
      have hg : (dget (tab num cntV pre) (.int (num s))).getD (.int 0) = .int (pre.filter fun t => decide (num t = num s)).length := by
        rw [tab_get]
        by_cases c : num s ∈ pre.map num
        · rw [if_pos c]; rfl
        · rw [if_neg c, filter_none c]; rfl
      refine ⟨_, [some (cD ws), some (dkD (tab num cntV (pre ++ [s]))), some (eS s), some (.int (num s))], rfl, sC_nx (sSet_ok (d := .int (num s)) (by simp [find_exposure_s h hs])) ?_, _, _, rfl⟩
      have hp : putD (dkD (tab num cntV pre)) (.int (num s)) (.int (((pre.filter fun t => decide (num t = num s)).length : Int) + 1)) = .ok (dkD (tab num cntV (pre ++ [s]))) := by
        rw [putD_int rfl hl, ← tab_snoc]
        simp [cntV]
      simp only [sPut_ap, xBin_ap, xGet2_ap, xV_ap, List.set, gv_1, gv_3, Res.ok_bind, isDic_dk, if_pos, xK_ap, dicD_int, hg, addD_int, st_okM, hp])
  obtain ⟨ρ', l1, x2, x3, rfl⟩ := loop
  exact runD_rt rfl (sC_nx (sSet_ok (d := dkD []) (by simp)) (sC_nx l1 (sRet_ok rfl)))
theorem reach_c {ws : List W3} (h : OkC ws) {lo hi : Int} (e : Ends2 (numsOf ws) lo hi) : p_reach [cD ws] = .ok (.tuple [.int lo, .int hi]) := by
  have k : keysI (tab num cntV (sets ws)) = some (numsOf ws) := tab_keys _
  have r : p_find_reach [cD ws] = .ok (.tuple [.int lo, .int hi]) := by
    simp [p_find_reach, runD, f_find_reach, find_numbers_c h, min_keys k e, max_keys k e, tupM_of]
  simp [p_reach, runD, f_reach, check_camera_c h, r]
theorem reachable_c {ws : List W3} (h : OkC ws) (hl : (numsOf ws).length < 64) : p_reachable [cD ws] = .ok (eL (sortI (numsOf ws))) := by
  have k : keysI (tab num cntV (sets ws)) = some (numsOf ws) := tab_keys _
  simp [p_reachable, runD, f_reachable, check_camera_c h, find_numbers_c h, sort_keys k hl]
/-- how many settings have a number -/
def many (ws : List W3) (k : Int) : Nat := ((sets ws).filter fun s => decide (num s = k)).length
theorem tab_map {ws : List W3} : tab num cntV (sets ws) = (numsOf ws).map fun k => (.int k, .int (many ws k)) := rfl
theorem mem_nums {ws : List W3} {k : Int} : k ∈ numsOf ws ↔ ∃ s ∈ sets ws, num s = k := by
  unfold numsOf
  rw [mem_uniq, List.mem_map]
theorem lt_II (p q : Int × Int) : DatumOrd.lt p q = if p.1 = q.1 then decide (p.2 < q.2) else decide (p.1 < q.1) := rfl
theorem commonest_c {ws : List W3} (h : OkC ws) {k : Int} (hk : k ∈ numsOf ws) (hm : ∀ j ∈ numsOf ws, many ws j < many ws k ∨ (many ws j = many ws k ∧ k ≤ j)) : p_commonest [cD ws] = .ok (.int k) := by
  have hb := sets_size ws h.ok
  rw [h.len] at hb
  have tl : (tab num cntV (sets ws)).length ≤ 1000000 := Nat.le_trans (tab_len _) (by omega)
  have hc : c_commonest_1 [some (cD ws), some (dkD (tab num cntV (sets ws))), none] = .ok (.list ((numsOf ws).map fun j => .tuple [.int (0 - (many ws j : Int)), .int j])) := by
    refine xComp_map (vs := [2]) PyData.int (fun j => .tuple [.int (0 - (many ws j : Int)), .int j]) (xs := numsOf ws) ?_ fun j hj => ⟨_, rfl, rfl, ?_, rfl⟩
    · show (gv _ 1).bind dkeys = _
      rw [gv_1]
      show (if (tab num cntV (sets ws)).length ≤ 1000000 then Res.ok ((tab num cntV (sets ws)).map (·.1)) else .stuck) = _
      rw [if_pos tl, tab_map, List.map_map]
      rfl
    · have : dget (tab num cntV (sets ws)) (.int j) = some (.int (many ws j)) := by
        rw [tab_get, if_pos (by rw [← mem_uniq]; exact hj)]
        rfl
      simp [wipeR, idx_dk this, tupM_of]
  have hmin := min_law (ordPair ordInt ordInt) (by decide) (xs := (numsOf ws).map fun j => ((0 - (many ws j : Int) : Int), j)) (m := ((0 - (many ws k : Int) : Int), k)) (List.mem_map.mpr ⟨k, hk, rfl⟩) (fun y hy => by
    obtain ⟨j, hj, rfl⟩ := List.mem_map.mp hy
    rw [lt_II]
    rcases hm j hj with c | ⟨c1, c2⟩
    · rw [if_neg (by (try dsimp only); omega)]
      exact decide_eq_false (by (try dsimp only); omega)
    · rw [if_pos (by (try dsimp only); omega)]
      exact decide_eq_false (by (try dsimp only); omega))
  rw [List.map_map] at hmin
  have hmin' : biD .min [.list ((numsOf ws).map fun j => .tuple [.int (0 - (many ws j : Int)), .int j])] = .ok (.tuple [.int (0 - (many ws k : Int)), .int k]) := hmin
  simp [-Int.zero_sub, p_commonest, runD, f_commonest, check_camera_c h, find_numbers_c h, hc, hmin']
end Bv
set_option Elab.async false
set_option linter.all false
set_option maxRecDepth 100000
set_option maxHeartbeats 1000000
namespace Bv
open PySem PySem.Spec L2
theorem sets_prod (w1 w2 w3 : W3) : sets [w1, w2, w3] = (vals w1).flatMap fun a => (vals w2).flatMap fun b => (vals w3).map fun c => [a, b, c] := by
  have e : sets [w1, w2, w3] = grow w3 (grow w2 (grow w1 [[]])) := rfl
  rw [e]
  unfold grow
  simp [List.flatMap_assoc, List.flatMap_map]
def vmax (w : W3) : Int := w.1 + ((nV w : Int) - 1) * w.2.2
theorem vals_at (w : W3) (i : Nat) (h : i < nV w) : (vals w)[i]? = some (w.1 + (i : Int) * w.2.2) := by
  unfold vals
  rw [List.getElem?_map, List.getElem?_range h]
  rfl
theorem vals_le {w : W3} (h : OkW w) {v : Int} (hv : v ∈ vals w) : w.1 ≤ v ∧ v ≤ vmax w := by
  unfold vals at hv
  rw [List.mem_map] at hv
  obtain ⟨i, hi, rfl⟩ := hv
  rw [List.mem_range] at hi
  have h2 := h.s0
  have a := Int.mul_nonneg (show (0 : Int) ≤ i by omega) (show 0 ≤ w.2.2 by omega)
  have b := Int.mul_le_mul_of_nonneg_right (show (i : Int) ≤ (nV w : Int) - 1 by omega) (show 0 ≤ w.2.2 by omega)
  unfold vmax
  omega
theorem vmin_mem {w : W3} (h : OkW w) : w.1 ∈ vals w := by
  have := vals_at w 0 (nV_pos' h)
  have e : w.1 + ((0 : Nat) : Int) * w.2.2 = w.1 := by simp
  rw [e] at this
  exact List.mem_of_getElem? this
theorem vmax_mem {w : W3} (h : OkW w) : vmax w ∈ vals w := by
  have p := nV_pos' h
  have := vals_at w (nV w - 1) (by omega)
  have e : w.1 + ((nV w - 1 : Nat) : Int) * w.2.2 = vmax w := by
    unfold vmax
    rw [show ((nV w - 1 : Nat) : Int) = (nV w : Int) - 1 by omega]
  rw [e] at this
  exact List.mem_of_getElem? this
theorem vals_rev (w : W3) : (vals w).map (fun v => w.1 + vmax w - v) = (vals w).reverse := by
  refine List.ext_getElem (by simp) fun i h1 h2 => ?_
  have hi : i < nV w := by simpa [vals_len] using h1
  rw [List.getElem_map, List.getElem_reverse]
  have a : (vals w)[i]'(by rw [vals_len]; exact hi) = w.1 + (i : Int) * w.2.2 := by
    have := vals_at w i hi
    rw [List.getElem?_eq_getElem (by rw [vals_len]; exact hi)] at this
    exact Option.some.inj this
  have hb : nV w - 1 - i < nV w := by omega
  have b : (vals w)[nV w - 1 - i]'(by rw [vals_len]; exact hb) = w.1 + ((nV w - 1 - i : Nat) : Int) * w.2.2 := by
    have := vals_at w _ hb
    rw [List.getElem?_eq_getElem (by rw [vals_len]; exact hb)] at this
    exact Option.some.inj this
  have e : (vals w).length - 1 - i = nV w - 1 - i := by rw [vals_len]
  simp only [e, a, b]
  unfold vmax
  have e1 := Int.sub_mul ((nV w : Int) - 1) i w.2.2
  rw [show ((nV w - 1 - i : Nat) : Int) = ((nV w : Int) - 1) - i by omega, e1]
  omega
def mir (w1 w2 w3 : W3) : List Int → List Int
  | [a, b, c] => [w1.1 + vmax w1 - a, w2.1 + vmax w2 - b, w3.1 + vmax w3 - c]
  | s => s
theorem perm_each {α β : Type} {l : List α} {f g : α → List β} (h : ∀ a, a ∈ l → (f a).Perm (g a)) : (l.flatMap f).Perm (l.flatMap g) := by
  induction l with
  | nil => exact List.Perm.refl _
  | cons a l ih =>
    rw [List.flatMap_cons, List.flatMap_cons]
    exact (h a List.mem_cons_self).append (ih fun b hb => h b (List.mem_cons_of_mem _ hb))
theorem mir_perm (w1 w2 w3 : W3) : ((sets [w1, w2, w3]).map (mir w1 w2 w3)).Perm (sets [w1, w2, w3]) := by
  have e : (sets [w1, w2, w3]).map (mir w1 w2 w3) = (vals w1).reverse.flatMap fun a => (vals w2).reverse.flatMap fun b => (vals w3).reverse.map fun c => [a, b, c] := by
    rw [sets_prod, ← vals_rev w1, ← vals_rev w2, ← vals_rev w3]
    simp [List.map_flatMap, List.flatMap_map, mir]
    rfl
  rw [e, sets_prod]
  refine (List.Perm.flatMap_right _ (List.reverse_perm _)).trans ?_
  refine perm_each fun a _ => ?_
  refine (List.Perm.flatMap_right _ (List.reverse_perm _)).trans ?_
  refine perm_each fun b _ => ?_
  exact (List.reverse_perm _).map _
theorem many_mir {w1 w2 w3 : W3} (k : Int) : many [w1, w2, w3] k = many [w1, w2, w3] ((w1.1 + vmax w1) + (w2.1 + vmax w2) - (w3.1 + vmax w3) - k) := by
  unfold many
  rw [← ((mir_perm w1 w2 w3).filter _).length_eq, List.filter_map, List.length_map]
  congr 1
  refine List.filter_congr fun s hs => ?_
  obtain ⟨a, _, b, _, c, _, rfl⟩ := mem_sets3.mp hs
  show decide (num (mir w1 w2 w3 [a, b, c]) = k) = _
  refine decide_eq_decide.mpr ?_
  simp only [mir, num]
  omega
def lo3 (w1 w2 w3 : W3) : Int := w1.1 + w2.1 - vmax w3
def hi3 (w1 w2 w3 : W3) : Int := vmax w1 + vmax w2 - w3.1
theorem ends_nums {w1 w2 w3 : W3} (h : OkC [w1, w2, w3]) : Ends2 (numsOf [w1, w2, w3]) (lo3 w1 w2 w3) (hi3 w1 w2 w3) := by
  have o1 := h.ok w1 (by simp)
  have o2 := h.ok w2 (by simp)
  have o3 := h.ok w3 (by simp)
  refine ⟨mem_nums.mpr ⟨[w1.1, w2.1, vmax w3], mem_sets3.mpr ⟨_, vmin_mem o1, _, vmin_mem o2, _, vmax_mem o3, rfl⟩, rfl⟩, mem_nums.mpr ⟨[vmax w1, vmax w2, w3.1], mem_sets3.mpr ⟨_, vmax_mem o1, _, vmax_mem o2, _, vmin_mem o3, rfl⟩, rfl⟩, fun k hk => ?_⟩
  obtain ⟨s, hs, rfl⟩ := mem_nums.mp hk
  obtain ⟨a, ha, b, hb, c, hc, rfl⟩ := mem_sets3.mp hs
  have a1 := vals_le o1 ha
  have b1 := vals_le o2 hb
  have c1 := vals_le o3 hc
  simp only [num, lo3, hi3]
  omega
/-- whole numbers at least d apart -/
theorem apart_len {d : Int} (hd : 0 < d) {lo hi : Int} : ∀ {l : List Int}, l.Pairwise (fun a b => a + d ≤ b) → (∀ k ∈ l, lo ≤ k ∧ k ≤ hi) → d * ((l.length : Int) - 1) ≤ hi - lo ∨ l = []
  | [], _, _ => .inr rfl
  | [a], _, h => .inl (by
    have := h a (by simp)
    simp
    omega)
  | a :: b :: r, hp, h => by
    obtain ⟨h1, h2⟩ := List.pairwise_cons.mp hp
    rcases apart_len (lo := a + d) (hi := hi) hd h2 (fun k hk => ⟨by
      rcases List.mem_cons.mp hk with rfl | z
      · exact h1 _ (by simp)
      · exact h1 k (by simp [z]), (h k (List.mem_cons_of_mem _ hk)).2⟩) with q | q
    · refine .inl ?_
      have := (h a (by simp)).1
      rw [List.length_cons] at q ⊢
      rw [show (((b :: r).length + 1 : Nat) : Int) - 1 = ((b :: r).length : Int) by omega]
      have e : d * ((b :: r).length : Int) = d * (((b :: r).length : Int) - 1) + d := by
        rw [Int.mul_sub]; omega
      rw [e]
      have : ((r.length + 1 : Nat) : Int) = ((b :: r).length : Int) := by simp
      rw [this] at q
      omega
    · cases q
theorem sortI_lt {ns : List Int} (h : ns.Nodup) : (sortI ns).Pairwise (· < ·) := by
  have h1 := sortI_le ns
  have h2 : (sortI ns).Nodup := (List.mergeSort_perm ns _).nodup_iff.mpr h
  exact (h1.and h2).imp fun {a b} q => by omega
theorem nums_few {w1 w2 w3 : W3} (h : OkC [w1, w2, w3]) {m : Int} (hm : m ≤ 8) (hw : ∀ w ∈ [w1, w2, w3], OkB m w) : (numsOf [w1, w2, w3]).length < 64 := by
  have e := ends_nums h
  have b1 := hw w1 (by simp)
  have b2 := hw w2 (by simp)
  have b3 := hw w3 (by simp)
  have nd : (numsOf [w1, w2, w3]).Nodup := nodup_uniq _
  have lt := sortI_lt nd
  have bd : ∀ k ∈ sortI (numsOf [w1, w2, w3]), lo3 w1 w2 w3 ≤ k ∧ k ≤ hi3 w1 w2 w3 := fun k hk => e.le k ((mem_sortI _ k).mp hk)
  have span : ∀ w, OkB m w → vmax w - w.1 ≤ 7 * w.2.2 := fun w b => by
    unfold vmax
    have h1 := b.n
    have h2 := b.ok.s0
    have := Int.mul_le_mul_of_nonneg_right (show (nV w : Int) - 1 ≤ 7 by omega) (show 0 ≤ w.2.2 by omega)
    omega
  have s1 := span w1 b1
  have s2 := span w2 b2
  have s3 := span w3 b3
  have t1 := b1.ok.s1
  have t2 := b2.ok.s1
  have t3 := b3.ok.s1
  have hs : hi3 w1 w2 w3 - lo3 w1 w2 w3 = (vmax w1 - w1.1) + (vmax w2 - w2.1) + (vmax w3 - w3.1) := by
    unfold hi3 lo3; omega
  rw [← len_sortI]
  by_cases c : w1.2.2 = 3 ∧ w2.2.2 = 3 ∧ w3.2.2 = 3
  · have md : ∀ k ∈ sortI (numsOf [w1, w2, w3]), (k - (w1.1 + w2.1 - w3.1)) % 3 = 0 := fun k hk => by
      obtain ⟨s, hs, rfl⟩ := mem_nums.mp ((mem_sortI _ k).mp hk)
      obtain ⟨x, hx, y, hy, z, hz, rfl⟩ := mem_sets3.mp hs
      unfold vals at hx hy hz
      rw [List.mem_map] at hx hy hz
      obtain ⟨i, _, rfl⟩ := hx
      obtain ⟨j, _, rfl⟩ := hy
      obtain ⟨l, _, rfl⟩ := hz
      rw [c.1, c.2.1, c.2.2]
      simp only [num]
      omega
    rcases apart_len (d := 3) (by decide) (List.Pairwise.imp_of_mem (fun {a b} ha hb q => by
      have m1 := md a ha
      have m2 := md b hb
      (try dsimp only at q)
      omega) lt) bd with q | q
    · omega
    · rw [q]; decide
  · rcases apart_len (d := 1) (by decide) (lt.imp fun {a b} q => by omega) bd with q | q
    · have : w1.2.2 + w2.2.2 + w3.2.2 ≤ 8 := by omega
      omega
    · rw [q]; decide
end Bv
set_option Elab.async false
set_option linter.all false
set_option maxRecDepth 100000
set_option maxHeartbeats 1000000
namespace Bv
open PySem PySem.Spec L2
theorem check_both_c {ws : List W3} (h : OkC ws) {b : Int} (h1 : -60 ≤ b) (h2 : b ≤ 120) : p_check_both [cD ws, .int b] = .ok .none := by
  simp [p_check_both, runD, f_check_both, check_camera_c h, check_light_i h1 h2]
def right (ws : List W3) (b : Int) : List (List Int) := (sets ws).filter fun s => decide (num s = b)
theorem find_right_c {ws : List W3} (h : OkC ws) (b : Int) : p_find_right [cD ws, .int b] = .ok (.list ((right ws b).map eS)) := by
  have hc : c_find_right_1 [some (cD ws), some (.int b), none] = .ok (.list ((right ws b).map eS)) := by
    refine xComp_fm (vs := [2]) eS (fun s => decide (num s = b)) eS (xs := sets ws) (by simp [all_settings_c h]) fun s hs => ⟨_, rfl, by simp [wipeR, find_exposure_s h hs], fun _ => ⟨by simp [wipeR], rfl⟩⟩
  simp [p_find_right, runD, f_find_right, hc]
theorem right_settings_c {ws : List W3} (h : OkC ws) {b : Int} (h1 : -60 ≤ b) (h2 : b ≤ 120) : p_right_settings [cD ws, .int b] = .ok (.list ((right ws b).map eS)) := by
  simp [p_right_settings, runD, f_right_settings, check_both_c h h1 h2, find_right_c h b]
theorem count_right_c {ws : List W3} (h : OkC ws) {b : Int} (h1 : -60 ≤ b) (h2 : b ≤ 120) : p_count_right [cD ws, .int b] = .ok (.int (many ws b)) := by
  simp [p_count_right, runD, f_count_right, check_both_c h h1 h2, find_right_c h b]
  rfl
theorem number_s {ws : List W3} (h : OkC ws) {s : List Int} (hs : s ∈ sets ws) : p__law_number [eS s] = .ok (.int (num s)) := by
  obtain ⟨a, b, c, rfl⟩ := set3 h hs
  simp [p__law_number, runD, f__law_number, eS, num]
theorem sets_pos {ws : List W3} (h : OkC ws) : 0 < (sets ws).length := by
  obtain ⟨w1, w2, w3, rfl⟩ := three h
  exact List.length_pos_of_mem (mem_sets3.mpr ⟨_, vmin_mem (h.ok w1 (by simp)), _, vmin_mem (h.ok w2 (by simp)), _, vmin_mem (h.ok w3 (by simp)), rfl⟩)
/-- one of all settings, drawn -/
theorem drawn_s {ws : List W3} (h : OkC ws) {ns : List Int} (hn : ns.length ≤ 63) {k : Int} (hk : 0 ≤ k) : ∃ (j : Int) (s : List Int), s ∈ sets ws ∧ p__law_pick [scrD (ns.map .int), .int k, .int (sets ws).length] = .ok (.int j) ∧ idxD (.list ((sets ws).map eS)) (.int j) = .ok (eS s) := by
  have hp := sets_pos h
  obtain ⟨j, j0, j1, ej⟩ := pick_ok hn (k := k) (many := (sets ws).length) hk (by omega)
  obtain ⟨jn, rfl⟩ := Int.eq_ofNat_of_zero_le j0
  have jl : jn < (sets ws).length := by omega
  exact ⟨jn, (sets ws)[jn], List.getElem_mem jl, ej, idx_list (by rw [List.getElem?_map, List.getElem?_eq_getElem jl]; rfl)⟩
theorem light_c {ws : List W3} (h : OkC ws) {ns : List Int} (hn : ns.length ≤ 63) {k : Int} (hk : 0 ≤ k) : ∃ s ∈ sets ws, ∃ e : Int, e ∈ ([0, 1, -1, 9] : List Int) ∧ p__law_light_k03 [scrD (ns.map .int), .int k, cD ws] = .ok (.int (num s + e)) := by
  obtain ⟨j, s, hs, ej, es⟩ := drawn_s h hn hk
  obtain ⟨p, p0, p1, ep⟩ := pick_ok hn (k := k + 1) (many := 6) (by omega) (by omega)
  obtain ⟨e, he, ie⟩ : ∃ e : Int, e ∈ ([0, 1, -1, 9] : List Int) ∧ idxD (.tuple [.int 0, .int 0, .int 0, .int 1, .int (-1), .int 9]) (.int p) = .ok (.int e) := by
    have : p = 0 ∨ p = 1 ∨ p = 2 ∨ p = 3 ∨ p = 4 ∨ p = 5 := by omega
    rcases this with rfl | rfl | rfl | rfl | rfl | rfl
    · exact ⟨0, by simp, rfl⟩
    · exact ⟨0, by simp, rfl⟩
    · exact ⟨0, by simp, rfl⟩
    · exact ⟨1, by simp, rfl⟩
    · exact ⟨-1, by simp, rfl⟩
    · exact ⟨9, by simp, rfl⟩
  refine ⟨s, hs, e, he, ?_⟩
  simp [p__law_light_k03, runD, f__law_light_k03, every_c h, ej, es, number_s h hs, ep, tupM_of, ie]
/-- the law's table -/
theorem table_c {ws : List W3} (h : OkC ws) (S x1 x2 x3 x6 x7 x8 x9 x10 x11 x12 : Option PyData) (f : FS) (hf : f = l_law_k03_1) (x5 : Option PyData) (hx3 : x3 = some (.list ((sets ws).map eS))) : ∃ y5, sFor (.nm 5) (iSq' (xV 3)) f [S, x1, x2, x3, some (dkD []), x5, x6, x7, x8, x9, x10, x11, x12] = .nx [S, x1, x2, x3, some (dkD (tab num lstV (sets ws))), y5, x6, x7, x8, x9, x10, x11, x12] := by
  subst hf hx3
  have hb := sets_size ws h.ok
  rw [h.len] at hb
  have loop := sFor_pre (fi := iSq' (xV 3)) (T := .nm 5) (f := l_law_k03_1) (ρ := [S, x1, x2, some (.list ((sets ws).map eS)), some (dkD []), x5, x6, x7, x8, x9, x10, x11, x12])
    eS (fun pre ρ => ∃ y5 : Option PyData, ρ = [S, x1, x2, some (.list ((sets ws).map eS)), some (dkD (tab num lstV pre)), y5, x6, x7, x8, x9, x10, x11, x12]) (xs := sets ws) (by simp) ⟨x5, rfl⟩ (by
      rintro pre s post ρ hx ⟨y5, rfl⟩
      have hs : s ∈ sets ws := by rw [hx]; simp
      have hpl : pre.length ≤ 2196 := by
        have h2 := congrArg List.length hx
        simp at h2
        omega
      have hl : (tab num lstV pre).length < 1000000 := by
        have h1 := tab_len (num := num) (v := lstV) pre
        omega
      have hg : (dget (tab num lstV pre) (.int (num s))).getD (.list []) = .list ((pre.filter fun t => decide (num t = num s)).map eS) := by
        rw [tab_get]
        by_cases c : num s ∈ pre.map num
        · rw [if_pos c]; rfl
        · rw [if_neg c, filter_none c]; rfl
      have hfl : (pre.filter fun t => decide (num t = num s)).length + 1 ≤ sizeLine := by
        have := List.length_filter_le (fun t => decide (num t = num s)) pre
        rw [sizeLine_eq]; omega
      have hn := number_s h hs
      have hp : putD (dkD (tab num lstV pre)) (.int (num s)) (.list ((pre.filter fun t => decide (num t = num s)).map eS ++ [eS s])) = .ok (dkD (tab num lstV (pre ++ [s]))) := by
        rw [putD_int rfl hl, ← tab_snoc]
        simp [lstV]
      have l1 : lstM [eS s] = .ok (.list [eS s]) := lstM_of rfl (by simp)
      refine ⟨_, [S, x1, x2, some (.list ((sets ws).map eS)), some (dkD (tab num lstV (pre ++ [s]))), some (eS s), x6, x7, x8, x9, x10, x11, x12], rfl, ?_, _, rfl⟩
      simp only [l_law_k03_1, sPut_ap, xBin_ap, xGet2_ap, xV_ap, xCall_ap, aC_ap, aN_ap, xLst_ap, List.set, gv_4, gv_5, Res.ok_bind, isDic_dk, if_pos, hn, lstM_0, dicD_int, hg, l1, addD_list, List.length_map, List.length_singleton, List.length_cons, List.length_nil, Nat.zero_add, hfl, st_okM, hp])
  obtain ⟨ρ', l1, y5, rfl⟩ := loop
  exact ⟨y5, l1⟩
/-- all settings by their numbers -/
theorem sum_many (ws : List W3) : (((numsOf ws).map fun k => (many ws k : Int)).sum) = ((sets ws).length : Int) := by
  unfold numsOf many
  generalize sets ws = S
  have gen : ∀ (K : List Int), K.Nodup → (K.map fun k => ((S.filter fun s => decide (num s = k)).length : Int)).sum = ((S.filter fun s => decide (num s ∈ K)).length : Int) := by
    intro K
    induction K with
    | nil =>
      intro _
      rw [List.filter_eq_nil_iff.mpr (by simp)]
      rfl
    | cons k K ih =>
      intro hn
      obtain ⟨h1, h2⟩ := List.nodup_cons.mp hn
      rw [List.map_cons, List.sum_cons, ih h2]
      have : ∀ S : List (List Int), ((S.filter fun s => decide (num s ∈ k :: K)).length : Int) = ((S.filter fun s => decide (num s = k)).length : Int) + ((S.filter fun s => decide (num s ∈ K)).length : Int) := by
        intro S
        induction S with
        | nil => rfl
        | cons s S ihS =>
          by_cases c : num s = k
          · have c2 : ¬ num s ∈ K := fun z => h1 (c ▸ z)
            rw [List.filter_cons_of_pos (by simp [c]), List.filter_cons_of_pos (by simp [c]), List.filter_cons_of_neg (by simp [c2]), List.length_cons, List.length_cons]
            omega
          · by_cases c2 : num s ∈ K
            · rw [List.filter_cons_of_pos (by simp [c2]), List.filter_cons_of_neg (by simp [c]), List.filter_cons_of_pos (by simp [c2]), List.length_cons, List.length_cons]
              omega
            · rw [List.filter_cons_of_neg (by simp [c, c2]), List.filter_cons_of_neg (by simp [c]), List.filter_cons_of_neg (by simp [c2])]
              exact ihS
      exact (this S).symm
  rw [gen _ (nodup_uniq _)]
  congr 2
  rw [List.filter_eq_self]
  intro s hs
  simp only [decide_eq_true_eq]
  exact (mem_uniq _ _).mpr (List.mem_map.mpr ⟨s, hs, rfl⟩)
theorem perm_sum {l m : List Int} (h : l.Perm m) : l.sum = m.sum := by
  induction h with
  | nil => rfl
  | cons a _ ih => rw [List.sum_cons, List.sum_cons, ih]
  | swap a b l => rw [List.sum_cons, List.sum_cons, List.sum_cons, List.sum_cons]; omega
  | trans _ _ h1 h2 => exact h1.trans h2
theorem sum_sorted (ns : List Int) (f : Int → Int) : ((sortI ns).map f).sum = (ns.map f).sum := perm_sum ((List.mergeSort_perm ns _).map f)
end Bv
set_option Elab.async false
set_option linter.all false
set_option maxRecDepth 100000
set_option maxHeartbeats 1000000
namespace Bv
open PySem PySem.Spec L2
def mn : List Int → Int
  | [] => 0
  | n :: r => minI n r
def mx : List Int → Int
  | [] => 0
  | n :: r => maxI n r
theorem mn_is {l : List Int} (h : l ≠ []) : mn l ∈ l ∧ ∀ k ∈ l, mn l ≤ k := by
  cases l with
  | nil => exact absurd rfl h
  | cons n r => exact minI_mem r n
theorem mx_is {l : List Int} (h : l ≠ []) : mx l ∈ l ∧ ∀ k ∈ l, k ≤ mx l := by
  cases l with
  | nil => exact absurd rfl h
  | cons n r => exact maxI_mem r n
theorem mn_eq {l m : List Int} (h : l ≠ []) (e : ∀ k, k ∈ l ↔ k ∈ m) : mn l = mn m := by
  have hm : m ≠ [] := fun z => by
    obtain ⟨a, ha⟩ := List.exists_mem_of_ne_nil l h
    have := (e a).mp ha
    rw [z] at this
    cases this
  obtain ⟨a1, a2⟩ := mn_is h
  obtain ⟨b1, b2⟩ := mn_is hm
  exact Int.le_antisymm (a2 _ ((e _).mpr b1)) (b2 _ ((e _).mp a1))
theorem min_mn {l : List Int} (h : l ≠ []) : biD .min [eL l] = .ok (.int (mn l)) := by
  have := min_law ordInt (by decide) (xs := l) (mn_is h).1 fun y hy => decide_eq_false (show ¬ y < mn l from by have := (mn_is h).2 y hy; omega)
  exact this
theorem max_mx {l : List Int} (h : l ≠ []) : biD .max [eL l] = .ok (.int (mx l)) := max_ints (mx_is h).1 (mx_is h).2
def ab (x : Int) : Int := if x < 0 then -x else x
theorem ab_nn (x : Int) : 0 ≤ ab x := by unfold ab; split <;> omega
theorem ab_0 {x : Int} : ab x = 0 ↔ x = 0 := by unfold ab; split <;> omega
@[simp] theorem abs_ab {i : Int} : biD .abs [.int i] = .ok (.int (ab i)) := rfl
theorem nums_ne {ws : List W3} (h : OkC ws) : numsOf ws ≠ [] := by
  obtain ⟨w1, w2, w3, rfl⟩ := three h
  intro z
  have := (ends_nums h).lo
  rw [z] at this
  cases this
/-- the least size of an error -/
def sz (ws : List W3) (b : Int) : Int := mn ((numsOf ws).map fun n => ab (n - b))
theorem sz_is {ws : List W3} (h : OkC ws) (b : Int) : (∃ n ∈ numsOf ws, ab (n - b) = sz ws b) ∧ ∀ n ∈ numsOf ws, sz ws b ≤ ab (n - b) := by
  obtain ⟨h1, h2⟩ := mn_is (l := (numsOf ws).map fun n => ab (n - b)) (by simpa using nums_ne h)
  refine ⟨?_, fun n hn => h2 _ (List.mem_map.mpr ⟨n, hn, rfl⟩)⟩
  obtain ⟨n, hn, e⟩ := List.mem_map.mp h1
  exact ⟨n, hn, e⟩
theorem sz_nn {ws : List W3} (h : OkC ws) (b : Int) : 0 ≤ sz ws b := by
  obtain ⟨n, _, e⟩ := (sz_is h b).1
  rw [← e]; exact ab_nn _
theorem sz_0 {ws : List W3} (h : OkC ws) (b : Int) : sz ws b = 0 ↔ b ∈ numsOf ws := by
  obtain ⟨⟨n, hn, e⟩, h2⟩ := sz_is h b
  constructor
  · intro z
    rw [z, ab_0] at e
    have : n = b := by omega
    rw [← this]; exact hn
  · intro hb
    have h1 := h2 b hb
    have : ab (b - b) = 0 := ab_0.mpr (by omega)
    have := sz_nn h b
    omega
theorem tab_small {ws : List W3} (h : OkC ws) : (tab num cntV (sets ws)).length ≤ 2197 := by
  have hb := sets_size ws h.ok
  rw [h.len] at hb
  exact Nat.le_trans (tab_len _) hb
theorem dkeys_tab {ws : List W3} (h : OkC ws) : dkeys (dkD (tab num cntV (sets ws))) = .ok ((numsOf ws).map .int) := by
  have tl := tab_small h
  show (if (tab num cntV (sets ws)).length ≤ 1000000 then Res.ok ((tab num cntV (sets ws)).map (·.1)) else .stuck) = _
  rw [if_pos (by omega), tab_map, List.map_map]
  rfl
theorem eL_map {α : Type} (f : α → Int) (l : List α) : eL (l.map f) = .list (l.map fun a => .int (f a)) := by
  unfold eL
  rw [List.map_map]
  rfl
theorem find_size_c {ws : List W3} (h : OkC ws) (b : Int) : p_find_size [dkD (tab num cntV (sets ws)), .int b] = .ok (.int (sz ws b)) := by
  have hc : c_find_size_1 [some (dkD (tab num cntV (sets ws))), some (.int b), none] = .ok (eL ((numsOf ws).map fun n => ab (n - b))) := by
    rw [eL_map]
    refine xComp_map (vs := [2]) PyData.int (fun n => .int (ab (n - b))) (xs := numsOf ws) (by
      show (gv _ 0).bind dkeys = _
      rw [gv_0]
      exact dkeys_tab h) fun n hn => ⟨_, rfl, rfl, by simp [wipeR], rfl⟩
  have := min_mn (l := (numsOf ws).map fun n => ab (n - b)) (by simpa using nums_ne h)
  simp [p_find_size, runD, f_find_size, hc, this]
  rfl
theorem least_error_c {ws : List W3} (h : OkC ws) {b : Int} (h1 : -60 ≤ b) (h2 : b ≤ 120) : p_least_error [cD ws, .int b] = .ok (.int (sz ws b)) := by
  simp [p_least_error, runD, f_least_error, check_both_c h h1 h2, find_numbers_c h, find_size_c h b]
def near (ws : List W3) (b : Int) : List (List Int) := (sets ws).filter fun s => decide (ab (num s - b) = sz ws b)
theorem nearest_c {ws : List W3} (h : OkC ws) {b : Int} (h1 : -60 ≤ b) (h2 : b ≤ 120) : p_nearest_settings [cD ws, .int b] = .ok (.list ((near ws b).map eS)) := by
  have hc : c_nearest_settings_1 [some (cD ws), some (.int b), some (.int (sz ws b)), none] = .ok (.list ((near ws b).map eS)) := by
    refine xComp_fm (vs := [3]) eS (fun s => decide (ab (num s - b) = sz ws b)) eS (xs := sets ws) (by simp [all_settings_c h]) fun s hs => ⟨_, rfl, by simp [wipeR, find_exposure_s h hs], fun _ => ⟨by simp [wipeR], rfl⟩⟩
  simp [p_nearest_settings, runD, f_nearest_settings, check_both_c h h1 h2, find_numbers_c h, find_size_c h b, hc]
/-- the whole numbers from lo to hi -/
def rg (lo hi : Int) : List Int := (List.range (hi - lo).toNat).map fun (i : Nat) => lo + (i : Int)
theorem mem_rg {lo hi k : Int} : k ∈ rg lo hi ↔ lo ≤ k ∧ k < hi := by
  unfold rg
  rw [List.mem_map]
  constructor
  · rintro ⟨i, hi', rfl⟩
    rw [List.mem_range] at hi'
    omega
  · rintro ⟨h1, h2⟩
    exact ⟨(k - lo).toNat, List.mem_range.mpr (by omega), by omega⟩
theorem rg_snoc {lo hi : Int} (h : lo ≤ hi) : rg lo (hi + 1) = rg lo hi ++ [hi] := by
  unfold rg
  have e : (hi + 1 - lo).toNat = (hi - lo).toNat + 1 := by omega
  rw [e, List.range_succ, List.map_append, List.map_singleton]
  congr 2
  omega
theorem rg_at {lo hi : Int} {i : Nat} (h : i < (hi - lo).toNat) : (rg lo hi)[i]? = some (lo + (i : Int)) := by
  unfold rg
  rw [List.getElem?_map, List.getElem?_range h]
  rfl
theorem rg_len (lo hi : Int) : (rg lo hi).length = (hi - lo).toNat := by simp [rg]
def holes (ws : List W3) (lo hi : Int) : List Int := (rg lo hi).filter fun k => !decide (k ∈ numsOf ws)
theorem gaps_c {ws : List W3} (h : OkC ws) {lo hi : Int} (e : Ends2 (numsOf ws) lo hi) (b1 : -1000000 ≤ lo) (b2 : hi ≤ 1000000) : p_gaps [cD ws] = .ok (eL (holes ws lo hi)) := by
  have k : keysI (tab num cntV (sets ws)) = some (numsOf ws) := tab_keys _
  have hle := (e.le _ e.hi).1
  have hc : c_gaps_1 [some (cD ws), some (dkD (tab num cntV (sets ws))), none] = .ok (eL (holes ws lo hi)) := by
    refine xComp_fm (vs := [2]) PyData.int (fun k => !decide (k ∈ numsOf ws)) PyData.int (xs := rg lo hi) (by simp [min_keys k e, max_keys k e, rngL_2 (a := lo) (b := hi) b1 (by omega) (by omega) b2, rg]) fun j hj => ⟨_, rfl, ?_, fun _ => ⟨by simp [wipeR], rfl⟩⟩
    have g : cmpD .NotIn (.int j) (dkD (tab num cntV (sets ws))) = .ok (.bool (!decide (j ∈ numsOf ws))) := by
      show inD true (.int j) (dkD (tab num cntV (sets ws))) = _
      have : inD true (.int j) (dkD (tab num cntV (sets ws))) = (Res.ok (dget (tab num cntV (sets ws)) (.int j))).bind fun o => .ok (.bool (o.isSome != true)) := by
        unfold inD
        split
        · rename_i q; cases q
        · rename_i q; cases q
        · rename_i q; injection q with q; injection q with q; cases q
        · rename_i q; injection q with q; subst q; rfl
        · rename_i q; cases q
        · rename_i q1 q2 q3 q4 q5; exact absurd rfl (q4 _)
      rw [this, tab_get]
      by_cases c : j ∈ numsOf ws
      · have c' := (mem_uniq _ _).mp c
        rw [if_pos c']
        simp [c]
      · have c' : j ∉ (sets ws).map num := fun z => c ((mem_uniq _ _).mpr z)
        rw [if_neg c']
        simp [c]
    simp [wipeR, g]
  simp [p_gaps, runD, f_gaps, check_camera_c h, find_numbers_c h, hc]
theorem find_reach_c {ws : List W3} (h : OkC ws) {lo hi : Int} (e : Ends2 (numsOf ws) lo hi) : p_find_reach [cD ws] = .ok (.tuple [.int lo, .int hi]) := by
  have k : keysI (tab num cntV (sets ws)) = some (numsOf ws) := tab_keys _
  simp [p_find_reach, runD, f_find_reach, find_numbers_c h, min_keys k e, max_keys k e, tupM_of]
theorem worst_c {ws : List W3} (h : OkC ws) {lo hi : Int} (e : Ends2 (numsOf ws) lo hi) (b1 : -1000 ≤ lo) (b2 : hi ≤ 1000) {k : Int} (hk : k ∈ rg lo (hi + 1)) (hm : ∀ j ∈ rg lo (hi + 1), sz ws j < sz ws k ∨ (sz ws j = sz ws k ∧ k ≤ j)) : p_worst_brightness [cD ws] = .ok (.int k) := by
  have hle := (e.le _ e.hi).1
  have hc : c_worst_brightness_1 [some (cD ws), some (dkD (tab num cntV (sets ws))), some (.int lo), some (.int hi), none] = .ok (.list ((rg lo (hi + 1)).map fun j => .tuple [.int (0 - sz ws j), .int j])) := by
    refine xComp_map (vs := [4]) PyData.int (fun j => .tuple [.int (0 - sz ws j), .int j]) (xs := rg lo (hi + 1)) (by simp [rngL_2 (a := lo) (b := hi + 1) (by omega) (by omega) (by omega) (by omega), rg]) fun j hj => ⟨_, rfl, rfl, by simp [-Int.zero_sub, wipeR, find_size_c h j, tupM_of], rfl⟩
  have hmin := min_law (ordPair ordInt ordInt) (by decide) (xs := (rg lo (hi + 1)).map fun j => ((0 - sz ws j : Int), j)) (m := ((0 - sz ws k : Int), k)) (List.mem_map.mpr ⟨k, hk, rfl⟩) (fun y hy => by
    obtain ⟨j, hj, rfl⟩ := List.mem_map.mp hy
    rw [lt_II]
    rcases hm j hj with c | ⟨c1, c2⟩
    · rw [if_neg (by (try dsimp only); omega)]
      exact decide_eq_false (by (try dsimp only); omega)
    · rw [if_pos (by (try dsimp only); omega)]
      exact decide_eq_false (by (try dsimp only); omega))
  rw [List.map_map] at hmin
  have hmin' : biD .min [.list ((rg lo (hi + 1)).map fun j => .tuple [.int (0 - sz ws j), .int j])] = .ok (.tuple [.int (0 - sz ws k), .int k]) := hmin
  simp [-Int.zero_sub, p_worst_brightness, runD, f_worst_brightness, check_camera_c h, find_numbers_c h, find_reach_c h e, hc, hmin']
theorem cover {w : W3} (h : OkW w) {L M n : Int} (hLM : M - L ≥ 2) (h1 : L + w.1 ≤ n) (h2 : n ≤ M + vmax w) : ∃ v ∈ vals w, L ≤ n - v ∧ n - v ≤ M := by
  have hs := h.s0
  have hs3 := h.s1
  have p := nV_pos' h
  by_cases c : (n - L - w.1) / w.2.2 < (nV w : Int)
  · have q0 : 0 ≤ (n - L - w.1) / w.2.2 := Int.ediv_nonneg (by omega) (by omega)
    obtain ⟨i, hi⟩ := Int.eq_ofNat_of_zero_le q0
    have hil : i < nV w := by omega
    refine ⟨w.1 + (i : Int) * w.2.2, List.mem_of_getElem? (vals_at w i hil), ?_⟩
    have d := Int.mul_ediv_add_emod (n - L - w.1) w.2.2
    have r0 := Int.emod_nonneg (n - L - w.1) (show w.2.2 ≠ 0 by omega)
    have r1 := Int.emod_lt_of_pos (n - L - w.1) (show 0 < w.2.2 by omega)
    rw [hi, Int.mul_comm] at d
    omega
  · refine ⟨vmax w, vmax_mem h, ?_, by omega⟩
    have d := Int.mul_ediv_add_emod (n - L - w.1) w.2.2
    have r0 := Int.emod_nonneg (n - L - w.1) (show w.2.2 ≠ 0 by omega)
    have := Int.mul_le_mul_of_nonneg_left (show (nV w : Int) - 1 ≤ (n - L - w.1) / w.2.2 by omega) (show 0 ≤ w.2.2 by omega)
    rw [Int.mul_comm] at this
    unfold vmax
    omega
theorem coverN {w : W3} (h : OkW w) {L M n : Int} (hLM : M - L ≥ 2) (h1 : L - vmax w ≤ n) (h2 : n ≤ M - w.1) : ∃ v ∈ vals w, L ≤ n + v ∧ n + v ≤ M := by
  obtain ⟨v, hv, a, b⟩ := cover h (L := -M) (M := -L) (n := -n) (by omega) (by omega) (by omega)
  exact ⟨v, hv, by omega, by omega⟩
theorem fine_vals {w : W3} (h : OkW w) (hs : w.2.2 = 1) : vmax w = w.2.1 ∧ ∀ v, w.1 ≤ v → v ≤ w.2.1 → v ∈ vals w := by
  have hn : (nV w : Int) = w.2.1 - w.1 + 1 := by
    unfold nV
    rw [hs, Int.ediv_one]
    have := h.m0
    omega
  refine ⟨by unfold vmax; rw [hs]; omega, fun v h1 h2 => ?_⟩
  have := vals_at w (v - w.1).toNat (by omega)
  have e : w.1 + (((v - w.1).toNat : Nat) : Int) * w.2.2 = v := by rw [hs]; omega
  rw [e] at this
  exact List.mem_of_getElem? this
theorem span_le {w : W3} (h : OkW w) : w.1 ≤ vmax w := by
  have p := nV_pos' h
  have := Int.mul_nonneg (show 0 ≤ (nV w : Int) - 1 by omega) (show 0 ≤ w.2.2 by have := h.s0; omega)
  unfold vmax
  omega
theorem no_holes {w1 w2 w3 : W3} (h : OkC [w1, w2, w3]) {w : W3} (hw : w ∈ [w1, w2, w3]) (hs : w.2.2 = 1) (hd : 2 ≤ w.2.1 - w.1) {n : Int} (h1 : lo3 w1 w2 w3 ≤ n) (h2 : n ≤ hi3 w1 w2 w3) : n ∈ numsOf [w1, w2, w3] := by
  have o1 := h.ok w1 (by simp)
  have o2 := h.ok w2 (by simp)
  have o3 := h.ok w3 (by simp)
  have p1 := span_le o1
  have p2 := span_le o2
  have p3 := span_le o3
  unfold lo3 at h1
  unfold hi3 at h2
  have fin : ∀ a b c, a ∈ vals w1 → b ∈ vals w2 → c ∈ vals w3 → a + b - c = n → n ∈ numsOf [w1, w2, w3] := fun a b c ha hb hc e => mem_nums.mpr ⟨[a, b, c], mem_sets3.mpr ⟨a, ha, b, hb, c, hc, rfl⟩, e⟩
  simp only [List.mem_cons, List.not_mem_nil, or_false] at hw
  rcases hw with rfl | rfl | rfl
  · obtain ⟨f1, f2⟩ := fine_vals o1 hs
    obtain ⟨c, hc, c1, c2⟩ := coverN o3 (L := w.1 + w2.1) (M := vmax w + vmax w2) (n := n) (by omega) (by omega) (by omega)
    obtain ⟨b, hb, b1, b2⟩ := cover o2 (L := w.1) (M := vmax w) (n := n + c) (by omega) (by omega) (by omega)
    exact fin (n + c - b) b c (f2 _ (by omega) (by omega)) hb hc (by omega)
  · obtain ⟨f1, f2⟩ := fine_vals o2 hs
    obtain ⟨c, hc, c1, c2⟩ := coverN o3 (L := w.1 + w1.1) (M := vmax w + vmax w1) (n := n) (by omega) (by omega) (by omega)
    obtain ⟨a, ha, a1, a2⟩ := cover o1 (L := w.1) (M := vmax w) (n := n + c) (by omega) (by omega) (by omega)
    exact fin a (n + c - a) c ha (f2 _ (by omega) (by omega)) hc (by omega)
  · obtain ⟨f1, f2⟩ := fine_vals o3 hs
    obtain ⟨b, hb, b1, b2⟩ := cover o2 (L := w1.1 - vmax w) (M := vmax w1 - w.1) (n := n) (by omega) (by omega) (by omega)
    obtain ⟨a, ha, a1, a2⟩ := cover o1 (L := -vmax w) (M := -w.1) (n := n - b) (by omega) (by omega) (by omega)
    exact fin a b (a + b - n) ha hb (f2 _ (by omega) (by omega)) (by omega)
end Bv
set_option Elab.async false
set_option linter.all false
set_option maxRecDepth 100000
set_option maxHeartbeats 1000000
namespace Bv
open PySem PySem.Spec L2
theorem nodup_fm {α β : Type} {f : α → List β} : ∀ {l : List α}, l.Nodup → (∀ a ∈ l, (f a).Nodup) → (∀ a ∈ l, ∀ b ∈ l, ∀ x, x ∈ f a → x ∈ f b → a = b) → (l.flatMap f).Nodup
  | [], _, _, _ => by simp
  | a :: l, hl, h1, h2 => by
    obtain ⟨na, nl⟩ := List.nodup_cons.mp hl
    rw [List.flatMap_cons, List.nodup_append]
    refine ⟨h1 a (by simp), nodup_fm nl (fun b hb => h1 b (by simp [hb])) fun b hb c hc => h2 b (by simp [hb]) c (by simp [hc]), fun x hx y hy e => ?_⟩
    subst e
    obtain ⟨b, hb, hxb⟩ := List.mem_flatMap.mp hy
    have := h2 a (by simp) b (by simp [hb]) x hx hxb
    exact na (this ▸ hb)
theorem nodup_mp {α β : Type} {f : α → β} : ∀ {l : List α}, l.Nodup → (∀ a ∈ l, ∀ b ∈ l, f a = f b → a = b) → (l.map f).Nodup
  | [], _, _ => by simp
  | a :: l, hl, h2 => by
    obtain ⟨na, nl⟩ := List.nodup_cons.mp hl
    rw [List.map_cons, List.nodup_cons]
    refine ⟨fun hx => ?_, nodup_mp nl fun b hb c hc => h2 b (by simp [hb]) c (by simp [hc])⟩
    obtain ⟨b, hb, e⟩ := List.mem_map.mp hx
    exact na (h2 b (by simp [hb]) a (by simp) e ▸ hb)
theorem vals_nodup {w : W3} (h : OkW w) : (vals w).Nodup := by
  refine nodup_mp List.nodup_range fun a _ b _ e => ?_
  have hs := h.s0
  have : (a : Int) * w.2.2 = (b : Int) * w.2.2 := by omega
  have := Int.eq_of_mul_eq_mul_right (by omega) this
  omega
theorem sets_nodup {ws : List W3} (h : OkC ws) : (sets ws).Nodup := by
  obtain ⟨w1, w2, w3, rfl⟩ := three h
  rw [sets_prod]
  refine nodup_fm (vals_nodup (h.ok w1 (by simp))) (fun a _ => nodup_fm (vals_nodup (h.ok w2 (by simp))) (fun b _ => nodup_mp (vals_nodup (h.ok w3 (by simp))) fun c _ d _ e => by injection e with _ e; injection e with _ e; injection e) ?_) ?_
  · intro b _ b' _ x hx hx'
    obtain ⟨c, _, rfl⟩ := List.mem_map.mp hx
    obtain ⟨c', _, e⟩ := List.mem_map.mp hx'
    injection e with _ e; injection e with e _
    exact e.symm
  · intro a _ a' _ x hx hx'
    obtain ⟨b, _, hx⟩ := List.mem_flatMap.mp hx
    obtain ⟨c, _, rfl⟩ := List.mem_map.mp hx
    obtain ⟨b', _, hx'⟩ := List.mem_flatMap.mp hx'
    obtain ⟨c', _, e⟩ := List.mem_map.mp hx'
    injection e with e _
    exact e.symm
theorem filter_one {α : Type} [DecidableEq α] {p : α → Bool} {u : α} : ∀ {l : List α}, l.Nodup → (∀ t ∈ l, p t = true ↔ t = u) → l.filter p = if u ∈ l then [u] else []
  | [], _, _ => by simp
  | a :: l, hl, h => by
    obtain ⟨na, nl⟩ := List.nodup_cons.mp hl
    have ih := filter_one nl fun t ht => h t (by simp [ht])
    have ha := h a (by simp)
    rw [List.filter_cons, ih]
    by_cases c : a = u
    · subst c
      rw [if_pos (ha.mpr rfl), if_neg na, if_pos (by simp)]
    · rw [if_neg (fun z => c (ha.mp z))]
      by_cases d : u ∈ l
      · rw [if_pos d, if_pos (by simp [d])]
      · rw [if_neg d, if_neg (by simp [d, Ne.symm c])]
section
variable {α : Type} {T : Tg} {f : FS} {fi : FA} {e : α → PyData}
/-- a loop that may hand back on the way -/
theorem forF_stop {P : List α → Rho → Prop} {q : α → Bool} {r : PyData} {xs : List α} (hs : ∀ pre a post ρ, xs = pre ++ a :: post → P pre ρ → ∃ ρ1, bindT T (e a) ρ = some ρ1 ∧ ((q a = true ∧ ∃ ρ2, f ρ1 = .nx ρ2 ∧ P (pre ++ [a]) ρ2) ∨ (q a = false ∧ f ρ1 = .rt r))) :
    ∀ {post pre : List α} {ρ : Rho}, xs = pre ++ post → P pre ρ → (∃ ρ', forF T f (post.map e) ρ = .nx ρ' ∧ P xs ρ' ∧ post.all q = true) ∨ (forF T f (post.map e) ρ = .rt r ∧ post.all q = false)
  | [], pre, ρ, hx, h => .inl ⟨ρ, rfl, by rw [hx, List.append_nil]; exact h, rfl⟩
  | a :: post, pre, ρ, hx, h => by
    obtain ⟨ρ1, h1, h2⟩ := hs pre a post ρ hx h
    rw [List.map_cons, forF, h1]
    show (∃ ρ', (f ρ1).seq _ = _ ∧ _) ∨ ((f ρ1).seq _ = _ ∧ _)
    rcases h2 with ⟨qa, ρ2, h2, h3⟩ | ⟨qa, h2⟩
    · rw [h2, List.all_cons, qa, Bool.true_and]
      exact forF_stop hs (post := post) (pre := pre ++ [a]) (by rw [hx, List.append_assoc]; rfl) h3
    · rw [h2, List.all_cons, qa, Bool.false_and]
      exact .inr ⟨rfl, rfl⟩
theorem sFor_stop (e : α → PyData) (P : List α → Rho → Prop) (q : α → Bool) (r : PyData) {xs : List α} {ρ : Rho} (hi : fi ρ = .ok (xs.map e)) (h0 : P [] ρ) (hs : ∀ pre a post ρ, xs = pre ++ a :: post → P pre ρ → ∃ ρ1, bindT T (e a) ρ = some ρ1 ∧ ((q a = true ∧ ∃ ρ2, f ρ1 = .nx ρ2 ∧ P (pre ++ [a]) ρ2) ∨ (q a = false ∧ f ρ1 = .rt r))) :
    (∃ ρ', sFor T fi f ρ = .nx ρ' ∧ P xs ρ' ∧ xs.all q = true) ∨ (sFor T fi f ρ = .rt r ∧ xs.all q = false) := by
  unfold sFor
  rw [hi]
  exact forF_stop hs (post := xs) (pre := []) rfl h0
end
end Bv
set_option Elab.async false
set_option linter.all false
set_option maxRecDepth 100000
set_option maxHeartbeats 1000000
namespace Bv
open PySem PySem.Spec L2
noncomputable abbrev drawnW : FS := sWhl (tAnd (tV (xCmp .Gt (xV 5) (xK (.int 0)))) (tV (xCmp .Gt (xV 4) (xK (.int 0))))) l__law_drawn_1
theorem drawn_loop (d0 d1 d2 d3 : PyData) : ∀ (n : Nat) (a r : Int), a.toNat = n → ∃ a' r', drawnW [some d0, some d1, some d2, some d3, some (.int a), some (.int r)] = .nx [some d0, some d1, some d2, some d3, some (.int a'), some (.int r')]
  | 0, a, r, h => ⟨a, r, sWhl_f (by
    have : ¬ 0 < a := by omega
    simp [this])⟩
  | n + 1, a, r, h => by
    by_cases hr : 0 < r
    · obtain ⟨a', r', e⟩ := drawn_loop d0 d1 d2 d3 n (a - 1) (r / 1000000) (by omega)
      have ha : 0 < a := by omega
      exact ⟨a', r', (sWhl_t (by simp [hr, ha]) (by simp [l__law_drawn_1])).trans e⟩
    · exact ⟨a, r, sWhl_f (by simp [hr])⟩
theorem drawn_ok {ns : List Int} (hn : ns.length ≤ 63) {k many : Int} (hk : 0 ≤ k) (hm : 0 < many) : ∃ v, 0 ≤ v ∧ v < many ∧ p__law_drawn [scrD (ns.map .int), .int k, .int many] = .ok (.int v) := by
  obtain ⟨S, hS⟩ : ∃ S, S = scrD (ns.map .int) := ⟨_, rfl⟩
  -- the end
  have rest : ∀ (c : Int) (x4 x5 : Option PyData), ∃ v, 0 ≤ v ∧ v < many ∧ (sC (sSet 3 (xBin .Mod (xBin .Add (xBin .Mult (xBin .Mod (xV 3) (xK (.int 2147483563))) (xK (.int 69069))) (xBin .Mult (xK (.int 104723)) (xBin .Add (xV 1) (xK (.int 1))))) (xK (.int 2147483563)))) (sC (sSet 3 (xBin .Mod (xBin .Add (xBin .Mult (xV 3) (xV 3)) (xBin .FloorDiv (xV 3) (xK (.int 3)))) (xK (.int 2147483399)))) (sRet (xBin .Mod (xBin .FloorDiv (xBin .Mod (xBin .Add (xBin .Mult (xV 3) (xV 3)) (xBin .FloorDiv (xV 3) (xK (.int 7)))) (xK (.int 2147483647))) (xK (.int 11))) (xV 2))))) [some S, some (.int k), some (.int many), some (.int c), x4, x5] = .rt (.int v) := fun c x4 x5 => by
    obtain ⟨d, hd⟩ : ∃ d, d = (c % 2147483563 * 69069 + 104723 * (k + 1)) % 2147483563 := ⟨_, rfl⟩
    have d1 : 0 ≤ d ∧ d < 2147483563 := by rw [hd]; exact ⟨Int.emod_nonneg _ (by decide), Int.emod_lt_of_pos _ (by decide)⟩
    obtain ⟨e, he⟩ : ∃ e, e = (d * d + d / 3) % 2147483399 := ⟨_, rfl⟩
    have e1 : 0 ≤ e ∧ e < 2147483399 := by rw [he]; exact ⟨Int.emod_nonneg _ (by decide), Int.emod_lt_of_pos _ (by decide)⟩
    have m1 := Int.emod_nonneg ((e * e + e / 7) % 2147483647 / 11) (show many ≠ 0 by omega)
    have m2 := Int.emod_lt_of_pos ((e * e + e / 7) % 2147483647 / 11) hm
    have bd : (-18446744073709551616 < d ∧ d < 18446744073709551616) := by omega
    have be : (-18446744073709551616 < e ∧ e < 18446744073709551616) := by omega
    exact ⟨_, m1, m2, sC_nx (sSet_ok (d := .int d) (by simp [hd])) (sC_nx (sSet_ok (d := .int e) (by simp [bd, he])) (sRet_ok (by simp [be, hm])))⟩
  have z := scr_ne_nil ns
  by_cases h : ns = []
  · subst h
    rw [← hS] at z ⊢
    obtain ⟨v, v0, v1, ev⟩ := rest (7 * k) none none
    refine ⟨v, v0, v1, runD_rt rfl (sC_nx (sSet_ok (d := .int (7 * k)) (by simp)) (sC_nx (sIf_f ?_ rfl) ev))⟩
    rw [tV_ap, xCmp_ap, xV_ap, xLst_ap]
    show (Res.bind (.ok S) fun d => (Res.bind (.ok (.list [])) fun e => cmpD .NotEq d e)).bind toB = _
    rw [Res.ok_bind, Res.ok_bind, z]
    rfl
  · obtain ⟨c, hc⟩ := scr_at h hk
    have hl : (0 : Int) < ns.length := by
      have := List.length_pos_iff.mpr h
      omega
    have hl2 : (ns.length : Int) < 1180591620717411303424 := by omega
    have he : ns.isEmpty = false := by cases ns with
      | nil => exact absurd rfl h
      | cons _ _ => rfl
    have len : biD .len [S] = .ok (.int ns.length) := by rw [hS]; simp
    rw [← hS] at z hc ⊢
    obtain ⟨L, hL⟩ : ∃ L : Int, L = ns.length := ⟨_, rfl⟩
    rw [← hL] at hl hl2 len hc
    have cond : (tV (xCmp .NotEq (xV 0) (xLst (aN)))) [some S, some (.int k), some (.int many), some (.int (7 * k)), none, none] = .ok true := by
      simp only [tV_ap, xCmp_ap, xV_ap, gv_0, xLst_ap, aN_ap, Res.ok_bind, lstM_0, z, he]
      rfl
    obtain ⟨q, hq⟩ : ∃ q, q = k / L := ⟨_, rfl⟩
    have s1 : (xIdx (xV 0) (xBin .Mod (xV 1) (xBi .len (aC (xV 0) (aN))))) [some S, some (.int k), some (.int many), some (.int (7 * k)), none, none] = .ok (.int c) := by
      simp [len, hl, hc]
    have s2 : (xBin .FloorDiv (xV 1) (xBi .len (aC (xV 0) (aN)))) [some S, some (.int k), some (.int many), some (.int c), none, none] = .ok (.int q) := by
      simp [len, hl, hl2, hq]
    have s3 : ∀ x4 x5, (xBin .Add (xV 3) (xBin .Mult (xK (.int 6553)) (xBin .FloorDiv (xV 1) (xBi .len (aC (xV 0) (aN)))))) [some S, some (.int k), some (.int many), some (.int c), x4, x5] = .ok (.int (c + 6553 * q)) := fun x4 x5 => by
      simp [len, hl, hl2, hq]
    by_cases g : 1000000000000000000 ≤ c ∧ q < 60
    · obtain ⟨g1, g2⟩ := g
      obtain ⟨a', r', e2⟩ := drawn_loop S (.int k) (.int many) (.int c) _ q (c / 1000000000000000000) rfl
      by_cases hr : 0 < r'
      · have m1 := Int.emod_nonneg (r' % 1000000) (show many ≠ 0 by omega)
        have m2 := Int.emod_lt_of_pos (r' % 1000000) hm
        exact ⟨_, m1, m2, runD_rt rfl (sC_nx (sSet_ok (d := .int (7 * k)) (by simp)) (sC_rt (sIf_t cond (sC_nx (sSet_ok s1) (sC_nx (sSet_ok s2) (sC_rt (sIf_t (by simp [g1, g2]) (sC_nx (sSet_ok (d := .int (c / 1000000000000000000)) (by simp)) (sC_nx e2 (sIf_t (by simp [hr]) (sRet_ok (by simp [hm]))))))))))))⟩
      · obtain ⟨v, v0, v1, ev⟩ := rest (c + 6553 * q) (some (.int a')) (some (.int r'))
        exact ⟨v, v0, v1, runD_rt rfl (sC_nx (sSet_ok (d := .int (7 * k)) (by simp)) (sC_nx (sIf_t cond (sC_nx (sSet_ok s1) (sC_nx (sSet_ok s2) (sC_nx (sIf_t (by simp [g1, g2]) (sC_nx (sSet_ok (d := .int (c / 1000000000000000000)) (by simp)) (sC_nx e2 (sIf_f (by simp [hr]) rfl)))) (sSet_ok (s3 _ _)))))) ev))⟩
    · obtain ⟨v, v0, v1, ev⟩ := rest (c + 6553 * q) (some (.int q)) none
      exact ⟨v, v0, v1, runD_rt rfl (sC_nx (sSet_ok (d := .int (7 * k)) (by simp)) (sC_nx (sIf_t cond (sC_nx (sSet_ok s1) (sC_nx (sSet_ok s2) (sC_nx (sIf_f (by
        by_cases g1 : 1000000000000000000 ≤ c
        · have : ¬ q < 60 := fun z => g ⟨g1, z⟩
          simp [g1, this]
        · simp [g1]) rfl) (sSet_ok (s3 _ _)))))) ev))⟩
end Bv
set_option Elab.async false
set_option linter.all false
set_option maxRecDepth 100000
set_option maxHeartbeats 1000000
namespace Bv
open PySem PySem.Spec L2
theorem camera_d {ns : List Int} (hn : ns.length ≤ 63) {at_ : Int} (ha : 0 ≤ at_) : ∃ ws : List W3, ws.length = 3 ∧ (∀ w ∈ ws, OkB 4 w) ∧ p__law_camera [scrD (ns.map .int), .int at_] = .ok (cD ws) := by
  obtain ⟨S, hS⟩ : ∃ S, S = scrD (ns.map .int) := ⟨_, rfl⟩
  have loop := sFor_pre (fi := iRg 1 (aC (xK (.int 3)) (aN))) (T := .nm 3) (f := l__law_camera_1)
    (ρ := [some S, some (.int at_), some (.list []), none, none, none, none])
    PyData.int (fun pre ρ => ∃ (x3 x4 x5 x6 : Option PyData) (ws : List W3), ws.length = pre.length ∧ (∀ w ∈ ws, OkB 4 w) ∧ ρ = [some S, some (.int at_), some (.list (ws.map wD)), x3, x4, x5, x6]) (xs := [0, 1, 2]) (by simp; rfl)
    ⟨none, none, none, none, [], rfl, fun _ h => absurd h List.not_mem_nil, rfl⟩ (by
      rintro pre k post ρ hx ⟨x3, x4, x5, x6, ws, hl, hw, rfl⟩
      have hk : 0 ≤ k := by
        have : k ∈ ([0, 1, 2] : List Int) := by rw [hx]; simp
        simp at this
        omega
      have hpl : pre.length ≤ 2 := by
        have := congrArg List.length hx
        simp at this
        omega
      obtain ⟨l, l0, l1, e1⟩ := drawn_ok hn (k := at_ + 3 * k) (many := 20) (by omega) (by omega)
      obtain ⟨s, s0, s1, e2⟩ := drawn_ok hn (k := at_ + 1 + 3 * k) (many := 3) (by omega) (by omega)
      obtain ⟨n, n0, n1, e3⟩ := drawn_ok hn (k := at_ + 2 + 3 * k) (many := 4) (by omega) (by omega)
      obtain ⟨r, r0, r1, e4⟩ := drawn_ok hn (k := at_ + 9 + k) (many := 1 + s) (by omega) (by omega)
      rw [← hS] at e1 e2 e3 e4
      have b : (-18446744073709551616 < 1 + s ∧ 1 + s < 18446744073709551616) := by omega
      refine ⟨_, _, rfl, sC_nx (ρ1 := [some S, some (.int at_), some (.list (ws.map wD)), some (.int k), some (.int l), some (.int (1 + s)), x6]) (by simp [e1, e2]) (sC_nx (sSet_ok (d := .int (l + (1 + s) * n + r)) (by simp [e3, e4, b])) (?_ : _ = SR.nx [some S, some (.int at_), some (.list ((ws ++ [(l, l + (1 + s) * n + r, 1 + s)]).map wD)), some (.int k), some (.int l), some (.int (1 + s)), some (.int (l + (1 + s) * n + r))])), _, _, _, _, ws ++ [(l, l + (1 + s) * n + r, 1 + s)], by simp [hl], ?_, rfl⟩
      · refine (sApp_ok (a := ws.map wD) (y := wD (l, l + (1 + s) * n + r, 1 + s)) rfl (by simp [tupM_of, wD]) rfl (by simp; omega)).trans ?_
        simp
      · have sn : (1 + s) * n ≤ 3 * 3 := by
          have h1 : (1 + s) * n ≤ 3 * n := Int.mul_le_mul_of_nonneg_right (by omega) n0
          omega
        have sn0 : 0 ≤ (1 + s) * n := Int.mul_nonneg (by omega) n0
        have hd : (l + (1 + s) * n + r - l) / (1 + s) = n := by
          have : l + (1 + s) * n + r - l = r + (1 + s) * n := by omega
          rw [this, Int.add_mul_ediv_left _ _ (by omega), Int.ediv_eq_zero_of_lt r0 r1]
          omega
        intro w h
        rcases List.mem_append.mp h with h | h
        · exact hw w h
        · rw [List.mem_singleton.mp h]
          refine ⟨⟨l0, by show l ≤ 40; omega, by show l ≤ l + (1 + s) * n + r; omega, by show l + (1 + s) * n + r ≤ 60; omega, by show 1 ≤ 1 + s; omega, by show 1 + s ≤ 3; omega, ?_⟩, ?_, ?_⟩
          · show (l + (1 + s) * n + r - l) / (1 + s) + 1 ≤ 13
            rw [hd]; omega
          · unfold nV
            (try dsimp only)
            rw [hd]
            omega
          · show l ≤ 22
            omega)
  obtain ⟨ρ', h1, x3, x4, x5, x6, ws, hl, hw, rfl⟩ := loop
  rw [← hS]
  exact ⟨ws, hl, hw, runD_rt rfl (sC_nx (sSet_ok (d := .list []) (by simp)) (sC_nx h1 (sRet_ok (by simp [cD]))))⟩
theorem rng3_w {w : W3} (h : OkW w) : rngL [.int w.1, .int (w.2.1 + 1), .int w.2.2] = .ok (vals w) := by
  have := wheel_values_w h
  obtain ⟨l, m, s⟩ := w
  have e : p_wheel_values [wD (l, m, s)] = (rngL [.int l, .int (m + 1), .int s]).bind fun ns => .ok (.list (ns.map .int)) := by
    simp [p_wheel_values, runD, f_wheel_values, wD, bindT, setAll]
    cases rngL [.int l, .int (m + 1), .int s] <;> rfl
  rw [e] at this
  cases hr : rngL [.int l, .int (m + 1), .int s] with
  | ok ns =>
    rw [hr] at this
    have h2 : PyData.list (ns.map .int) = .list ((vals (l, m, s)).map .int) := by
      injection this
    injection h2 with h2
    rw [map_inj isEn_int _ _ h2]
  | exc c => rw [hr] at this; cases this
  | stuck => rw [hr] at this; cases this
theorem settings_d {ws : List W3} (h : OkC ws) : p__law_settings [cD ws] = .ok (.list ((sets ws).map eS)) := by
  refine runD_rt rfl (sC_nx (sSet_ok (d := .list [.tuple []]) (by simp [lstM_of])) ?_)
  have loop := sFor_pre (fi := iSq' (xV 0)) (T := .tp [2, 3, 4]) (f := l__law_settings_2) (ρ := [some (cD ws), some (.list [.tuple []]), none, none, none, none, none, none])
    wD (fun pre ρ => ∃ (x2 x3 x4 x5 x6 : Option PyData), ρ = [some (cD ws), some (.list ((sets pre).map eS)), x2, x3, x4, x5, x6, none]) (xs := ws) (by simp [cD]) ⟨none, none, none, none, none, rfl⟩ (by
      rintro pre w post ρ hw ⟨x2, x3, x4, x5, x6, rfl⟩
      have okw : OkW w := h.ok w (by rw [hw]; simp)
      have okp : ∀ v ∈ pre, OkW v := fun v hv => h.ok v (by rw [hw]; simp [hv])
      have lp : pre.length ≤ 2 := by
        have := h.len
        rw [hw, List.length_append, List.length_cons] at this
        omega
      have big : (sets pre).length ≤ 169 := Nat.le_trans (sets_size _ okp) (Nat.le_trans (Nat.pow_le_pow_right (by decide) lp) (by decide))
      have r3 := rng3_w okw
      obtain ⟨l, m, s⟩ := w
      (try dsimp only at r3)
      have inner := sFor_pre (fi := iSq' (xV 1)) (T := .nm 6) (f := l__law_settings_1) (ρ := [some (cD ws), some (.list ((sets pre).map eS)), some (.int l), some (.int m), some (.int s), some (.list []), x6, none])
        eS (fun done ρ => ∃ (x6 : Option PyData), ρ = [some (cD ws), some (.list ((sets pre).map eS)), some (.int l), some (.int m), some (.int s), some (.list ((grow (l, m, s) done).map eS)), x6, none]) (xs := sets pre) (by simp) ⟨x6, rfl⟩ (by
          rintro done b rest ρ hb ⟨x6, rfl⟩
          have bl : b.length ≤ 2 := by rw [sets_each pre b (by rw [hb]; simp)]; exact lp
          have dl : done.length ≤ 169 := by
            have := congrArg List.length hb
            simp at this
            omega
          have hc : c__law_settings_1 [some (cD ws), some (.list ((sets pre).map eS)), some (.int l), some (.int m), some (.int s), some (.list ((grow (l, m, s) done).map eS)), some (eS b), none] = .ok (.list (((vals (l, m, s)).map fun v => b ++ [v]).map eS)) := by
            have key := xComp_map (ρ := [some (cD ws), some (.list ((sets pre).map eS)), some (.int l), some (.int m), some (.int s), some (.list ((grow (l, m, s) done).map eS)), some (eS b), none]) (fi := iRg 3 (aC (xV 2) (aC (xBin .Add (xV 3) (xK (.int 1))) (aC (xV 4) (aN))))) (T := .nm 7)
              (ft := tYs) (fe := xBin .Add (xV 6) (xTup (aC (xV 7) (aN)))) (vs := [7])
              PyData.int (fun k => eS (b ++ [k])) (xs := vals (l, m, s)) (by simp [r3]) (fun k hk => ⟨_, rfl, rfl, ?_, rfl⟩)
            · rw [List.map_map]
              exact key
            · have : b.length + 1 ≤ sizeLine := by rw [sizeLine_eq]; omega
              simp [wipeR, tupM_of, eS, this]
          have gl : ((grow (l, m, s) done).map eS).length + (((vals (l, m, s)).map fun v => b ++ [v]).map eS).length ≤ sizeLine := by
            rw [List.length_map, List.length_map, List.length_map, grow_len, vals_len, sizeLine_eq]
            have := nV_le okw
            have : done.length * nV (l, m, s) ≤ 169 * 13 := Nat.mul_le_mul dl this
            omega
          refine ⟨_, _, rfl, sSet_ok (d := .list ((grow (l, m, s) (done ++ [b])).map eS)) ?_, _, rfl⟩
          rw [xBin_ap]
          simp only [List.set, hc, xV_ap, gv_5, Res.ok_bind, addD_list, if_pos gl]
          rw [grow_snoc, List.map_append])
      obtain ⟨ρ', i1, y6, rfl⟩ := inner
      refine ⟨[some (cD ws), some (.list ((sets pre).map eS)), some (.int l), some (.int m), some (.int s), x5, x6, none], _, by simp [wD], sC_nx (sSet_ok (d := .list []) (by simp)) (sC_nx i1 (sSet_ok (d := .list ((grow (l, m, s) (sets pre)).map eS)) (by simp))), some (.int l), some (.int m), some (.int s), some (.list ((grow (l, m, s) (sets pre)).map eS)), y6, ?_⟩
      rw [sets_snoc]
      rfl)
  obtain ⟨ρ', h1, x2, x3, x4, x5, x6, rfl⟩ := loop
  exact sC_nx h1 (sRet_ok rfl)
/-- one of all settings, drawn -/
theorem drawn_t {ws : List W3} (h : OkC ws) {ns : List Int} (hn : ns.length ≤ 63) {k : Int} (hk : 0 ≤ k) : ∃ (j : Int) (s : List Int), s ∈ sets ws ∧ p__law_drawn [scrD (ns.map .int), .int k, .int (sets ws).length] = .ok (.int j) ∧ idxD (.list ((sets ws).map eS)) (.int j) = .ok (eS s) := by
  have hp := sets_pos h
  obtain ⟨j, j0, j1, ej⟩ := drawn_ok hn (k := k) (many := (sets ws).length) hk (by omega)
  obtain ⟨jn, rfl⟩ := Int.eq_ofNat_of_zero_le j0
  have jl : jn < (sets ws).length := by omega
  exact ⟨jn, (sets ws)[jn], List.getElem_mem jl, ej, idx_list (by rw [List.getElem?_map, List.getElem?_eq_getElem jl]; rfl)⟩
theorem light_d {ws : List W3} (h : OkC ws) {ns : List Int} (hn : ns.length ≤ 63) {k : Int} (hk : 0 ≤ k) : ∃ s ∈ sets ws, ∃ e : Int, -4 ≤ e ∧ e ≤ 4 ∧ p__law_light_k52 [scrD (ns.map .int), .int k, cD ws] = .ok (.int (num s + e)) := by
  obtain ⟨j, s, hs, ej, es⟩ := drawn_t h hn hk
  obtain ⟨p, p0, p1, ep⟩ := drawn_ok hn (k := k + 1) (many := 9) (by omega) (by omega)
  obtain ⟨q, q0, q1, eq⟩ := drawn_ok hn (k := k + 2) (many := 4) (by omega) (by omega)
  obtain ⟨S, hS⟩ : ∃ S, S = scrD (ns.map .int) := ⟨_, rfl⟩
  rw [← hS] at ej ep eq ⊢
  obtain ⟨e, e0, e1, ee⟩ : ∃ e : Int, -4 ≤ e ∧ e ≤ 4 ∧ idxD (.list [.int 0, .int 0, .int 1, .int (p - 4)]) (.int q) = .ok (.int e) := by
    have : q = 0 ∨ q = 1 ∨ q = 2 ∨ q = 3 := by omega
    rcases this with rfl | rfl | rfl | rfl
    · exact ⟨0, by omega, by omega, rfl⟩
    · exact ⟨0, by omega, by omega, rfl⟩
    · exact ⟨1, by omega, by omega, rfl⟩
    · exact ⟨p - 4, by omega, by omega, rfl⟩
  refine ⟨s, hs, e, e0, e1, runD_rt rfl (sC_nx (sSet_ok (d := .list ((sets ws).map eS)) (by simp [settings_d h])) (sC_nx (sSet_ok (d := .int (num s)) (by simp [ej, es, number_s h hs])) (sRet_ok ?_)))⟩
  simp [ep, eq, lstM_of, ee]
end Bv
set_option Elab.async false
set_option linter.all false
set_option maxRecDepth 100000
set_option maxHeartbeats 1000000
namespace Bv
open PySem PySem.Spec L2
open PySem.W (DatumOrd Datum minOf Tup listLt)
theorem lex_eq : ∀ a b : List Int, HT.lexLt a b = listLt a b
  | [], [] => rfl
  | [], _ :: _ => rfl
  | _ :: _, [] => rfl
  | x :: xs, y :: ys => by
    have ih := lex_eq xs ys
    simp only [HT.lexLt, listLt]
    by_cases c : x = y
    · subst c
      simp [ih]
    · have e : DatumOrd.lt x y = decide (x < y) := rfl
      rw [if_neg c, e]
      simp [c]
theorem lt_tup (a b : List Int) : cmpD .Lt (eS a) (eS b) = .ok (.bool (listLt a b)) := by
  show (match intsOf (a.map .int), intsOf (b.map .int) with
    | some ns, some ms => Res.ok (PyData.bool (HT.lexLt ns ms))
    | _, _ => .stuck) = _
  rw [intsOf_map, intsOf_map, ← lex_eq]
theorem pw_fm {α β : Type} {R : α → α → Prop} {Q : β → β → Prop} {f : α → List β} : ∀ {l : List α}, l.Pairwise R → (∀ a ∈ l, (f a).Pairwise Q) → (∀ a b, R a b → ∀ x ∈ f a, ∀ y ∈ f b, Q x y) → (l.flatMap f).Pairwise Q
  | [], _, _, _ => by simp
  | a :: l, hl, h1, h2 => by
    obtain ⟨ha, hl⟩ := List.pairwise_cons.mp hl
    rw [List.flatMap_cons, List.pairwise_append]
    refine ⟨h1 a (by simp), pw_fm hl (fun b hb => h1 b (by simp [hb])) h2, fun x hx y hy => ?_⟩
    obtain ⟨b, hb, hy⟩ := List.mem_flatMap.mp hy
    exact h2 a b (ha b hb) x hx y hy
theorem vals_lt {w : W3} (h : OkW w) : (vals w).Pairwise (· < ·) := by
  unfold vals
  rw [List.pairwise_map]
  refine List.pairwise_lt_range.imp fun {a b} hab => ?_
  have hs := h.s0
  have : ((b : Int) - a) * w.2.2 > 0 := Int.mul_pos (by omega) (by omega)
  rw [Int.sub_mul] at this
  omega
theorem lt3 {a b c a' b' c' : Int} (h : a < a' ∨ (a = a' ∧ (b < b' ∨ (b = b' ∧ c < c')))) : listLt [a, b, c] [a', b', c'] = true := by
  have e : ∀ x y : Int, DatumOrd.lt x y = decide (x < y) := fun _ _ => rfl
  simp only [listLt, e]
  rcases h with h | ⟨rfl, h | ⟨rfl, h⟩⟩
  · rw [if_neg (by omega)]; exact decide_eq_true h
  · rw [if_pos rfl, if_neg (by omega)]; exact decide_eq_true h
  · rw [if_pos rfl, if_pos rfl, if_neg (by omega)]; exact decide_eq_true h
theorem sets_lt {ws : List W3} (h : OkC ws) : (sets ws).Pairwise fun a b => listLt a b = true := by
  obtain ⟨w1, w2, w3, rfl⟩ := three h
  rw [sets_prod]
  refine pw_fm (vals_lt (h.ok w1 (by simp))) (fun a _ => pw_fm (vals_lt (h.ok w2 (by simp))) (fun b _ => ?_) fun b b' hb x hx y hy => ?_) fun a a' ha x hx y hy => ?_
  · rw [List.pairwise_map]
    exact (vals_lt (h.ok w3 (by simp))).imp fun {c c'} hc => lt3 (.inr ⟨rfl, .inr ⟨rfl, hc⟩⟩)
  · obtain ⟨c, _, rfl⟩ := List.mem_map.mp hx
    obtain ⟨c', _, rfl⟩ := List.mem_map.mp hy
    exact lt3 (.inr ⟨rfl, .inl hb⟩)
  · obtain ⟨b, _, hx⟩ := List.mem_flatMap.mp hx
    obtain ⟨c, _, rfl⟩ := List.mem_map.mp hx
    obtain ⟨b', _, hy⟩ := List.mem_flatMap.mp hy
    obtain ⟨c', _, rfl⟩ := List.mem_map.mp hy
    exact lt3 (.inl ha)
theorem lt_irr (a : List Int) : listLt a a = false := list_irr ordInt a
theorem lt_asym {a b : List Int} (h : listLt a b = true) : listLt b a = false := by
  cases c : listLt b a
  · rfl
  · have := list_tr ordInt a b a h c
    rw [lt_irr] at this
    cases this
/-- the first of some settings with the least value -/
theorem best_ex (f : List Int → Int) {L : List (List Int)} (h : L ≠ []) : ∃ b ∈ L, biD .min [.list (L.map fun s => .tuple [.int (f s), eS s])] = .ok (.tuple [.int (f b), eS b]) ∧ ∀ y ∈ L, f b < f y ∨ (f b = f y ∧ listLt y b = false) := by
  have ne : L.map (fun s => (f s, (⟨s⟩ : Tup Int))) ≠ [] := fun z => h (List.map_eq_nil_iff.mp z)
  obtain ⟨m, hm, hl⟩ := least_ex (ordPair ordInt (ordTup ordInt)) ne
  have k := min_law (ordPair ordInt (ordTup ordInt)) (by decide) hm hl
  obtain ⟨b, hb, rfl⟩ := List.mem_map.mp hm
  refine ⟨b, hb, ?_, fun y hy => ?_⟩
  · rw [List.map_map] at k
    exact k
  · have := hl _ (List.mem_map.mpr ⟨y, hy, rfl⟩)
    rw [lt_pair] at this
    (try dsimp only at this)
    by_cases c : f y = f b
    · rw [if_pos c] at this
      exact .inr ⟨c.symm, this⟩
    · rw [if_neg c] at this
      have : ¬ f y < f b := of_decide_eq_false this
      exact .inl (by omega)
/-- the first of a list in order is the least one -/
theorem first_lt {L : List (List Int)} (hp : L.Pairwise fun a b => listLt a b = true) {b : List Int} (hb : b ∈ L) (hl : ∀ y ∈ L, listLt y b = false) : L[0]? = some b := by
  cases L with
  | nil => cases hb
  | cons a L =>
    rcases List.mem_cons.mp hb with rfl | hb'
    · rfl
    · have h1 := (List.pairwise_cons.mp hp).1 b hb'
      rw [hl a (by simp)] at h1
      cases h1
end Bv
set_option Elab.async false
set_option linter.all false
set_option maxRecDepth 100000
set_option maxHeartbeats 1000000
namespace Bv
open PySem PySem.Spec L2
open PySem.W (DatumOrd Datum minOf Tup listLt)
theorem cutD_map {α β : Type} (f : α → β) (l : List α) (lo hi : Option Int) : cutD (l.map f) lo hi = (cutD l lo hi).map f := by
  unfold cutD
  rw [List.length_map, List.map_take, List.map_drop]
theorem mem_cut {α : Type} {l : List α} {lo hi : Option Int} {x : α} (h : x ∈ cutD l lo hi) : x ∈ l := List.mem_of_mem_drop (List.mem_of_mem_take h)
theorem sli_list {α : Type} (e : α → PyData) (l : List α) (lo hi : Option Int) : sliD lo hi (.list (l.map e)) = .ok (.list ((cutD l lo hi).map e)) := by
  show Res.ok (PyData.list (cutD (l.map e) lo hi)) = _
  rw [cutD_map]
@[simp] theorem toI_int (i : Int) : toI (.int i) = .ok (some i) := rfl
/-- is a list not empty -/
theorem ne_nil {α : Type} [DecidableEq α] {e : α → PyData} {n : Nat} (he : IsEn e n) (hn : n ≤ 63) (l : List α) : cmpD .NotEq (.list (l.map e)) (.list []) = .ok (.bool (!decide (l = []))) := by
  have := ne_en (isEn_list he) (by omega) l []
  exact this
theorem eq_nil {α : Type} [DecidableEq α] {e : α → PyData} {n : Nat} (he : IsEn e n) (hn : n ≤ 63) (l : List α) : cmpD .Eq (.list (l.map e)) (.list []) = .ok (.bool (decide (l = []))) := by
  have := eq_en (isEn_list he) (by omega) l []
  exact this
def pos (e : Int) : Int := if e > 0 then e else 0
theorem pos_is (e : Int) : (0 < e ∧ pos e = e) ∨ (e ≤ 0 ∧ pos e = 0) := by
  unfold pos
  by_cases h : e > 0
  · rw [if_pos h]; exact .inl ⟨h, rfl⟩
  · rw [if_neg h]; exact .inr ⟨by omega, rfl⟩
theorem max_0 (e : Int) : biD .max [.int 0, .int e] = .ok (.int (pos e)) := max_int
def lk (L : W3) : List Int → Int
  | [x, y, z] => pos (L.1 - x) + pos (L.2.1 - y) + pos (z - L.2.2)
  | _ => 0
structure OkL (L : W3) : Prop where
  a0 : 0 ≤ L.1
  a1 : L.1 ≤ 60
  b0 : 0 ≤ L.2.1
  b1 : L.2.1 ≤ 60
  c0 : 0 ≤ L.2.2
  c1 : L.2.2 ≤ 60
theorem check_limits_c {L : W3} (h : OkL L) : p_check_limits [wD L] = .ok .none := by
  obtain ⟨a, b, c⟩ := L
  obtain ⟨a0, a1, b0, b1, c0, c1⟩ := h
  (try dsimp only at a0 a1 b0 b1 c0 c1)
  have hc : c_check_limits_1 [some (wD (a, b, c)), none] = .ok (.list ([a, b, c].map fun _ => .bool true)) := by
    refine xComp_map (vs := [1]) PyData.int (fun _ => .bool true) (xs := [a, b, c]) (by simp [wD]) fun n hn => ⟨_, rfl, rfl, ?_, rfl⟩
    simp at hn
    rcases hn with rfl | rfl | rfl <;> simp [wipeR, is_int_int, *]
  have al := all_map (l := [a, b, c]) (p := fun _ => true)
  have l3 : biD .len [wD (a, b, c)] = .ok (.int 3) := rfl
  have t3 : isiD .tuple (wD (a, b, c)) = .ok (.bool true) := rfl
  refine runD_nx rfl (sIf_f ?_ rfl)
  show tOr _ _ [some (wD (a, b, c)), none] = _
  rw [tOr_ap, tNot_ap, tV_ap, xIsi_ap, xV_ap, gv_0, Res.ok_bind, t3, Res.ok_bind, toB_b, Res.ok_bind, Res.ok_bind]
  simp [l3, hc]
  simp at al
  simp [al]
theorem find_lack_c {C : List W3} (h : OkC C) {s : List Int} (hs : s ∈ sets C) (L : W3) : p_find_lack [eS s, wD L] = .ok (.int (lk L s)) := by
  obtain ⟨x, y, z, rfl⟩ := set3 h hs
  obtain ⟨a, b, c⟩ := L
  simp [p_find_lack, runD, f_find_lack, eS, wD, max_0, lk, -max_int]
section
variable {C : List W3} (h : OkC C) {L : W3} (hL : OkL L)
include h hL
theorem check_three_c {s : List Int} (hs : s ∈ sets C) : p_check_three_k52 [cD C, eS s, wD L] = .ok .none := by
  simp [p_check_three_k52, runD, f_check_three_k52, check_camera_c h, check_setting_s h hs, check_limits_c hL]
theorem keeps_c {s : List Int} (hs : s ∈ sets C) : p_keeps [cD C, eS s, wD L] = .ok (.bool (decide (lk L s = 0))) := by
  simp [p_keeps, runD, f_keeps, check_three_c h hL hs, find_lack_c h hs]
theorem lack_c {s : List Int} (hs : s ∈ sets C) : p_lack [cD C, eS s, wD L] = .ok (.int (lk L s)) := by
  simp [p_lack, runD, f_lack, check_three_c h hL hs, find_lack_c h hs]
variable {b : Int} (h1 : -60 ≤ b) (h2 : b ≤ 120)
include h1 h2
theorem find_lacks_c : p_find_lacks [cD C, wD L, .int b] = .ok (.list ((right C b).map fun s => .tuple [.int (lk L s), eS s])) := by
  have hc : c_find_lacks_1 [some (cD C), some (wD L), some (.int b), none] = .ok (.list ((right C b).map fun s => .tuple [.int (lk L s), eS s])) := by
    refine xComp_map (vs := [3]) eS (fun s => .tuple [.int (lk L s), eS s]) (xs := right C b) (by simp [find_right_c h]) fun s hs => ⟨_, rfl, rfl, ?_, rfl⟩
    simp [wipeR, find_lack_c h (List.mem_filter.mp hs).1, tupM_of, show nodict (eS s) = true from rfl]
  simp [p_find_lacks, runD, f_find_lacks, check_camera_c h, check_limits_c hL, check_both_c h h1 h2, hc]
def alw (C : List W3) (L : W3) (b : Int) : List (List Int) := (right C b).filter fun s => decide (lk L s = 0)
theorem allowed_c : p_allowed [cD C, wD L, .int b] = .ok (.list ((alw C L b).map eS)) := by
  have hc : c_allowed_1 [some (cD C), some (wD L), some (.int b), none, none] = .ok (.list ((alw C L b).map eS)) := by
    refine xComp_fm (vs := [3, 4]) (fun s => .tuple [.int (lk L s), eS s]) (fun s => decide (lk L s = 0)) eS (xs := right C b) (by simp [find_lacks_c h hL h1 h2]) fun s hs => ⟨_, by simp; rfl, by simp [wipeR], fun _ => ⟨by simp [wipeR], rfl⟩⟩
  simp [p_allowed, runD, f_allowed, hc]
theorem lacks_ne : cmpD .NotEq (.list ((right C b).map fun s => .tuple [.int (lk L s), eS s])) (.list []) = .ok (.bool (!decide (right C b = []))) := by
  have := ne_nil (isEn_pair (isEn_int.mono (Nat.zero_le 1)) isEn_eS) (by omega) ((right C b).map fun s => (lk L s, s))
  rw [List.map_map] at this
  have e : decide ((right C b).map (fun s => (lk L s, s)) = []) = decide (right C b = []) := by simp
  rw [e] at this
  exact this
theorem lacks_none (hr : right C b = []) : p_least_lack [cD C, wD L, .int b] = .ok .none ∧ p_best_compromise [cD C, wD L, .int b] = .ok .none := by
  have ne := lacks_ne h hL h1 h2
  simp only [hr, List.map_nil] at ne
  have fl := find_lacks_c h hL h1 h2
  rw [hr, List.map_nil] at fl
  constructor
  · simp [p_least_lack, runD, f_least_lack, fl, ne]
  · simp [p_best_compromise, runD, f_best_compromise, fl, ne]
theorem lacks_some (hr : right C b ≠ []) : ∃ m ∈ right C b, p_least_lack [cD C, wD L, .int b] = .ok (.int (lk L m)) ∧ p_best_compromise [cD C, wD L, .int b] = .ok (eS m) ∧ ∀ y ∈ right C b, lk L m < lk L y ∨ (lk L m = lk L y ∧ listLt y m = false) := by
  obtain ⟨m, hm, e, hl⟩ := best_ex (lk L) hr
  have ne := lacks_ne h hL h1 h2
  have d : decide (right C b = []) = false := decide_eq_false hr
  rw [d] at ne
  have fl := find_lacks_c h hL h1 h2
  refine ⟨m, hm, ?_, ?_, hl⟩
  · simp [p_least_lack, runD, f_least_lack, fl, ne, e]
  · simp [p_best_compromise, runD, f_best_compromise, fl, ne, e]
end
end Bv
set_option Elab.async false
set_option linter.all false
set_option maxRecDepth 100000
set_option maxHeartbeats 1000000
namespace Bv
open PySem PySem.Spec L2
open PySem.W (DatumOrd Datum minOf Tup listLt)
structure OkP (P : List Int) : Prop where
  ne : P ≠ []
  l : P.length ≤ 6
  p : ∀ p ∈ P, -60 ≤ p ∧ p ≤ 120
theorem check_parts_c {P : List Int} (h : OkP P) : p_check_parts [eL P] = .ok .none := by
  have hc : c_check_parts_1 [some (eL P), none] = .ok (.list (P.map fun _ => .bool true)) := by
    refine xComp_map (vs := [1]) PyData.int (fun _ => .bool true) (xs := P) (by simp [eL]) fun n hn => ⟨_, rfl, rfl, ?_, rfl⟩
    obtain ⟨a, b⟩ := h.p n hn
    simp [wipeR, is_int_int, a, b]
  have al := all_map (l := P) (p := fun _ => true)
  have t3 : isiD .list (eL P) = .ok (.bool true) := rfl
  have l3 : biD .len [eL P] = .ok (.int P.length) := by simp [eL]
  have n1 := List.length_pos_iff.mpr h.ne
  have l1 : (1 : Int) ≤ P.length := by omega
  have l2 : (P.length : Int) ≤ 6 := by have := h.l; omega
  refine runD_nx rfl (sC_nx (sIf_f ?_ rfl) (sIf_f ?_ rfl))
  · show tOr _ _ [some (eL P), none] = _
    rw [tOr_ap, tNot_ap, tV_ap, xIsi_ap, xV_ap, gv_0, Res.ok_bind, t3, Res.ok_bind, toB_b, Res.ok_bind, Res.ok_bind]
    obtain ⟨n, hn⟩ : ∃ n : Int, n = P.length := ⟨_, rfl⟩
    rw [← hn] at l1 l2 l3
    simp [l3, l1, l2]
  · show tNot _ [some (eL P), none] = _
    rw [tNot_ap, tV_ap, xBi_ap, aC_ap, hc]
    simp only [aN_ap, Res.ok_bind, al, toB_b]
    simp
theorem check_latitude_c {q : Int} (h0 : 0 ≤ q) (h1 : q ≤ 60) : p_check_latitude [.int q] = .ok .none := by
  simp [p_check_latitude, runD, f_check_latitude, is_int_int, h0, h1]
/-- the parts that a setting holds -/
def hld (P : List Int) (s : List Int) (q : Int) : List Int := (P.zipIdx.filter fun x => decide (ab (num s - x.1) ≤ q)).map fun x => (x.2 : Int)
def hcn (P : List Int) (s : List Int) (q : Int) : Nat := (P.filter fun p => decide (ab (num s - p) ≤ q)).length
theorem hld_len (P : List Int) (s : List Int) (q : Int) : (hld P s q).length = hcn P s q := by
  have e : P = P.zipIdx.map (·.1) := by simp
  unfold hld hcn
  rw [List.length_map]
  conv => rhs; rw [e]
  rw [List.filter_map, List.length_map]
  rfl
theorem enu_l {P : List Int} (h : P.length ≤ 1000) : enuD [eL P] = .ok (P.zipIdx.map fun x => .tuple [.int x.2, .int x.1]) := by
  show (if (P.map PyData.int).length ≤ sizeLine then Res.ok (enumD (P.map .int)) else .stuck) = _
  rw [if_pos (by rw [List.length_map, sizeLine_eq]; omega)]
  congr 1
  unfold enumD
  rw [List.length_map, zipD_map]
  exact List.ext_getElem (by simp) fun i h1 h2 => by simp
theorem find_held_c {C : List W3} (h : OkC C) {s : List Int} (hs : s ∈ sets C) {P : List Int} (hP : P.length ≤ 1000) (q : Int) : p_find_held [eS s, eL P, .int q] = .ok (eL (hld P s q)) := by
  have hc : c_find_held_1 [some (eS s), some (eL P), some (.int q), some (.int (num s)), none, none] = .ok (eL (hld P s q)) := by
    have key := xComp_fm (ρ := [some (eS s), some (eL P), some (.int q), some (.int (num s)), none, none]) (fi := iEn (aC (xV 1) (aN))) (T := .tp [4, 5]) (ft := tV (xCmp .LtE (xBi .abs (aC (xBin .Sub (xV 3) (xV 5)) (aN))) (xV 2))) (fe := xV 4) (vs := [4, 5])
      (fun x : Int × Nat => .tuple [.int x.2, .int x.1]) (fun x => decide (ab (num s - x.1) ≤ q)) (fun x => .int x.2) (xs := P.zipIdx) (by simp [enu_l hP]) fun x hx => ⟨_, rfl, ?_, fun _ => ⟨by simp [wipeR], rfl⟩⟩
    · unfold hld
      rw [eL_map]
      exact key
    · have a : ∀ i : Int, biD .abs [.int i] = .ok (.int (ab i)) := fun _ => rfl
      simp [wipeR, a]
  simp [p_find_held, runD, f_find_held, find_exposure_s h hs, hc]
theorem held_c {C : List W3} (h : OkC C) {s : List Int} (hs : s ∈ sets C) {P : List Int} (hP : OkP P) {q : Int} (h0 : 0 ≤ q) (h1 : q ≤ 60) : p_held [cD C, eS s, eL P, .int q] = .ok (eL (hld P s q)) := by
  simp [p_held, runD, f_held, check_camera_c h, check_setting_s h hs, check_parts_c hP, check_latitude_c h0 h1, find_held_c h hs (show P.length ≤ 1000 from Nat.le_trans hP.l (by decide))]
theorem sets_ne {C : List W3} (h : OkC C) : sets C ≠ [] := List.length_pos_iff.mp (sets_pos h)
theorem find_best_c {C : List W3} (h : OkC C) {P : List Int} (hP : OkP P) {q : Int} (h0 : 0 ≤ q) (h1 : q ≤ 60) : ∃ m ∈ sets C, p_find_best [cD C, eL P, .int q] = .ok (.tuple [.int (0 - (hcn P m q : Int)), eS m]) ∧ ∀ y ∈ sets C, hcn P y q < hcn P m q ∨ (hcn P y q = hcn P m q ∧ listLt y m = false) := by
  obtain ⟨m, hm, e, hl⟩ := best_ex (fun s => 0 - (hcn P s q : Int)) (sets_ne h)
  have hc : c_find_best_1 [some (cD C), some (eL P), some (.int q), none] = .ok (.list ((sets C).map fun s => .tuple [.int (0 - (hcn P s q : Int)), eS s])) := by
    refine xComp_map (vs := [3]) eS (fun s => .tuple [.int (0 - (hcn P s q : Int)), eS s]) (xs := sets C) (by simp [all_settings_c h]) fun s hs => ⟨_, rfl, rfl, ?_, rfl⟩
    have l3 : biD .len [eL (hld P s q)] = .ok (.int (hcn P s q)) := by simp [eL, hld_len]
    simp [wipeR, find_held_c h hs (show P.length ≤ 1000 from Nat.le_trans hP.l (by decide)), l3, tupM_of, show nodict (eS s) = true from rfl]
  refine ⟨m, hm, ?_, fun y hy => ?_⟩
  · simp [-Int.zero_sub, p_find_best, runD, f_find_best, check_camera_c h, check_parts_c hP, check_latitude_c h0 h1, hc, e]
  · rcases hl y hy with c | ⟨c, d⟩
    · exact .inl (by omega)
    · exact .inr ⟨by omega, d⟩
/-- the greatest number of parts held, and the first setting that holds so many -/
theorem most_c {C : List W3} (h : OkC C) {P : List Int} (hP : OkP P) {q : Int} (h0 : 0 ≤ q) (h1 : q ≤ 60) : ∃ m ∈ sets C, p_most_held [cD C, eL P, .int q] = .ok (.int (hcn P m q)) ∧ p_best_setting [cD C, eL P, .int q] = .ok (eS m) ∧ ∀ y ∈ sets C, hcn P y q < hcn P m q ∨ (hcn P y q = hcn P m q ∧ listLt y m = false) := by
  obtain ⟨m, hm, e, hl⟩ := find_best_c h hP h0 h1
  refine ⟨m, hm, ?_, ?_, hl⟩
  · simp [-Int.zero_sub, p_most_held, runD, f_most_held, e]
    omega
  · simp [-Int.zero_sub, p_best_setting, runD, f_best_setting, e]
/-- the greatest error of a setting -/
def far (P : List Int) (s : List Int) : Int := mx (P.map fun p => ab (num s - p))
def lat (C : List W3) (P : List Int) : Int := mn ((sets C).map (far P))
def latD (C : List W3) (P : List Int) : PyData := if lat C P ≤ 60 then .int (lat C P) else .none
theorem least_latitude_c {C : List W3} (h : OkC C) {P : List Int} (hP : OkP P) : p_least_latitude [cD C, eL P] = .ok (latD C P) := by
  have few : (sets C).length ≤ 2197 := by
    have := sets_size C h.ok
    rw [h.len] at this
    exact this
  have loop := sFor_pre (fi := iSq' (xCall p_all_settings (aC (xV 0) (aN)))) (T := .nm 3) (f := l_least_latitude_1) (ρ := [some (cD C), some (eL P), some (.list []), none, none, none])
    eS (fun pre ρ => ∃ x3 x4 : Option PyData, ρ = [some (cD C), some (eL P), some (eL (pre.map (far P))), x3, x4, none]) (xs := sets C) (by simp [all_settings_c h]) ⟨none, none, rfl⟩ (by
      rintro pre s post ρ hx ⟨x3, x4, rfl⟩
      have hs : s ∈ sets C := by rw [hx]; simp
      have pl : pre.length ≤ 2197 := by
        have := congrArg List.length hx
        simp at this
        omega
      have hc : c_least_latitude_1 [some (cD C), some (eL P), some (eL (pre.map (far P))), some (eS s), some (.int (num s)), none] = .ok (eL (P.map fun p => ab (num s - p))) := by
        refine Eq.trans ?_ (congrArg Res.ok (eL_map (fun p => ab (num s - p)) P).symm)
        refine xComp_map (vs := [5]) PyData.int (fun p => .int (ab (num s - p))) (xs := P) (by simp [eL]) fun p hp => ⟨_, rfl, rfl, ?_, rfl⟩
        have a : ∀ i : Int, biD .abs [.int i] = .ok (.int (ab i)) := fun _ => rfl
        simp [wipeR, a]
      have hm := max_mx (l := P.map fun p => ab (num s - p)) (by simpa using hP.ne)
      refine ⟨_, _, rfl, sC_nx (sSet_ok (d := .int (num s)) (by simp [find_exposure_s h hs])) (sApp_ok (a := (pre.map (far P)).map .int) (y := .int (far P s)) rfl (by simp [hc, hm]; rfl) rfl (by simp; omega)), some (eS s), some (.int (num s)), ?_⟩
      simp [eL])
  obtain ⟨ρ', l1, x3, x4, rfl⟩ := loop
  have hm := min_mn (l := (sets C).map (far P)) (by simpa using sets_ne h)
  refine runD_rt rfl (sC_nx (sExp_ok (d := .none) (by simp [check_camera_c h])) (sC_nx (sExp_ok (d := .none) (by simp [check_parts_c hP])) (sC_nx (sSet_ok (d := .list []) rfl) (sC_nx l1 (sRet_ok ?_)))))
  unfold latD lat
  by_cases c : mn ((sets C).map (far P)) ≤ 60
  · simp [hm, c]
  · simp [hm, c]
theorem far_le {P : List Int} (hP : P ≠ []) (s : List Int) (q : Int) : far P s ≤ q ↔ ∀ p ∈ P, ab (num s - p) ≤ q := by
  have ne : P.map (fun p => ab (num s - p)) ≠ [] := by simpa using hP
  obtain ⟨a, b⟩ := mx_is ne
  constructor
  · intro h p hp
    have := b _ (List.mem_map.mpr ⟨p, hp, rfl⟩)
    unfold far at h
    omega
  · intro h
    obtain ⟨p, hp, e⟩ := List.mem_map.mp a
    have := h p hp
    unfold far
    omega
theorem lat_is {C : List W3} (h : OkC C) (P : List Int) : (∃ s ∈ sets C, far P s = lat C P) ∧ ∀ s ∈ sets C, lat C P ≤ far P s := by
  have ne : (sets C).map (far P) ≠ [] := by simpa using sets_ne h
  obtain ⟨a, b⟩ := mn_is ne
  exact ⟨List.mem_map.mp a, fun s hs => b _ (List.mem_map.mpr ⟨s, hs, rfl⟩)⟩
theorem hcn_le (P : List Int) (s : List Int) (q : Int) : hcn P s q ≤ P.length := List.length_filter_le _ _
theorem hcn_all {P : List Int} (hP : P ≠ []) (s : List Int) (q : Int) : hcn P s q = P.length ↔ far P s ≤ q := by
  rw [far_le hP]
  unfold hcn
  rw [List.length_filter_eq_length_iff]
  simp
theorem hcn_mono (P : List Int) (s : List Int) {q r : Int} (h : q ≤ r) : hcn P s q ≤ hcn P s r := by
  unfold hcn
  rw [← List.countP_eq_length_filter, ← List.countP_eq_length_filter]
  refine List.countP_mono_left fun p _ hp => ?_
  simp at hp ⊢
  omega
end Bv
set_option Elab.async false
set_option linter.all false
set_option maxRecDepth 100000
set_option maxHeartbeats 1000000
namespace Bv
open PySem PySem.Spec L2
open PySem.W (DatumOrd Datum minOf Tup listLt)
theorem val_31 {w : W3} (h : OkB 4 w) {v : Int} (hv : v ∈ vals w) : 0 ≤ v ∧ v ≤ 31 := by
  unfold vals at hv
  obtain ⟨i, hi, rfl⟩ := List.mem_map.mp hv
  rw [List.mem_range] at hi
  obtain ⟨⟨l0, l1, m0, m1, s0, s1, n⟩, n4, l22⟩ := h
  have h0 : 0 ≤ (i : Int) * w.2.2 := Int.mul_nonneg (by omega) (by omega)
  have h1 : (i : Int) * w.2.2 ≤ 3 * w.2.2 := Int.mul_le_mul_of_nonneg_right (by omega) (by omega)
  omega
theorem set31 {C : List W3} (h : OkC C) (hw : ∀ w ∈ C, OkB 4 w) {s : List Int} (hs : s ∈ sets C) : ∃ x y z, s = [x, y, z] ∧ (0 ≤ x ∧ x ≤ 31) ∧ (0 ≤ y ∧ y ≤ 31) ∧ (0 ≤ z ∧ z ≤ 31) := by
  obtain ⟨w1, w2, w3, rfl⟩ := three h
  rw [mem_sets3] at hs
  obtain ⟨a, ha, b, hb, c, hc, rfl⟩ := hs
  exact ⟨a, b, c, rfl, val_31 (hw _ (by simp)) ha, val_31 (hw _ (by simp)) hb, val_31 (hw _ (by simp)) hc⟩
theorem num31 {C : List W3} (h : OkC C) (hw : ∀ w ∈ C, OkB 4 w) {s : List Int} (hs : s ∈ sets C) : -31 ≤ num s ∧ num s ≤ 62 := by
  obtain ⟨x, y, z, rfl, hx, hy, hz⟩ := set31 h hw hs
  have : num [x, y, z] = x + y - z := rfl
  omega
/-- a brightness near a setting's number -/
structure Nb (C : List W3) (b : Int) : Prop where
  l : -60 ≤ b
  u : b ≤ 120
  n : ∃ s ∈ sets C, ab (num s - b) ≤ 4
theorem light_n {C : List W3} (h : OkC C) (hw : ∀ w ∈ C, OkB 4 w) {ns : List Int} (hn : ns.length ≤ 63) {k : Int} (hk : 0 ≤ k) : ∃ b, Nb C b ∧ p__law_light_k52 [scrD (ns.map .int), .int k, cD C] = .ok (.int b) := by
  obtain ⟨s, hs, e, e0, e1, el⟩ := light_d h hn hk
  have := num31 h hw hs
  refine ⟨_, ⟨by omega, by omega, s, hs, ?_⟩, el⟩
  unfold ab
  split <;> omega
/-- the drawn brightnesses, by number -/
theorem lights {C : List W3} (h : OkC C) (hw : ∀ w ∈ C, OkB 4 w) {ns : List Int} (hn : ns.length ≤ 63) : ∃ f : Nat → Int, ∀ k : Nat, Nb C (f k) ∧ p__law_light_k52 [scrD (ns.map .int), .int (30 + 3 * (k : Int)), cD C] = .ok (.int (f k)) :=
  Classical.axiomOfChoice (r := fun (k : Nat) b => Nb C b ∧ p__law_light_k52 [scrD (ns.map .int), .int (30 + 3 * (k : Int)), cD C] = .ok (.int b)) fun k => light_n h hw hn (by omega)
theorem rng1_map (n : Nat) (h : n ≤ 1000) : rngL [.int (n : Int)] = .ok ((List.range n).map fun (i : Nat) => (i : Int)) := by
  rw [rngL_1 (by omega) (by omega)]
  simp
theorem is_setting_s {C : List W3} (h : OkC C) {s : List Int} (hs : s ∈ sets C) : p_is_setting [cD C, eS s] = .ok (.bool true) := by
  simp [p_is_setting, runD, f_is_setting, check_camera_c h, has_setting_s h hs]
theorem error_s {C : List W3} (h : OkC C) {s : List Int} (hs : s ∈ sets C) {b : Int} (h1 : -60 ≤ b) (h2 : b ≤ 120) : p_error [cD C, eS s, .int b] = .ok (.int (num s - b)) := by
  simp [p_error, runD, f_error, check_camera_c h, check_setting_s h hs, check_light_i h1 h2, find_exposure_s h hs]
theorem hld_lt (P : List Int) (s : List Int) (q : Int) : (hld P s q).Pairwise (· < ·) := by
  unfold hld
  have h1 : (P.zipIdx.map fun x : Int × Nat => (x.2 : Int)).Pairwise (· < ·) := by
    have e : (P.zipIdx.map fun x : Int × Nat => (x.2 : Int)) = (List.range' 0 P.length).map fun (i : Nat) => (i : Int) := by
      rw [← List.zipIdx_map_snd 0 P, List.map_map]
      rfl
    rw [e, List.pairwise_map]
    exact (List.pairwise_lt_range' (s := 0)).imp fun {a b} h => by omega
  rw [List.pairwise_map] at h1 ⊢
  exact h1.filter _
theorem hld_le (P : List Int) (s : List Int) (q : Int) : (hld P s q).length ≤ P.length := by
  rw [hld_len]; exact hcn_le P s q
theorem sset_lt {l : List Int} (h : l.Pairwise (· < ·)) (hl : l.length < 64) : ssetD (eL l) = .ok (eL l) := by
  have e := sortI_uniq h (ns := l) fun _ => Iff.rfl
  have u := uniq_len l
  show (match intsOf (l.map PyData.int) with
    | some ns => if ns.length ≤ 4000 ∧ (uniq ns).length < 64 then Res.ok (PyData.list ((sortI (uniq ns)).map PyData.int)) else .stuck
    | none => .stuck) = _
  rw [intsOf_map]
  (try dsimp only)
  rw [if_pos ⟨by omega, by omega⟩, ← e]
  rfl
theorem mem_hld {P : List Int} {s : List Int} {q k : Int} : k ∈ hld P s q ↔ ∃ x ∈ P.zipIdx, ab (num s - x.1) ≤ q ∧ (x.2 : Int) = k := by
  unfold hld
  simp only [List.mem_map, List.mem_filter, decide_eq_true_eq]
  constructor
  · rintro ⟨x, ⟨h1, h2⟩, h3⟩; exact ⟨x, h1, h2, h3⟩
  · rintro ⟨x, h1, h2, h3⟩; exact ⟨x, ⟨h1, h2⟩, h3⟩
theorem okP_one {p : Int} (h1 : -60 ≤ p) (h2 : p ≤ 120) : OkP [p] := ⟨by simp, by simp, fun x hx => by simp at hx; subst hx; exact ⟨h1, h2⟩⟩
theorem okP_sub {P Q : List Int} (h : OkP P) (hq : Q ≠ []) (hl : Q.length ≤ 6) (hs : ∀ x ∈ Q, x ∈ P) : OkP Q := ⟨hq, hl, fun x hx => h.p x (hs x hx)⟩
theorem far_eq {P Q : List Int} (hP : P ≠ []) (hQ : Q ≠ []) (h : ∀ x, x ∈ P ↔ x ∈ Q) (s : List Int) : far P s = far Q s := by
  have a := (far_le hP s (far Q s)).mpr fun p hp => (far_le hQ s (far Q s)).mp (Int.le_refl _) p ((h p).mp hp)
  have b := (far_le hQ s (far P s)).mpr fun p hp => (far_le hP s (far P s)).mp (Int.le_refl _) p ((h p).mpr hp)
  omega
theorem lat_eq {C : List W3} {P Q : List Int} (hP : P ≠ []) (hQ : Q ≠ []) (h : ∀ x, x ∈ P ↔ x ∈ Q) : lat C P = lat C Q := by
  unfold lat
  rw [List.map_congr_left fun s _ => far_eq hP hQ h s]
theorem far_nn {P : List Int} (hP : P ≠ []) (s : List Int) : 0 ≤ far P s := by
  obtain ⟨p, hp⟩ := List.exists_mem_of_ne_nil _ hP
  have := (far_le hP s (far P s)).mp (Int.le_refl _) p hp
  have := ab_nn (num s - p)
  omega
theorem lat_nn {C : List W3} (h : OkC C) {P : List Int} (hP : P ≠ []) : 0 ≤ lat C P := by
  obtain ⟨⟨s, _, e⟩, _⟩ := lat_is h P
  have := far_nn hP s
  omega
theorem far_one (p : Int) (s : List Int) : far [p] s = ab (num s - p) := rfl
theorem lat_one {C : List W3} (h : OkC C) (p : Int) : lat C [p] = sz C p := by
  obtain ⟨⟨s, hs, e⟩, hm⟩ := lat_is h [p]
  obtain ⟨⟨n, hn, e2⟩, hm2⟩ := sz_is h p
  obtain ⟨t, ht, rfl⟩ := mem_nums.mp hn
  have a := hm t ht
  have b := hm2 (num s) (mem_nums.mpr ⟨s, hs, rfl⟩)
  rw [far_one] at e a
  omega
end Bv
set_option Elab.async false
set_option linter.all false
set_option maxRecDepth 100000
set_option maxHeartbeats 1000000
namespace Bv
open PySem PySem.Spec L2
open PySem.W (DatumOrd Datum minOf Tup listLt)
theorem isb (b : Bool) : cmpD .IsNot (.bool b) (.bool true) = .ok (.bool (b != true)) := isnotD_bool
theorem neD_bool (a b : Bool) : cmpD .NotEq (.bool a) (.bool b) = .ok (.bool (a != b)) := by
  cases a <;> cases b <;> rfl
@[simp] theorem abs_ab' {i : Int} : biD .abs [.int i] = .ok (.int (ab i)) := rfl
@[simp] theorem xSSet_ap {fa : FE} {ρ : Rho} : xSSet fa ρ = (fa ρ).bind ssetD := rfl
theorem len_eL (l : List Int) : biD .len [eL l] = .ok (.int l.length) := by simp [eL]
theorem ne_eL (a b : List Int) : cmpD .NotEq (eL a) (eL b) = .ok (.bool (!decide (a = b))) := ne_en (isEn_list isEn_int) (by omega) a b
/-- what is wanted of many, the greatest number of parts held -/
structure IsM (C : List W3) (P : List Int) (q : Int) (M : Int) : Prop where
  ex : ∃ s ∈ sets C, (hcn P s q : Int) = M
  le : ∀ s ∈ sets C, (hcn P s q : Int) ≤ M
theorem isM_le {C : List W3} {P : List Int} {q M : Int} (hP : P ≠ []) (h : IsM C P q M) (hc : OkC C) : M = P.length ↔ lat C P ≤ q := by
  obtain ⟨⟨s, hs, e⟩, hl⟩ := lat_is hc P
  constructor
  · intro hM
    obtain ⟨t, ht, et⟩ := h.ex
    have : far P t ≤ q := (hcn_all hP t q).mp (by omega)
    have := hl t ht
    omega
  · intro hle
    have : hcn P s q = P.length := (hcn_all hP s q).mpr (by omega)
    have := h.le s hs
    obtain ⟨t, ht, et⟩ := h.ex
    have := hcn_le P t q
    omega
theorem most_m {C : List W3} (h : OkC C) {P : List Int} (hP : OkP P) {q : Int} (h0 : 0 ≤ q) (h1 : q ≤ 60) : ∃ M, IsM C P q M ∧ p_most_held [cD C, eL P, .int q] = .ok (.int M) := by
  obtain ⟨m, hm, e, _, hl⟩ := most_c h hP h0 h1
  refine ⟨_, ⟨⟨m, hm, rfl⟩, fun s hs => ?_⟩, e⟩
  rcases hl s hs with c | ⟨c, _⟩ <;> omega
theorem hcn_one (p : Int) (s : List Int) (q : Int) : hcn [p] s q = if ab (num s - p) ≤ q then 1 else 0 := by
  unfold hcn
  by_cases c : ab (num s - p) ≤ q <;> simp [c]
theorem hcn_two (p : Int) (s : List Int) (q : Int) : hcn [p, p] s q = if ab (num s - p) ≤ q then 2 else 0 := by
  unfold hcn
  by_cases c : ab (num s - p) ≤ q <;> simp [c]
theorem take_cut {α : Type} (l : List α) (n : Nat) : cutD l none (some (n : Int)) = l.take n := by
  unfold cutD
  have h0 : HT.sIx l.length 0 none = 0 := rfl
  rw [h0, List.drop_zero, Nat.sub_zero]
  have h1 : HT.sIx l.length l.length (some (n : Int)) = min n l.length := by
    unfold HT.sIx
    simp
    try omega
  rw [h1]
  by_cases c : n ≤ l.length
  · rw [Nat.min_eq_left c]
  · rw [List.take_of_length_le (by omega), List.take_of_length_le (by omega)]
end Bv
set_option Elab.async false
set_option linter.all false
set_option maxRecDepth 100000
set_option maxHeartbeats 1000000
namespace Bv
open PySem PySem.Spec L2
def bw : PyData := .tuple [.int 0, .int 6, .int 3]
def badCams : List PyData := [.none, .tuple [], .tuple [bw, bw], .tuple [bw, bw, bw, bw], .tuple [.tuple [.int 41, .int 50, .int 1], bw, bw], .tuple [.tuple [.int 0, .int 61, .int 3], bw, bw], .tuple [.tuple [.int 9, .int 8, .int 1], bw, bw], .tuple [bw, .tuple [.int 0, .int 6, .int 4], bw], .tuple [bw, .tuple [.int 0, .int 6, .int 0], bw],
  .tuple [.tuple [.int 0, .int 13, .int 1], bw, bw], .list [bw, bw, bw], .tuple [bw, bw, .list [.int 0, .int 6, .int 3]], .tuple [bw, bw, .tuple [.int 0, .bool true, .int 1]]]
theorem badCam_exc : ∀ d ∈ badCams, p_check_camera [d] = .exc "InvalidCamera" ∧ nodict d = true := by
  intro d hd
  unfold badCams at hd
  simp only [List.mem_cons, List.not_mem_nil, or_false] at hd
  rcases hd with rfl | rfl | rfl | rfl | rfl | rfl | rfl | rfl | rfl | rfl | rfl | rfl | rfl
  all_goals exact ⟨by kernel_rfl, rfl⟩
theorem idx_some {l : List PyData} {j : Int} (h0 : 0 ≤ j) (h1 : j < l.length) : ∃ d ∈ l, idxD (.list l) (.int j) = .ok d := by
  obtain ⟨n, rfl⟩ := Int.eq_ofNat_of_zero_le h0
  have hn : n < l.length := by omega
  exact ⟨l[n], List.getElem_mem hn, idx_list (List.getElem?_eq_getElem hn)⟩
theorem badcam_d {ns : List Int} (hn : ns.length ≤ 63) {k : Int} (hk : 0 ≤ k) : ∃ d, p__law_badcamera [scrD (ns.map .int), .int k] = .ok d ∧ p_check_camera [d] = .exc "InvalidCamera" ∧ nodict d = true := by
  obtain ⟨j, j0, j1, ej⟩ := drawn_ok hn (k := k) (many := 13) hk (by omega)
  obtain ⟨S, hS⟩ : ∃ S, S = scrD (ns.map .int) := ⟨_, rfl⟩
  rw [← hS] at ej ⊢
  obtain ⟨d, hd, ed⟩ := idx_some (l := badCams) j0 (by simpa [badCams] using j1)
  obtain ⟨h1, h2⟩ := badCam_exc d hd
  refine ⟨d, ?_, h1, h2⟩
  have e4 : binD .Mult (.tuple [bw]) (.int 4) = .ok (.tuple [bw, bw, bw, bw]) := by kernel_rfl
  have e3 : binD .Mult (.list [bw]) (.int 3) = .ok (.list [bw, bw, bw]) := by kernel_rfl
  have r : (xIdx (xBin .Add (xV 3) (xLst (aC (xBin .Mult (xLst (aC (xV 2) (aN))) (xK (.int 3))) (aC (xTup (aC (xV 2) (aC (xV 2) (aC (xLst (aC (xK (.int 0)) (aC (xK (.int 6)) (aC (xK (.int 3)) (aN))))) (aN))))) (aC (xTup (aC (xV 2) (aC (xV 2) (aC (xTup (aC (xK (.int 0)) (aC (xK (.bool true)) (aC (xK (.int 1)) (aN))))) (aN))))) (aN)))))) (xCall p__law_drawn (aC (xV 0) (aC (xV 1) (aC (xK (.int 13)) (aN)))))) [some S, some (.int k), some bw, some (.list (badCams.take 10))] = .ok d := by
    have a : (xBin .Add (xV 3) (xLst (aC (xBin .Mult (xLst (aC (xV 2) (aN))) (xK (.int 3))) (aC (xTup (aC (xV 2) (aC (xV 2) (aC (xLst (aC (xK (.int 0)) (aC (xK (.int 6)) (aC (xK (.int 3)) (aN))))) (aN))))) (aC (xTup (aC (xV 2) (aC (xV 2) (aC (xTup (aC (xK (.int 0)) (aC (xK (.bool true)) (aC (xK (.int 1)) (aN))))) (aN))))) (aN)))))) [some S, some (.int k), some bw, some (.list (badCams.take 10))] = .ok (.list badCams) := by kernel_rfl
    rw [xIdx_ap, a, Res.ok_bind]
    simp [ej, ed]
  refine runD_rt rfl ?_
  have s1 : ∀ f : FS, f__law_badcamera = sC (sSet 2 (xTup (aC (xK (.int 0)) (aC (xK (.int 6)) (aC (xK (.int 3)) (aN)))))) f → f ([S, .int k].map some ++ List.replicate 2 none |>.set 2 (some bw)) = .rt d → f__law_badcamera ([S, .int k].map some ++ List.replicate 2 none) = .rt d := fun f e h => by
    rw [e]
    exact sC_nx (ρ1 := [some S, some (.int k), some bw, none]) (by kernel_rfl) h
  refine s1 _ rfl ?_
  exact sC_nx (ρ1 := [some S, some (.int k), some bw, some (.list (badCams.take 5))]) (by kernel_rfl) (sC_nx (ρ1 := [some S, some (.int k), some bw, some (.list (badCams.take 6))]) (by kernel_rfl) (sC_nx (ρ1 := [some S, some (.int k), some bw, some (.list (badCams.take 9))]) (by kernel_rfl) (sC_nx (ρ1 := [some S, some (.int k), some bw, some (.list (badCams.take 10))]) (by kernel_rfl) (sRet_ok r))))
theorem check_setting_f {C : List W3} {d : PyData} (h : p_has_setting [cD C, d] = .ok (.bool false)) : p_check_setting [cD C, d] = .exc "InvalidSetting" := by
  simp [p_check_setting, runD, f_check_setting, h]
theorem badset_d {C : List W3} (h : OkC C) {ns : List Int} (hn : ns.length ≤ 63) {k : Int} (hk : 0 ≤ k) : ∃ d, p__law_badsetting [scrD (ns.map .int), .int k, cD C] = .ok d ∧ p_check_setting [cD C, d] = .exc "InvalidSetting" ∧ nodict d = true := by
  obtain ⟨j, j0, j1, ej⟩ := drawn_ok hn (k := k) (many := 9) hk (by omega)
  obtain ⟨S, hS⟩ : ∃ S, S = scrD (ns.map .int) := ⟨_, rfl⟩
  rw [← hS] at ej ⊢
  obtain ⟨w1, w2, w3, rfl⟩ := three h
  have o1 := h.ok w1 (by simp)
  have o2 := h.ok w2 (by simp)
  have o3 := h.ok w3 (by simp)
  obtain ⟨l1, m1, s1⟩ := w1
  obtain ⟨l2, m2, s2⟩ := w2
  obtain ⟨l3, m3, s3⟩ := w3
  obtain ⟨B, hB⟩ : ∃ B : List PyData, B = [.none, .tuple [], .tuple [.int l1, .int l2], .tuple [.int l1, .int l2, .int l3, .int 0], .tuple [.int (l1 - 1), .int l2, .int l3], .tuple [.int (m1 + 1), .int l2, .int l3], .list [.int l1, .int l2, .int l3], .tuple [.int l1, .int l2, .str (toString l3)], .tuple [.int l1, .int l2, .none]] := ⟨_, rfl⟩
  have key : ∀ d ∈ B, p_check_setting [cD [(l1, m1, s1), (l2, m2, s2), (l3, m3, s3)], d] = .exc "InvalidSetting" ∧ nodict d = true := by
    intro d hd
    rw [hB] at hd
    have g3 : ∀ a b c : PyData, okI a = true → okI b = true → okI c = true → (itm a (l1, m1, s1) = false ∨ itm c (l3, m3, s3) = false) → p_has_setting [cD [(l1, m1, s1), (l2, m2, s2), (l3, m3, s3)], .tuple [a, b, c]] = .ok (.bool false) := fun a b c ha hb hc hi => by
      rw [has_setting_g h (ds := [a, b, c]) rfl fun d hd => by
        simp at hd
        rcases hd with rfl | rfl | rfl <;> assumption]
      rcases hi with hi | hi <;> simp [hi]
    simp only [List.mem_cons, List.not_mem_nil, or_false] at hd
    rcases hd with rfl | rfl | rfl | rfl | rfl | rfl | rfl | rfl | rfl
    · exact ⟨check_setting_f has_setting_none, rfl⟩
    · exact ⟨check_setting_f (has_setting_n (by simp)), rfl⟩
    · exact ⟨check_setting_f (has_setting_n (by simp)), rfl⟩
    · exact ⟨check_setting_f (has_setting_n (by simp)), rfl⟩
    · refine ⟨check_setting_f (g3 _ _ _ rfl rfl rfl (.inl ?_)), rfl⟩
      have : ¬ (l1 - 1) ∈ vals (l1, m1, s1) := fun z => by
        have := (vals_le o1 z).1
        (try dsimp only at this)
        omega
      simp [itm, this]
    · refine ⟨check_setting_f (g3 _ _ _ rfl rfl rfl (.inl ?_)), rfl⟩
      have : ¬ (m1 + 1) ∈ vals (l1, m1, s1) := fun z => by
        unfold vals at z
        obtain ⟨i, hi, e⟩ := List.mem_map.mp z
        rw [List.mem_range] at hi
        have h0 := o1.s0
        have hm := o1.m0
        (try dsimp only at e h0 hm)
        have hd : (i : Int) ≤ (m1 - l1) / s1 := by unfold nV at hi; (try dsimp only at hi); omega
        have h3 : (i : Int) * s1 ≤ (m1 - l1) / s1 * s1 := Int.mul_le_mul_of_nonneg_right hd (by omega)
        have h4 : (m1 - l1) / s1 * s1 ≤ m1 - l1 := Int.ediv_mul_le _ (by omega)
        omega
      simp [itm, this]
    · exact ⟨check_setting_f has_setting_list, rfl⟩
    · exact ⟨check_setting_f (g3 _ _ _ rfl rfl rfl (.inr rfl)), rfl⟩
    · exact ⟨check_setting_f (g3 _ _ _ rfl rfl rfl (.inr rfl)), rfl⟩
  obtain ⟨d, hd, ed⟩ := idx_some (l := B) j0 (by rw [hB]; simpa using j1)
  obtain ⟨k1, k2⟩ := key d hd
  refine ⟨d, ?_, k1, k2⟩
  obtain ⟨c, hc⟩ : ∃ c, c = cD [(l1, m1, s1), (l2, m2, s2), (l3, m3, s3)] := ⟨_, rfl⟩
  have hc1 : ∀ x3 x4 x5, c__law_badsetting_1 [some S, some (.int k), some c, x3, x4, x5] = .ok (.list [.int l1, .int l2, .int l3]) := fun x3 x4 x5 => by
    rw [hc]
    exact xComp_map (vs := [5]) wD (fun w => .int w.1) (xs := [(l1, m1, s1), (l2, m2, s2), (l3, m3, s3)]) (by simp [cD]) fun w hw => ⟨_, rfl, rfl, by simp [wipeR, wD], rfl⟩
  have ci : idxD c (.int 0) = .ok (wD (l1, m1, s1)) := by rw [hc]; simp [cD]
  rw [← hc]
  have st : strD [.int l3] = .ok (.str (toString l3)) := by
    have a := o3.l0
    have b := o3.l1
    (try dsimp only at a b)
    show (if l3.natAbs < 1000000 then Res.ok (PyData.str (toString l3)) else .stuck) = _
    rw [if_pos (by omega)]
  refine runD_rt rfl (sC_nx (ρ1 := [some S, some (.int k), some c, some (.tuple [.int l1, .int l2, .int l3]), none, none]) (by simp [hc1]) (sC_nx (ρ1 := [some S, some (.int k), some c, some (.tuple [.int l1, .int l2, .int l3]), some (.list (B.take 5)), none]) ?_ (sC_nx (ρ1 := [some S, some (.int k), some c, some (.tuple [.int l1, .int l2, .int l3]), some (.list (B.take 7)), none]) ?_ (sRet_ok ?_))))
  · rw [hB]
    kernel_rfl
  · rw [hB]
    have i1 : idxD (wD (l1, m1, s1)) (.int 1) = .ok (.int m1) := by simp [wD]
    refine sSet_ok ?_
    simp only [xBin_ap, xV_ap, xLst_ap, aC_ap, xTup_ap, xIdx_ap, xK_ap, gv_2, gv_3, gv_4, Res.ok_bind, ci, i1, addD_int, aN_ap, xBi_ap, list_tup]
    kernel_rfl
  · have a : (xBin .Add (xV 4) (xLst (aC (xBin .Add (xSli (xV 3) oN (oS (xK (.int 2)))) (xTup (aC (xBi .str (aC (xIdx (xV 3) (xK (.int 2))) (aN))) (aN)))) (aC (xBin .Add (xSli (xV 3) oN (oS (xK (.int 2)))) (xTup (aC (xK .none) (aN)))) (aN))))) [some S, some (.int k), some c, some (.tuple [.int l1, .int l2, .int l3]), some (.list (B.take 7)), none] = .ok (.list B) := by
      rw [hB]
      simp only [xBin_ap, xV_ap, xLst_ap, aC_ap, xTup_ap, xIdx_ap, xK_ap, gv_2, gv_3, gv_4, Res.ok_bind, idx_2, xBi_ap, aN_ap, xSli_ap]
      rw [show biD .str [.int l3] = .ok (.str (toString l3)) from st]
      kernel_rfl
    rw [xIdx_ap, a, Res.ok_bind]
    simp [ej, ed]
@[simp] theorem isE_exc {c : Str} {a : Addr} {b : Bool} {i : Nat} {ρ : Rho} (h : gv ρ i = .ok (excD c a)) : xIsE i a b ρ = .ok (.bool b) := by
  unfold xIsE
  rw [h, Res.ok_bind]
  show (if ((a : Nat) : Int) = ((a : Nat) : Int) then Res.ok (PyData.bool b) else .stuck) = _
  rw [if_pos rfl]
def whic (b1 b2 b3 : Bool) : Int := if b1 then 0 else if b2 then 1 else if b3 then 2 else 3
theorem lindex4 (b1 b2 b3 b4 : Bool) (h : (b1 || b2 || b3 || b4) = true) : mtD .lindex (.list [.bool b1, .bool b2, .bool b3, .bool b4]) [.bool true] = .ok (.int (whic b1 b2 b3)) := by
  cases b1 <;> cases b2 <;> cases b3 <;> cases b4 <;> first | (exact absurd h (by decide)) | kernel_rfl
theorem suite4 (a : Addr) (c : Str) (b1 b2 b3 b4 : Bool) (x0 x1 x2 x3 x5 : Option PyData) (h : (b1 || b2 || b3 || b4) = true) :
    (sC (sSet 5 (xLst (aC (xIsE 4 a b1) (aC (xIsE 4 a b2) (aN))))) (sC (sSet 5 (xBin .Add (xV 5) (xLst (aC (xIsE 4 a b3) (aN))))) (sRet (xMt .lindex (xBin .Add (xV 5) (xLst (aC (xIsE 4 a b4) (aN)))) (aC (xK (.bool true)) (aN)))))) [x0, x1, x2, x3, some (excD c a), x5] = .rt (.int (whic b1 b2 b3)) := by
  have li := lindex4 b1 b2 b3 b4 h
  have e : ∀ (b : Bool) (x5 : Option PyData), xIsE 4 a b [x0, x1, x2, x3, some (excD c a), x5] = .ok (.bool b) := fun b x5 => isE_exc (c := c) rfl
  have z : ∀ n : Nat, n ≤ 10 → n ≤ sizeLine := fun n hn => by rw [sizeLine_eq]; omega
  refine sC_nx (sSet_ok (d := .list [.bool b1, .bool b2]) (by simp [e, lstM_of])) (sC_nx (sSet_ok (d := .list [.bool b1, .bool b2, .bool b3]) (by simp [e, lstM_of, z])) (sRet_ok ?_))
  simp [e, lstM_of, z, show recvB .lindex (.list [.bool b1, .bool b2, .bool b3, .bool b4]) = true from rfl, li]
theorem suite5 (a : Addr) (c : Str) (b1 b2 b3 b4 : Bool) (x0 x1 x2 x3 x4 x5 : Option PyData) (h : (b1 || b2 || b3 || b4) = true) :
    (sC (sSet 6 (xLst (aC (xIsE 5 a b1) (aC (xIsE 5 a b2) (aN))))) (sC (sSet 6 (xBin .Add (xV 6) (xLst (aC (xIsE 5 a b3) (aN))))) (sRet (xMt .lindex (xBin .Add (xV 6) (xLst (aC (xIsE 5 a b4) (aN)))) (aC (xK (.bool true)) (aN)))))) [x0, x1, x2, x3, x4, some (excD c a), x5] = .rt (.int (whic b1 b2 b3)) := by
  have li := lindex4 b1 b2 b3 b4 h
  have e : ∀ (b : Bool) (x5 : Option PyData), xIsE 5 a b [x0, x1, x2, x3, x4, some (excD c a), x5] = .ok (.bool b) := fun b x5 => isE_exc (c := c) rfl
  have z : ∀ n : Nat, n ≤ 10 → n ≤ sizeLine := fun n hn => by rw [sizeLine_eq]; omega
  refine sC_nx (sSet_ok (d := .list [.bool b1, .bool b2]) (by simp [e, lstM_of])) (sC_nx (sSet_ok (d := .list [.bool b1, .bool b2, .bool b3]) (by simp [e, lstM_of, z])) (sRet_ok ?_))
  simp [e, lstM_of, z, show recvB .lindex (.list [.bool b1, .bool b2, .bool b3, .bool b4]) = true from rfl, li]
theorem xPick_ok {L : List (Str × (List PyData → Res PyData))} {fi : FE} {fs : FA} {ρ : Rho} {d : PyData} {φ : List PyData → Res PyData} {ds : List PyData} (hi : fi ρ = .ok d) (hp : pickM L d = some φ) (ha : fs ρ = .ok ds) : xPick L fi fs ρ = φ ds := by
  unfold xPick
  rw [hi, Res.ok_bind, hp]
  show (fs ρ).bind φ = _
  rw [ha, Res.ok_bind]
theorem sExp_ex {fa : FE} {ρ : Rho} {c : Str} (h : fa ρ = .exc c) : sExp fa ρ = .ex c ρ := by unfold sExp; rw [h]; rfl
theorem sRet_ex {fa : FE} {ρ : Rho} {c : Str} (h : fa ρ = .exc c) : sRet fa ρ = .ex c ρ := by unfold sRet; rw [h]; rfl
theorem sC_ex {f g : FS} {ρ ρ1 : Rho} {c : Str} (h : f ρ = .ex c ρ1) : sC f g ρ = .ex c ρ1 := by unfold sC; rw [h]; rfl
theorem cmp_eL (a b : List Int) : cmpD .Eq (eL a) (eL b) = .ok (.bool (decide (a = b))) := eq_en (isEn_list isEn_int) (by omega) a b
theorem add_eL (a b : List Int) (h : a.length + b.length ≤ 1000) : binD .Add (eL a) (eL b) = .ok (eL (a ++ b)) := by
  unfold eL
  rw [addD_list, if_pos (by rw [List.length_map, List.length_map, sizeLine_eq]; omega), List.map_append]
end Bv
set_option Elab.async false
set_option linter.all false
set_option maxRecDepth 100000
set_option maxHeartbeats 1000000
namespace Bv
open PySem PySem.Spec L2
def hfl (cv pv : V) (dl ul : Addr) : List (Str × V) := [("camera", cv), ("present", pv), ("done", .ref dl), ("undone", .ref ul)]
section
variable {cv pv x : V} {dl ul : Addr}
theorem hfl_c : (hfl cv pv dl ul).lookup ("camera" : Str) = some cv := by kernel_rfl
theorem hfl_p : (hfl cv pv dl ul).lookup ("present" : Str) = some pv := by kernel_rfl
theorem hfl_d : (hfl cv pv dl ul).lookup ("done" : Str) = some (.ref dl) := by kernel_rfl
theorem hfl_u : (hfl cv pv dl ul).lookup ("undone" : Str) = some (.ref ul) := by kernel_rfl
theorem hfl_setp : putF "present" x (hfl cv pv dl ul) = hfl cv x dl ul := by kernel_rfl
theorem hfl_setu {u2 : Addr} : putF "undone" (.ref u2) (hfl cv pv dl ul) = hfl cv pv dl u2 := by kernel_rfl
theorem hfl_setd {d2 : Addr} : putF "done" (.ref d2) (hfl cv pv dl ul) = hfl cv pv d2 ul := by kernel_rfl
theorem hfl_make : putF "undone" (.ref ul) (putF "done" (.ref dl) (putF "present" pv (putF "camera" cv []))) = hfl cv pv dl ul := by kernel_rfl
theorem hfl_len : (hfl cv pv dl ul).length < 1000 := by show 4 < 1000; decide
end
/-- a Hand at p: its lists at dl and ul are its own; what it holds reads by G -/
structure HdAt (K : PySem.W.Frag) (C : Addr) (G H : Hp) (p dl ul : Addr) (cam pr : PyData) (dn un : List PyData) : Prop where
  ob : ∃ dx cv pv, H p = some (.ins C dx (hfl cv pv dl ul)) ∧ Dq K G cv cam ∧ Dq K G pv pr
  dn : ∃ vs, H dl = some (.lst vs) ∧ DqAll K G vs dn
  un : ∃ vs, H ul = some (.lst vs) ∧ DqAll K G vs un
  gp : G p = none
  gd : G dl = none
  gu : G ul = none
  ne : dl ≠ ul
section
variable {K : PySem.W.Frag} {C : Addr} {G H G' H' : Hp} {p dl ul : Addr} {cam pr : PyData} {dn un : List PyData}
theorem HdAt.mono (h : HdAt K C G H p dl ul cam pr dn un) (x : Ex2 G H G' H') : HdAt K C G' H' p dl ul cam pr dn un := by
  obtain ⟨⟨dx, cv, pv, h1, h2, h3⟩, ⟨vs, h4, h5⟩, ⟨us, h6, h7⟩, g1, g2, g3, ne⟩ := h
  exact ⟨⟨dx, cv, pv, x.h _ _ h1, dq_same x.g _ _ h2, dq_same x.g _ _ h3⟩, ⟨vs, x.h _ _ h4, dqAll_same x.g _ _ h5⟩, ⟨us, x.h _ _ h6, dqAll_same x.g _ _ h7⟩, x.f _ _ h1 rfl g1, x.f _ _ h4 rfl g2, x.f _ _ h6 rfl g3, ne⟩
theorem HdAt.np (h : HdAt K C G H p dl ul cam pr dn un) : p ≠ dl ∧ p ≠ ul := by
  obtain ⟨dx, cv, pv, h1, _⟩ := h.ob
  obtain ⟨vs, h4, _⟩ := h.dn
  obtain ⟨us, h6, _⟩ := h.un
  exact ⟨ne_of h1 h4 (by intro z; cases z), ne_of h1 h6 (by intro z; cases z)⟩
end
/-- a call of a def that is read by value -/
theorem spF_ok {K : PySem.W.Frag} {ga : Str → Addr} {φ : List PyData → Res PyData} {vs : List V} {ds : List PyData} {G H : Hp} {Q : VK} {E : XK} {d : PyData} (s : Same G H) (hd : DRs K G vs ds) (h : φ ds = .ok d) (q : ∀ v G' H', Ex2 G H G' H' → DR K G' v d → Q v H') : spF K ga φ vs H Q E :=
  ⟨ds, G, s, hd, by rw [h]; exact q⟩
/-- s * n, s a text -/
theorem op_mul_strI {X : Cx} : OpR X (binaryOp .Mult) (fun x y H Q => ∃ z n, x = .str z ∧ y = .int n ∧ MulOk z n ∧ Q (.str (Txt.mul z n)) H) := by
  intro pins s σ H x y v u Q I rx ry h
  obtain ⟨z, n, rfl, rfl, hz, q⟩ := h
  obtain ⟨t, rfl⟩ := rx
  obtain ⟨t', rfl⟩ := ry
  exact PySem.SB.mul hz (fun t' tk => ⟨.str (Txt.mul z n), H, I.tok _, ⟨_, rfl⟩, q⟩)
/-- G, H go on; but for the objects of foot, H stays -/
structure Ex3 (foot : List Addr) (G H G' H' : Hp) : Prop where
  g : Same G G'
  s : Same G' H'
  h : ∀ b o, H b = some o → b ∉ foot → H' b = some o
  f : ∀ a o, H a = some o → nt o = true → G a = none → G' a = none
theorem Ex2.three {foot : List Addr} {G H G' H' : Hp} (x : Ex2 G H G' H') : Ex3 foot G H G' H' := ⟨x.g, x.s, fun b o e _ => x.h b o e, x.f⟩
theorem mark_ok {n : Int} (h0 : 0 ≤ n) (h1 : n ≤ 1000) : MulOk "x" n ∧ (Txt.mul "x" n).length = n.toNat := by
  have l1 : ("x" : Str).length = 1 := by decide
  refine ⟨⟨by simp; omega, fun h _ => ?_, fun h _ => ?_⟩, ?_⟩
  · rw [l1]
    have : (1 : Int) ≤ (2 ^ 63 - 1) / n := by
      rw [Int.le_ediv_iff_mul_le (by omega)]
      omega
    show ¬ ((1 : Int) > (2 ^ 63 - 1) / n)
    omega
  · rw [l1]
    show PySem.Builtin.Str.tooLong _ = false
    unfold PySem.Builtin.Str.tooLong
    rw [decide_eq_false_iff_not, sizeLine_eq]
    omega
  · unfold Txt.mul
    by_cases c : n < 1
    · rw [if_pos c]
      have : n = 0 := by omega
      rw [this]
      rfl
    · rw [if_neg c]
      by_cases d : (n == 1 || ("x" : Str).length == 0) = true
      · rw [if_pos d, l1] at *
        have : n = 1 := by simpa using d
        rw [this]; rfl
      · rw [if_neg d]
        have key : ∀ (k : Nat) (acc : Array Nat), ((List.replicate k ("x" : Str).cps).foldl (· ++ ·) acc).size = acc.size + k := by
          intro k
          induction k with
          | zero => intro acc; rfl
          | succ k ih =>
            intro acc
            rw [List.replicate_succ, List.foldl_cons, ih, Array.size_append]
            have : ("x" : Str).cps.size = 1 := l1
            omega
        show ((List.replicate n.toNat ("x" : Str).cps).foldl (· ++ ·) #[]).size = _
        rw [key]
        simp
theorem upd_none {H : Hp} {a b : Addr} {o : HO} (h : upd H a o b = none) : b ≠ a ∧ H b = none := by
  by_cases e : b = a
  · rw [e, upd_same] at h; cases h
  · rw [upd_ne e] at h; exact ⟨e, h⟩
/-- slots, some of them read by value -/
inductive RL (K : PySem.W.Frag) (G : Hp) : Rho → L2.St → Prop
  | nil : RL K G [] []
  | no {ρ : Rho} {σ : L2.St} {x : Option V} (t : RL K G ρ σ) : RL K G (none :: ρ) (x :: σ)
  | yes {ρ : Rho} {σ : L2.St} {v : V} {d : PyData} (h : DR K G v d) (t : RL K G ρ σ) : RL K G (some d :: ρ) (some v :: σ)
theorem RL.len {K : PySem.W.Frag} {G : Hp} : ∀ {ρ : Rho} {σ : L2.St}, RL K G ρ σ → ρ.length = σ.length
  | _, _, .nil => rfl
  | _, _, .no t => by rw [List.length_cons, List.length_cons, t.len]
  | _, _, .yes _ t => by rw [List.length_cons, List.length_cons, t.len]
theorem RL.get {K : PySem.W.Frag} {G : Hp} : ∀ {ρ : Rho} {σ : L2.St}, RL K G ρ σ → ∀ (i : Nat) (d : PyData), ρ[i]? = some (some d) → ∃ v, σ[i]? = some (some v) ∧ DR K G v d
  | _, _, .nil, i, d, h => by simp at h
  | _, _, .no t, 0, d, h => by simp at h
  | _, _, .no t, i + 1, d, h => by simpa using t.get i d (by simpa using h)
  | _, _, .yes h t, 0, d, e => by
    simp at e
    subst e
    exact ⟨_, rfl, h⟩
  | _, _, .yes _ t, i + 1, d, h => by simpa using t.get i d (by simpa using h)
theorem RL.rl {K : PySem.W.Frag} {G H : Hp} {ρ : Rho} {σ : L2.St} (h : RL K G ρ σ) (s : Same G H) : Rl K [] ρ σ G H (fun _ => 0) :=
  ⟨s, h.len, fun i d e _ => h.get i d e, fun i d _ hi => absurd hi List.not_mem_nil, fun i j d e hi => absurd hi List.not_mem_nil⟩
theorem RL.rs {K : PySem.W.Frag} {G H : Hp} {ρ : Rho} {σ : L2.St} (h : RL K G ρ σ) (s : Same G H) : RS K [] ρ σ G H (fun _ => 0) G H :=
  ⟨h.rl s, Ex2.refl s, fun i d _ hi => absurd hi List.not_mem_nil⟩
section
variable {K : PySem.W.Frag} {P : Pm} {G H : Hp} {ρ : Rho} {σ : L2.St}
/-- an expression that is read by value -/
theorem ev_rd {f : Rho → Res PyData} {d : PyData} {Q : VK} (h : RL K G ρ σ) (s : Same G H) (e : f ρ = .ok d) (q : ∀ v G' H', Ex2 G H G' H' → DR K G' v d → Q v H') : tD K P [] f σ H Q :=
  ⟨ρ, G, _, h.rl s, by rw [e]; exact q⟩
theorem ev_rx {f : Rho → Res PyData} {c : Str} {Q : VK} (h : RL K G ρ σ) (s : Same G H) (e : f ρ = .exc c) (q : ∀ G' H', Ex2 G H G' H' → P.Ex σ c H') : tD K P [] f σ H Q :=
  ⟨ρ, G, _, h.rl s, by rw [e]; exact q⟩
theorem tv_rd {f : Rho → Res Bool} {b : Bool} {Q : Bool → Hp → Prop} (h : RL K G ρ σ) (s : Same G H) (e : f ρ = .ok b) (q : ∀ G' H', Ex2 G H G' H' → Q b H') : tBl K P [] f σ H Q :=
  ⟨ρ, G, _, h.rl s, by rw [e]; exact fun b' G' H' x y => by subst y; exact q G' H' x⟩
/-- a raise -/
theorem rs_rd {c : Str} {E : Ends} (h : RL K G ρ σ) (s : Same G H) (q : ∀ σ' G' H', Ex2 G H G' H' → P.Ex σ' c H') : tS K P [] [] (sRse c) E σ H :=
  ⟨ρ, G, _, G, H, h.rs s, fun σ' G' H' al r => q σ' G' H' r.x⟩
end
theorem RL.mono {K : PySem.W.Frag} {G G' : Hp} (s : Same G G') : ∀ {ρ : Rho} {σ : L2.St}, RL K G ρ σ → RL K G' ρ σ
  | _, _, .nil => .nil
  | _, _, .no t => .no (t.mono s)
  | _, _, .yes h t => .yes (dr_same s h) (t.mono s)
end Bv
set_option Elab.async false
set_option linter.all false
set_option maxRecDepth 100000
set_option maxHeartbeats 1000000
namespace Bv
open PySem PySem.Spec L2
theorem pe_dok {X : Cx} {W : WX} {k j : Nat} {x : Str} {ps : List Str} {φ : List PyData → Res PyData} {e : Expr} {es : List Expr} {t : TA} {p pos : Pos} (F : DOk X.prog X.w X.K X.mg X.base k x ps φ) (hr : Room j X.A) (ha : PA X (e :: es) t) (tk : Takes X W) (hk : k ≤ j := by decide)
    (hg : Gl X x := by rfl) (hdb : (x == ("__debug__" : Str)) = false := by decide) (he : starEach (e :: es) X.env = (false, eval e X.env) :: starEach es X.env := by rfl) (hpl : (backTo pos (starEach es X.env)).any (·.1) = false := by rfl) :
    PE X (.Call (.Name x p) (e :: es) [] pos) (tCallS (spF X.K (He.ga X.K) φ) (WE W) t) := by
  obtain ⟨fd, h1, h2, _⟩ := F.ex
  exact pe_callS h1 (hr.mono hk) hg F.gm F.kp h2 (fun σ => passAt tk σ) ha hdb he hpl
theorem spF_ex {K : PySem.W.Frag} {φ : List PyData → Res PyData} {vs : List V} {ds : List PyData} {G H : Hp} {Q : VK} {E : XK} {c : Str} (s : Same G H) (hd : DRs K G vs ds) (h : φ ds = .exc c) (q : ∀ G' H', Ex2 G H G' H' → E (.ref (He.ga K c)) none H') : spF K (He.ga K) φ vs H Q E :=
  ⟨ds, G, s, hd, by rw [h]; exact q⟩
theorem Ex2.back {G H G' H' : Hp} (x : Ex2 G H G' H') {b : Addr} (h : H' b = none) : H b = none := by
  cases e : H b with
  | none => rfl
  | some o => rw [x.h b o e] at h; cases h
theorem Ex3.after {foot : List Addr} {G H G1 H1 G2 H2 : Hp} (y : Ex3 foot G1 H1 G2 H2) (x : Ex2 G H G1 H1) : Ex3 foot G H G2 H2 :=
  ⟨x.g.trans y.g, y.s, fun b o e hb => y.h b o (x.h b o e) hb, fun a o e nt_ e2 => y.f a o (x.h a o e) nt_ (x.f a o e nt_ e2)⟩
theorem Ex3.then2 {foot : List Addr} {G H G1 H1 G2 H2 : Hp} (y : Ex3 foot G H G1 H1) (x : Ex2 G1 H1 G2 H2) (hn : ∀ b ∈ foot, ∃ o', H1 b = some o' ∧ nt o' = true) : Ex3 foot G H G2 H2 :=
  ⟨y.g.trans x.g, x.s, fun b o e hb => x.h b o (y.h b o e hb), fun a o e n e2 => by
    by_cases c : a ∈ foot
    · obtain ⟨o', e', n'⟩ := hn a c
      exact x.f a o' e' n' (y.f a o e n e2)
    · exact x.f a o (y.h a o e c) n (y.f a o e n e2)⟩
theorem HdAt.nts {K : PySem.W.Frag} {C : Addr} {G H : Hp} {p dl ul : Addr} {cam pr : PyData} {dn un : List PyData} (h : HdAt K C G H p dl ul cam pr dn un) : ∀ b ∈ [p, dl, ul], ∃ o', H b = some o' ∧ nt o' = true := by
  obtain ⟨dx, cv, pv, h1, _⟩ := h.ob
  obtain ⟨vs, h4, _⟩ := h.dn
  obtain ⟨us, h6, _⟩ := h.un
  intro b hb
  simp only [List.mem_cons, List.not_mem_nil, or_false] at hb
  rcases hb with rfl | rfl | rfl
  · exact ⟨_, h1, rfl⟩
  · exact ⟨_, h4, rfl⟩
  · exact ⟨_, h6, rfl⟩
theorem dqAll_snoc {K : PySem.W.Frag} {G : Hp} {d : PyData} : ∀ {l : List PyData} {vs : List V}, DqAll K G vs (l ++ [d]) → ∃ ws y, vs = ws ++ [y] ∧ DqAll K G ws l ∧ Dq K G y d
  | [], vs, h => by
    cases h with
    | cons q t => cases t; exact ⟨[], _, rfl, .nil, q⟩
  | c :: l, vs, h => by
    cases h with
    | cons q t =>
      obtain ⟨ws, y, rfl, q1, q2⟩ := dqAll_snoc t
      exact ⟨_ :: ws, y, rfl, .cons q q1, q2⟩
theorem dq_dr {K : PySem.W.Frag} {G : Hp} {v : V} {d : PyData} (h : Dq K G v d) : DR K G v d := .dq h
/-- a comparison of data -/
def rCmpD (K : PySem.W.Frag) (op : CmpOp) : R2 := fun x y H Q => ∃ G d e b, Same G H ∧ DX K G H x d ∧ DX K G H y e ∧ cmpD op d e = .ok (.bool b) ∧ ∀ G' H', Ex2 G H G' H' → Q (.bl b) H'
theorem op_cmpD {X : Cx} (hu : X.A.units + 65 < cLine) (op : CmpOp) : OpR X (compareOp op) (rCmpD X.K op) := by
  obtain ⟨r, h1, h2⟩ := cmp_ok hu op
  intro pins s σ H x y v u Q I rx ry h
  refine h1 pins s σ H x y v u Q I rx ry ?_
  obtain ⟨G, d, e, b, s, dx, dy, hc, q⟩ := h
  refine h2 ⟨fun _ _ _ _ => False, He.ga X.K⟩ σ G H x y d e _ s dx dy ?_
  rw [hc]
  intro v G' H' x2 hv
  rw [dr_bl hv]
  exact q G' H' x2
theorem hfl_n {cv pv : V} {dl ul : Addr} (m : Str) (h1 : (m == "camera") = false) (h2 : (m == "present") = false) (h3 : (m == "done") = false) (h4 : (m == "undone") = false) : (hfl cv pv dl ul).lookup m = none := by
  unfold hfl
  simp only [List.lookup_cons, h1, h2, h3, h4]
  rfl
/-- an operation of data -/
def rBinD (K : PySem.W.Frag) (op : Operator) : R2 := fun x y H Q => ∃ G d e r, Same G H ∧ DX K G H x d ∧ DX K G H y e ∧ binD op d e = .ok r ∧ ∀ v G' H', Ex2 G H G' H' → DR K G' v r → Q v H'
theorem op_binD {X : Cx} (op : Operator) : OpR X (binaryOp op) (rBinD X.K op) := by
  obtain ⟨r, h1, h2⟩ := bin_ok op
  intro pins s σ H x y v u Q I rx ry h
  refine h1 pins s σ H x y v u Q I rx ry ?_
  obtain ⟨G, d, e, b, s, dx, dy, hc, q⟩ := h
  refine h2 ⟨fun _ _ _ _ => False, He.ga X.K⟩ σ G H x y d e _ s dx dy ?_
  rw [hc]
  exact q
end Bv
set_option Elab.async false
set_option linter.all false
set_option maxRecDepth 100000
set_option maxHeartbeats 1000000
namespace Bv
open PySem PySem.Spec L2
/-- the sign of a wheel -/
def sg (p : Nat) : Int := if p = 2 then -1 else 1
/-- a setting with an exposure number that is greater by x, by one wheel -/
def chg (s : List Int) (p : Nat) (x : Int) : List Int := s.set p (s.getD p 0 + sg p * x)
/-- a setting, a wheel and its value -/
structure At (C : List W3) (s : List Int) (p : Nat) (w : W3) (v : Int) : Prop where
  ok : OkC C
  ms : s ∈ sets C
  lt : p < 3
  ew : C[p]? = some w
  ev : s[p]? = some v
  ow : OkW w
  mv : v ∈ vals w
theorem at_of {C : List W3} (h : OkC C) {s : List Int} (hs : s ∈ sets C) {p : Nat} (hp : p < 3) : ∃ w v, At C s p w v := by
  obtain ⟨w1, w2, w3, rfl⟩ := three h
  have hs' := hs
  rw [mem_sets3] at hs'
  obtain ⟨a, ha, b, hb, c, hc, rfl⟩ := hs'
  have : p = 0 ∨ p = 1 ∨ p = 2 := by omega
  rcases this with rfl | rfl | rfl
  · exact ⟨w1, a, h, hs, hp, rfl, rfl, h.ok _ (by simp), ha⟩
  · exact ⟨w2, b, h, hs, hp, rfl, rfl, h.ok _ (by simp), hb⟩
  · exact ⟨w3, c, h, hs, hp, rfl, rfl, h.ok _ (by simp), hc⟩
theorem with_error_c {a b c : Int} {p : Nat} (hp : p < 3) {x : Int} : p_with_error [eS [a, b, c], .int p, .int x] = .ok (eS (chg [a, b, c] p x)) := by
  have s3 : ∀ i : Nat, i < 3 → idxD (kstD k_SIGNS) (.int i) = .ok (.int (sg i)) := fun i hi => by
    have : i = 0 ∨ i = 1 ∨ i = 2 := by omega
    rcases this with rfl | rfl | rfl <;> rfl
  have l0 : sliD none (some 0) (.tuple [.int a, .int b, .int c]) = .ok (.tuple []) := rfl
  have l1 : sliD none (some 1) (.tuple [.int a, .int b, .int c]) = .ok (.tuple [.int a]) := rfl
  have l2 : sliD none (some 2) (.tuple [.int a, .int b, .int c]) = .ok (.tuple [.int a, .int b]) := rfl
  have u1 : sliD (some 1) none (.tuple [.int a, .int b, .int c]) = .ok (.tuple [.int b, .int c]) := rfl
  have u2 : sliD (some 2) none (.tuple [.int a, .int b, .int c]) = .ok (.tuple [.int c]) := rfl
  have u3 : sliD (some 3) none (.tuple [.int a, .int b, .int c]) = .ok (.tuple []) := rfl
  have ti : ∀ i : Int, toI (.int i) = .ok (some i) := fun _ => rfl
  have s0 := s3 0 (by omega)
  have s1 := s3 1 (by omega)
  have s2 := s3 2 (by omega)
  have : p = 0 ∨ p = 1 ∨ p = 2 := by omega
  rcases this with rfl | rfl | rfl
  · simp at s0
    simp [p_with_error, runD, f_with_error, eS, s0, sg, l0, u1, tupM_of, ti, sizeLine_eq, chg]
  · simp at s1
    simp [p_with_error, runD, f_with_error, eS, s1, sg, l1, u2, tupM_of, ti, sizeLine_eq, chg]
  · simp at s2
    simp [p_with_error, runD, f_with_error, eS, s2, sg, l2, u3, tupM_of, ti, sizeLine_eq, chg]
section
variable {C : List W3} {s : List Int} {p : Nat} {w : W3} {v : Int}
theorem At.with_err (A : At C s p w v) (x : Int) : p_with_error [eS s, .int p, .int x] = .ok (eS (chg s p x)) := by
  obtain ⟨a, b, c, rfl⟩ := set3 A.ok A.ms
  exact with_error_c A.lt
theorem At.ch_at (A : At C s p w v) (x : Int) : (chg s p x)[p]? = some (v + sg p * x) := by
  have l := A.ev
  unfold chg
  obtain ⟨hl, e⟩ := List.getElem?_eq_some_iff.mp l
  rw [List.getElem?_set_self hl, List.getD_eq_getElem?_getD, l]
  rfl
theorem At.ch_in (A : At C s p w v) (x : Int) : chg s p x ∈ sets C ↔ v + sg p * x ∈ vals w := by
  obtain ⟨h, hs, hp, hw, hv, ow, mv⟩ := A
  obtain ⟨w1, w2, w3, rfl⟩ := three h
  rw [mem_sets3] at hs
  obtain ⟨a, ha, b, hb, c, hc, rfl⟩ := hs
  have : p = 0 ∨ p = 1 ∨ p = 2 := by omega
  rw [mem_sets3]
  rcases this with rfl | rfl | rfl <;> simp at hw hv <;> subst hw <;> subst hv <;> simp [chg]
  · exact ⟨fun ⟨_, h1, _, h2, _, h3, e1, e2, e3⟩ => by rw [e1]; exact h1, fun z => ⟨_, z, _, hb, _, hc, rfl, rfl, rfl⟩⟩
  · exact ⟨fun ⟨_, h1, _, h2, _, h3, e1, e2, e3⟩ => by rw [e2]; exact h2, fun z => ⟨_, ha, _, z, _, hc, rfl, rfl, rfl⟩⟩
  · exact ⟨fun ⟨_, h1, _, h2, _, h3, e1, e2, e3⟩ => by rw [e3]; exact h3, fun z => ⟨_, ha, _, hb, _, z, rfl, rfl, rfl⟩⟩
/-- the bracketing row -/
def brk (s : List Int) (p : Nat) (w : W3) (v m z : Int) : Option (List (List Int)) := if (rg (-m) (m + 1)).all (fun j => decide (v + sg p * (z * j) ∈ vals w)) then some ((rg (-m) (m + 1)).map fun j => chg s p (z * j)) else none
def eB : Option (List (List Int)) → PyData := oD fun l => .list (l.map eS)
theorem isEn_eB : IsEn eB 2 := isEn_opt (isEn_list isEn_eS) fun _ h => by cases h
theorem rg2 {m : Int} (h0 : 0 ≤ m) (h1 : m ≤ 100) : rngL [.int (-m), .int (m + 1)] = .ok (rg (-m) (m + 1)) := rngL_2 (by omega) (by omega) (by omega) (by omega)
theorem At.find_bracket (A : At C s p w v) {m z : Int} (h0 : 0 ≤ m) (h1 : m ≤ 100) (z0 : 0 ≤ z) (z1 : z ≤ 100) : p_find_bracket [cD C, eS s, .int p, .int m, .int z] = .ok (eB (brk s p w v m z)) := by
  have h1' := rg2 h0 h1
  have hc1 : ∀ x5 x6 x7 x8, c_find_bracket_1 [some (cD C), some (eS s), some (.int p), some (.int m), some (.int z), x5, x6, x7, x8] = .ok (.list ((rg (-m) (m + 1)).map fun j => eS (chg s p (z * j)))) := fun x5 x6 x7 x8 => by
    refine xComp_map (vs := [7]) PyData.int (fun j => eS (chg s p (z * j))) (xs := rg (-m) (m + 1)) (by simp [h1']) fun j hj => ⟨_, rfl, rfl, ?_, rfl⟩
    have b : (-18446744073709551616 < z ∧ z < 18446744073709551616) := by omega
    simp [wipeR, b, A.with_err]
  have cm : idxD (cD C) (.int p) = .ok (wD w) := idx_tup (by rw [List.getElem?_map, A.ew]; rfl)
  have hc2 : ∀ x7 x8, c_find_bracket_2 [some (cD C), some (eS s), some (.int p), some (.int m), some (.int z), some (.list ((rg (-m) (m + 1)).map fun j => eS (chg s p (z * j)))), some (eL (vals w)), x7, x8] = .ok (.list ((rg (-m) (m + 1)).map fun j => .bool (decide (v + sg p * (z * j) ∈ vals w)))) := fun x7 x8 => by
    refine xComp_map (vs := [8]) (fun j => eS (chg s p (z * j))) (fun j => .bool (decide (v + sg p * (z * j) ∈ vals w))) (xs := rg (-m) (m + 1)) (by simp) fun j hj => ⟨_, rfl, rfl, ?_, rfl⟩
    have i1 : idxD (eS (chg s p (z * j))) (.int p) = .ok (.int (v + sg p * (z * j))) := idx_tup (by rw [List.getElem?_map, A.ch_at]; rfl)
    have i2 := in_en isEn_int (by omega) (v + sg p * (z * j)) (vals w)
    simp [wipeR, i1, eL, i2]
  refine runD_rt rfl (sC_nx (sSet_ok (hc1 none none none none)) (sC_nx (sSet_ok (d := eL (vals w)) (by simp [cm, wheel_values_w A.ow])) (sRet_ok ?_)))
  show xIf (tV (xBi .all (aC c_find_bracket_2 aN))) (xV 5) (xK .none) [some (cD C), some (eS s), some (.int p), some (.int m), some (.int z), some (.list ((rg (-m) (m + 1)).map fun j => eS (chg s p (z * j)))), some (eL (vals w)), none, none] = _
  rw [xIf_ap, tV_ap, xBi_ap, aC_ap, hc2]
  simp only [aN_ap, Res.ok_bind, all_map, toB_b, xV_ap, xK_ap, gv_5]
  unfold brk
  cases (rg (-m) (m + 1)).all fun j => decide (v + sg p * (z * j) ∈ vals w)
  · rfl
  · simp [eB, oD]
theorem check_number_i {n b : Int} (h0 : 1 ≤ n) (h1 : n ≤ b) : p_check_number [.int n, .int b] = .ok .none := by
  simp [p_check_number, runD, f_check_number, is_int_int, h0, h1]
/-- the names -/
def nm (p : Nat) : PyData := .str (if p = 0 then "aperture" else if p = 1 then "time" else "sensitivity")
theorem find_wheel_n {p : Nat} (hp : p < 3) : p_find_wheel [nm p] = .ok (.int p) := by
  have : p = 0 ∨ p = 1 ∨ p = 2 := by omega
  rcases this with rfl | rfl | rfl
  · show p_find_wheel [.str "aperture"] = .ok (.int 0); kernel_rfl
  · show p_find_wheel [.str "time"] = .ok (.int 1); kernel_rfl
  · show p_find_wheel [.str "sensitivity"] = .ok (.int 2); kernel_rfl
theorem At.bracket (A : At C s p w v) {m z : Int} (h0 : 1 ≤ m) (h1 : m ≤ 4) (z0 : 1 ≤ z) (z1 : z ≤ 12) : p_bracket [cD C, eS s, nm p, .int m, .int z] = .ok (eB (brk s p w v m z)) := by
  have hb := A.find_bracket (m := m) (z := z) (by omega) (by omega) (by omega) (by omega)
  refine runD_rt rfl ?_
  simp [f_bracket, check_camera_c A.ok, check_setting_s A.ok A.ms, find_wheel_n A.lt, check_number_i h0 h1, check_number_i z0 z1, hb]
theorem isn (o : Option (List (List Int))) : (!isNone (eB o)) = o.isSome := by
  cases o <;> rfl
/-- the widths with a row -/
def wid (s : List Int) (p : Nat) (w : W3) (v m : Int) : List Int := (rg 1 13).filter fun z => (brk s p w v m z).isSome
theorem At.widest (A : At C s p w v) {m : Int} (h0 : 1 ≤ m) (h1 : m ≤ 4) : p_widest [cD C, eS s, nm p, .int m] = .ok (.int (mx (wid s p w v m ++ [0]))) := by
  have r : rngL [.int 1, .int 13] = .ok (rg 1 13) := rngL_2 (by omega) (by omega) (by omega) (by omega)
  have hc1 : c_widest_1 [some (cD C), some (eS s), some (nm p), some (.int m), some (.int p), some (.list ((rg 1 13).map .int)), none] = .ok (eL (wid s p w v m)) := by
    refine xComp_fm (vs := [6]) PyData.int (fun z => (brk s p w v m z).isSome) PyData.int (xs := rg 1 13) (by simp) fun z hz => ⟨_, rfl, ?_, fun _ => ⟨by simp [wipeR], rfl⟩⟩
    have := mem_rg.mp hz
    have hb := A.find_bracket (m := m) (z := z) (by omega) (by omega) (by omega) (by omega)
    simp [wipeR, hb, isn]
  have hm := max_mx (l := wid s p w v m ++ [0]) (by simp)
  have wl : (wid s p w v m).length ≤ 12 := List.length_filter_le _ _
  refine runD_rt rfl ?_
  simp [f_widest, check_camera_c A.ok, check_setting_s A.ok A.ms, find_wheel_n A.lt, check_number_i h0 h1, r, hc1, lstM_of]
  rw [eL, addD_list, if_pos (by rw [sizeLine_eq]; simp; omega)]
  have e : (wid s p w v m).map PyData.int ++ [.int 0] = (wid s p w v m ++ [0]).map .int := by simp
  rw [e]
  have hm' : biD .max [.list ((wid s p w v m ++ [0]).map .int)] = .ok (.int (mx (wid s p w v m ++ [0]))) := hm
  rw [Res.ok_bind, Res.ok_bind, hm']
  rfl
theorem At.row (A : At C s p w v) {m z : Int} (h0 : 1 ≤ m) (h1 : m ≤ 4) (z0 : 1 ≤ z) (z1 : z ≤ 12) : p__law_row [cD C, eS s, .int p, .int m, .int z] = .ok (eB (brk s p w v m z)) := by
  have few : (sets C).length ≤ 2197 := by
    obtain ⟨w1, w2, w3, e⟩ := three A.ok
    have := sets_size C A.ok.ok
    rw [A.ok.len] at this
    exact this
  have good : ∀ j : Int, (sets C).filter (fun t => decide (t = chg s p (z * j))) = if v + sg p * (z * j) ∈ vals w then [chg s p (z * j)] else [] := fun j => by
    rw [filter_one (sets_nodup A.ok) (u := chg s p (z * j)) fun t _ => by simp]
    simp only [A.ch_in]
  rcases sFor_stop (fi := iRg 2 (aC (xBin .Sub (xK (.int 0)) (xV 3)) (aC (xBin .Add (xV 3) (xK (.int 1))) aN))) (T := .nm 6) (f := l__law_row_2)
    (ρ := [some (cD C), some (eS s), some (.int p), some (.int m), some (.int z), some (.list []), none, none, none, none, none])
    PyData.int (fun pre ρ => ∃ x6 x7 x8 x9 : Option PyData, ρ = [some (cD C), some (eS s), some (.int p), some (.int m), some (.int z), some (.list ((pre.map fun j => chg s p (z * j)).map eS)), x6, x7, x8, x9, none])
    (fun j => decide (v + sg p * (z * j) ∈ vals w)) .none (xs := rg (-m) (m + 1)) (by simp [rg2 (m := m) (by omega) (by omega)]) ⟨none, none, none, none, rfl⟩ (by
      rintro pre j post ρ hx ⟨x6, x7, x8, x9, rfl⟩
      have pl : pre.length ≤ 10 := by
        have := congrArg List.length hx
        rw [rg_len] at this
        simp at this
        omega
      refine ⟨_, rfl, ?_⟩
      -- the good settings
      have lk := sFor_pre (fi := iSq' (xCall p__law_every (aC (xV 0) aN))) (T := .nm 8) (f := l__law_row_1)
        (ρ := [some (cD C), some (eS s), some (.int p), some (.int m), some (.int z), some (.list ((pre.map fun j => chg s p (z * j)).map eS)), some (.int j), some (.list []), x8, x9, none])
        eS (fun done ρ => ∃ x8 x9 : Option PyData, ρ = [some (cD C), some (eS s), some (.int p), some (.int m), some (.int z), some (.list ((pre.map fun j => chg s p (z * j)).map eS)), some (.int j), some (.list ((done.filter fun t => decide (t = chg s p (z * j))).map eS)), x8, x9, none]) (xs := sets C) (by simp [every_c A.ok]) ⟨x8, x9, rfl⟩ (by
          rintro done t rest ρ ht ⟨x8, x9, rfl⟩
          have mt : t ∈ sets C := by rw [ht]; simp
          have dl : (done.filter fun t => decide (t = chg s p (z * j))).length ≤ 2197 := by
            refine Nat.le_trans (List.length_filter_le _ _) ?_
            have := congrArg List.length ht
            simp at this
            omega
          obtain ⟨a, b, c, es⟩ := set3 A.ok A.ms
          obtain ⟨x, y, u, et⟩ := set3 A.ok mt
          have e9 : c__law_row_1 [some (cD C), some (eS s), some (.int p), some (.int m), some (.int z), some (.list ((pre.map fun j => chg s p (z * j)).map eS)), some (.int j), some (.list ((done.filter fun t => decide (t = chg s p (z * j))).map eS)), some (eS t), x9, none] = .ok (.list ((([0, 1, 2] : List Nat).filter fun k => decide (k ≠ p)).map fun k => .bool (decide (t.getD k 0 = s.getD k 0)))) := by
            refine xComp_fm (vs := [10]) (fun k : Nat => .int k) (fun k => decide (k ≠ p)) (fun k => .bool (decide (t.getD k 0 = s.getD k 0))) (xs := [0, 1, 2]) (by simp; rfl) fun k hk => ⟨_, rfl, ?_, fun _ => ⟨?_, rfl⟩⟩
            · simp [wipeR, Int.ofNat_inj]
            · subst es et
              simp at hk
              rcases hk with rfl | rfl | rfl <;> simp [wipeR, eS]
          have key : ((([0, 1, 2] : List Nat).filter fun k => decide (k ≠ p)).all (fun k => decide (t.getD k 0 = s.getD k 0)) && decide (num t - num s = j * z)) = decide (t = chg s p (z * j)) := by
            have hp := A.lt
            subst es et
            have : p = 0 ∨ p = 1 ∨ p = 2 := by omega
            have zz := Int.mul_comm z j
            rcases this with rfl | rfl | rfl
            · rw [Bool.eq_iff_iff, Bool.and_eq_true, decide_eq_true_iff, decide_eq_true_iff]
              simp [num, chg, sg]
              omega
            · rw [Bool.eq_iff_iff, Bool.and_eq_true, decide_eq_true_iff, decide_eq_true_iff]
              simp [num, chg, sg]
              omega
            · rw [Bool.eq_iff_iff, Bool.and_eq_true, decide_eq_true_iff, decide_eq_true_iff]
              simp [num, chg, sg]
              omega
          obtain ⟨G, hG⟩ : ∃ G : PyData, G = .list ((([0, 1, 2] : List Nat).filter fun k => decide (k ≠ p)).map fun k => .bool (decide (t.getD k 0 = s.getD k 0))) := ⟨_, rfl⟩
          rw [← hG] at e9
          refine ⟨_, _, rfl, sC_nx (sSet_ok e9) (?_ : _ = SR.nx [some (cD C), some (eS s), some (.int p), some (.int m), some (.int z), some (.list ((pre.map fun j => chg s p (z * j)).map eS)), some (.int j), some (.list (((done ++ [t]).filter fun t => decide (t = chg s p (z * j))).map eS)), some (eS t), some G, none]), _, _, rfl⟩
          rw [hG]
          have bj : (-18446744073709551616 < z ∧ z < 18446744073709551616) := by omega
          have cond : tAnd (tV (xBi .all (aC (xV 9) aN))) (tV (xCmp .Eq (xBin .Sub (xCall p__law_number (aC (xV 8) aN)) (xCall p__law_number (aC (xV 1) aN))) (xBin .Mult (xV 6) (xV 4)))) [some (cD C), some (eS s), some (.int p), some (.int m), some (.int z), some (.list ((pre.map fun j => chg s p (z * j)).map eS)), some (.int j), some (.list ((done.filter fun t => decide (t = chg s p (z * j))).map eS)), some (eS t), some (.list ((([0, 1, 2] : List Nat).filter fun k => decide (k ≠ p)).map fun k => .bool (decide (t.getD k 0 = s.getD k 0)))), none] = .ok (decide (t = chg s p (z * j))) := by
            rw [tAnd_ap, tV_ap, xBi_ap, aC_ap, xV_ap, gv_9]
            simp only [aN_ap, Res.ok_bind, all_map, toB_b]
            rw [← key]
            cases ((([0, 1, 2] : List Nat).filter fun k => decide (k ≠ p)).all fun k => decide (t.getD k 0 = s.getD k 0))
            · rfl
            · simp [number_s A.ok mt, number_s A.ok A.ms, bj]
          rw [List.filter_append]
          by_cases c : t = chg s p (z * j)
          · rw [decide_eq_true c] at cond
            refine sIf_t cond ?_
            rw [sApp_ok (a := (done.filter fun t => decide (t = chg s p (z * j))).map eS) (y := eS t) rfl rfl rfl (by simp; omega)]
            simp [c]
          · rw [decide_eq_false c] at cond
            refine sIf_f cond ?_
            simp [c])
      obtain ⟨ρ', k1, y8, y9, rfl⟩ := lk
      rw [good] at k1
      by_cases c : v + sg p * (z * j) ∈ vals w
      · rw [if_pos c] at k1
        refine .inl ⟨decide_eq_true c, _, sC_nx (sSet_ok (d := .list []) rfl) (sC_nx k1 (sC_nx (sIf_f (by simp) rfl) (sApp_ok (a := (pre.map fun j => chg s p (z * j)).map eS) (y := eS (chg s p (z * j))) rfl ?_ rfl ?_))), some (.int j), some (.list ([chg s p (z * j)].map eS)), y8, y9, ?_⟩
        · simp
          exact idx_list (i := 0) rfl
        · simp; omega
        · simp
      · rw [if_neg c] at k1
        exact .inr ⟨decide_eq_false c, sC_nx (sSet_ok (d := .list []) rfl) (sC_nx k1 (sC_rt (sIf_t (by simp) (sRet_ok rfl))))⟩)
    with ⟨ρ', k1, ⟨x6, x7, x8, x9, rfl⟩, al⟩ | ⟨k1, al⟩
  · refine runD_rt rfl (sC_nx (sSet_ok (d := .list []) rfl) (sC_nx k1 (sRet_ok ?_)))
    unfold brk
    rw [al]
    rfl
  · refine runD_rt rfl (sC_nx (sSet_ok (d := .list []) rfl) (sC_rt (k1.trans ?_)))
    unfold brk
    rw [al]
    rfl
theorem At.wid_step (A : At C s p w v) {m z : Int} (h0 : 1 ≤ m) (hz : z ∈ wid s p w v m) : z % w.2.2 = 0 := by
  obtain ⟨_, h⟩ := List.mem_filter.mp hz
  unfold brk at h
  split at h
  · rename_i al
    rw [List.all_eq_true] at al
    have a1 := decide_eq_true_iff.mp (al 1 (mem_rg.mpr ⟨by omega, by omega⟩))
    have mv := A.mv
    have o := A.ow.s0
    unfold vals at a1 mv
    obtain ⟨i, _, e1⟩ := List.mem_map.mp mv
    obtain ⟨j, _, e2⟩ := List.mem_map.mp a1
    have hs : sg p = 1 ∨ sg p = -1 := by
      unfold sg
      split <;> simp
    rcases hs with hs | hs
    · rw [hs] at e2
      have : z = ((j : Int) - i) * w.2.2 := by rw [Int.sub_mul]; omega
      rw [this]
      exact Int.mul_emod_left _ _
    · rw [hs] at e2
      have : z = ((i : Int) - j) * w.2.2 := by rw [Int.sub_mul]; omega
      rw [this]
      exact Int.mul_emod_left _ _
  · simp at h
end
/-- has a place a row -/
def hasB (C : List W3) (s : List Int) (m z : Int) (p : Nat) : Bool := (brk s p (C.getD p (0, 0, 0)) (s.getD p 0) m z).isSome
theorem At.hasB {C : List W3} {s : List Int} {p : Nat} {w : W3} {v : Int} (A : At C s p w v) (m z : Int) : hasB C s m z p = (brk s p w v m z).isSome := by
  unfold Bv.hasB
  rw [List.getD_eq_getElem?_getD, List.getD_eq_getElem?_getD, A.ew, A.ev]
  rfl
theorem wheels_for_c {C : List W3} (h : OkC C) {s : List Int} (hs : s ∈ sets C) {m z : Int} (h0 : 1 ≤ m) (h1 : m ≤ 4) (z0 : 1 ≤ z) (z1 : z ≤ 12) : p_wheels_for [cD C, eS s, .int m, .int z] = .ok (.list ((([0, 1, 2] : List Nat).filter (hasB C s m z)).map nm)) := by
  have hc1 : c_wheels_for_1 [some (cD C), some (eS s), some (.int m), some (.int z), none, none] = .ok (.list ((([0, 1, 2] : List Nat).filter (hasB C s m z)).map fun p : Nat => .int p)) := by
    refine xComp_fm (vs := [5]) (fun p : Nat => .int p) (hasB C s m z) (fun p : Nat => .int p) (xs := [0, 1, 2]) (by simp [k_NAMES]; rfl) fun p hp => ?_
    obtain ⟨w, v, A⟩ := at_of h hs (p := p) (by simp at hp; omega)
    have hb := A.find_bracket (m := m) (z := z) (by omega) (by omega) (by omega) (by omega)
    exact ⟨_, rfl, by simp [wipeR, hb, isn, A.hasB], fun _ => ⟨by simp [wipeR], rfl⟩⟩
  have hc2 : c_wheels_for_2 [some (cD C), some (eS s), some (.int m), some (.int z), some (.list ((([0, 1, 2] : List Nat).filter (hasB C s m z)).map fun p : Nat => .int p)), none] = .ok (.list ((([0, 1, 2] : List Nat).filter (hasB C s m z)).map nm)) := by
    refine xComp_map (vs := [5]) (fun p : Nat => .int p) nm (by simp) fun p hp => ⟨_, rfl, rfl, ?_, rfl⟩
    have hp := (List.mem_filter.mp hp).1
    simp at hp
    rcases hp with rfl | rfl | rfl <;> simp [wipeR] <;> rfl
  have c3 : p_check_three_k20 [cD C, eS s, .int m] = .ok .none := by
    simp [p_check_three_k20, runD, f_check_three_k20, check_camera_c h, check_setting_s h hs, check_number_i h0 h1]
  refine runD_rt rfl ?_
  simp [f_wheels_for, c3, check_number_i z0 z1, hc1, hc2]
theorem law_true_k20 (ns : List Int) (hn : ns.length ≤ 63) : p_law_k20 [scrD (ns.map .int)] = .ok (.bool true) := by
  obtain ⟨S, hS⟩ : ∃ S, S = scrD (ns.map .int) := ⟨_, rfl⟩
  obtain ⟨NM, hNM⟩ : ∃ NM : PyData, NM = .list (([0, 1, 2] : List Nat).map nm) := ⟨_, rfl⟩
  have nmi : ∀ p : Nat, p < 3 → idxD NM (.int p) = .ok (nm p) := fun p hp => by
    rw [hNM]
    refine idx_list ?_
    rw [List.getElem?_map]
    have : p = 0 ∨ p = 1 ∨ p = 2 := by omega
    rcases this with rfl | rfl | rfl <;> rfl
  have loop := sFor_pre (fi := iRg 1 (aC (xK (.int 2)) aN)) (T := .nm 2) (f := l_law_k20_2) (ρ := [some S, some NM, none, none, none, none, none, none, none, none, none, none, none, none])
    PyData.int (fun pre ρ => ∃ (x2 x3 x4 x5 x6 x7 x8 x9 x10 x11 x12 : Option PyData), ρ = [some S, some NM, x2, x3, x4, x5, x6, x7, x8, x9, x10, x11, x12, none]) (xs := [0, 1]) (by simp; rfl) ⟨none, none, none, none, none, none, none, none, none, none, none, rfl⟩ (by
      rintro pre i post ρ hx ⟨x2, x3, x4, x5, x6, x7, x8, x9, x10, x11, x12, rfl⟩
      have hi : 0 ≤ i := by
        have : i ∈ ([0, 1] : List Int) := by rw [hx]; simp
        simp at this
        omega
      obtain ⟨ws, hl, hw, eb⟩ := box_ok hn (at_ := 30 * i) (m := 6) (by omega) (by omega) (by omega)
      obtain ⟨w1, w2, w3, rfl⟩ := three (okC_of hl hw)
      obtain ⟨q, q0, q1, eq⟩ := pick_ok hn (k := 30 * i + 12) (many := 9) (by omega) (by omega)
      obtain ⟨m, m0, m1, em⟩ := pick_ok hn (k := 30 * i + 14) (many := 2) (by omega) (by omega)
      obtain ⟨z, z0, z1, ez⟩ := pick_ok hn (k := 30 * i + 15) (many := 4) (by omega) (by omega)
      have h : OkC [w1, w2, (0, q, 1)] := ⟨rfl, fun w hw' => by
        simp at hw'
        rcases hw' with rfl | rfl | rfl
        · exact (hw _ (by simp)).ok
        · exact (hw _ (by simp)).ok
        · exact ⟨by simp, by simp, by simpa using q0, by simp; omega, by simp, by simp, by simp; omega⟩⟩
      obtain ⟨C, hC⟩ : ∃ C, C = [w1, w2, (0, q, 1)] := ⟨_, rfl⟩
      have ec : binD .Add (.tuple [wD w1, wD w2]) (.tuple [.tuple [.int 0, .int q, .int 1]]) = .ok (cD C) := by
        rw [addD_tup, if_pos (by rw [sizeLine_eq]; simp), hC]
        rfl
      rw [← hC] at h
      have he := every_c h
      have sp := sets_pos h
      obtain ⟨j5, s5, hs5, ep5, ei5⟩ := drawn_s h hn (k := 30 * i + 13) (by omega)
      have mid : ∃ s ∈ sets C, idxD (.list ((sets C).map eS)) (.int ((sets C).length / 2)) = .ok (eS s) := by
        have hl2 : (sets C).length / 2 < (sets C).length := by omega
        exact ⟨(sets C)[(sets C).length / 2], List.getElem_mem hl2, idx_list (i := (sets C).length / 2) (by rw [List.getElem?_map, List.getElem?_eq_getElem hl2]; rfl)⟩
      obtain ⟨s6, hs6, ei6⟩ := mid
      rw [← hS] at eb eq em ez ep5
      obtain ⟨s, hs, e5⟩ : ∃ s ∈ sets C, ∀ x5 x6 x7 x8 x9 x10 x11 x12, xIf (tV (xCmp .Eq (xV 2) (xK (.int 0)))) (xIdx (xV 4) (xBin .FloorDiv (xBi .len (aC (xV 4) (aN))) (xK (.int 2)))) (xIdx (xV 4) (xCall p__law_pick (aC (xV 0) (aC (xBin .Add (xBin .Mult (xK (.int 30)) (xV 2)) (xK (.int 13))) (aC (xBi .len (aC (xV 4) (aN))) (aN)))))) [some S, some NM, some (.int i), some (cD C), some (.list ((sets C).map eS)), x5, x6, x7, x8, x9, x10, x11, x12, none] = .ok (eS s) := by
        by_cases c : i = 0
        · exact ⟨s6, hs6, fun _ _ _ _ _ _ _ _ => by simp [c, ei6]⟩
        · exact ⟨s5, hs5, fun _ _ _ _ _ _ _ _ => by simp [c, ei5, ep5]⟩
      -- the places
      have lk := sFor_pre (fi := iRg 1 (aC (xK (.int 3)) aN)) (T := .nm 9) (f := l_law_k20_1) (ρ := [some S, some NM, some (.int i), some (cD C), some (.list ((sets C).map eS)), some (eS s), some (.int (1 + m)), some (.int (1 + z)), some (.list []), x9, x10, x11, x12, none])
        (fun p : Nat => .int p) (fun pre ρ => ∃ (x9 x10 x11 x12 : Option PyData), ρ = [some S, some NM, some (.int i), some (cD C), some (.list ((sets C).map eS)), some (eS s), some (.int (1 + m)), some (.int (1 + z)), some (.list ((pre.filter (hasB C s (1 + m) (1 + z))).map nm)), x9, x10, x11, x12, none]) (xs := [0, 1, 2]) (by simp; rfl) ⟨x9, x10, x11, x12, rfl⟩ (by
          rintro pre p post ρ hx ⟨x9, x10, x11, x12, rfl⟩
          have pl : pre.length ≤ 2 := by
            have := congrArg List.length hx
            simp at this
            omega
          have hp : p < 3 := by
            have : p ∈ ([0, 1, 2] : List Nat) := by rw [hx]; simp
            simp at this
            omega
          obtain ⟨w, v, A⟩ := at_of h hs hp
          have r0 := A.row (m := 1 + m) (z := 1 + z) (by omega) (by omega) (by omega) (by omega)
          have b0 := A.bracket (m := 1 + m) (z := 1 + z) (by omega) (by omega) (by omega) (by omega)
          have wd := A.widest (m := 1 + m) (by omega) (by omega)
          have np := nmi p hp
          obtain ⟨B, hB⟩ : ∃ B, B = brk s p w v (1 + m) (1 + z) := ⟨_, rfl⟩
          rw [← hB] at r0 b0
          have hh := A.hasB (1 + m) (1 + z)
          rw [← hB] at hh
          have neB := ne_en isEn_eB (by omega) B B
          obtain ⟨W, hW⟩ : ∃ W, W = wid s p w v (1 + m) := ⟨_, rfl⟩
          have r : rngL [.int 1, .int 13] = .ok (rg 1 13) := rngL_2 (by omega) (by omega) (by omega) (by omega)
          have hc1 : ∀ x12, c_law_k20_1 [some S, some NM, some (.int i), some (cD C), some (.list ((sets C).map eS)), some (eS s), some (.int (1 + m)), some (.int (1 + z)), some (.list (((pre ++ [p]).filter (hasB C s (1 + m) (1 + z))).map nm)), some (.int p), some (eB B), some (.list ((rg 1 13).map .int)), x12, none] = .ok (eL W) := fun x12 => by
            rw [hW]
            refine xComp_fm (vs := [13]) PyData.int (fun z => (brk s p w v (1 + m) z).isSome) PyData.int (xs := rg 1 13) (by simp) fun z hz => ⟨_, rfl, ?_, fun _ => ⟨by simp [wipeR], rfl⟩⟩
            have := mem_rg.mp hz
            have hb := A.bracket (m := 1 + m) (z := z) (by omega) (by omega) (by omega) (by omega)
            simp [wipeR, hb, isn, np]
          have cm : idxD (cD C) (.int p) = .ok (wD w) := idx_tup (by rw [List.getElem?_map, A.ew]; rfl)
          have hc2 : c_law_k20_2 [some S, some NM, some (.int i), some (cD C), some (.list ((sets C).map eS)), some (eS s), some (.int (1 + m)), some (.int (1 + z)), some (.list (((pre ++ [p]).filter (hasB C s (1 + m) (1 + z))).map nm)), some (.int p), some (eB B), some (.list ((rg 1 13).map .int)), some (eL W), none] = .ok (.list (W.map fun z => .bool false)) := by
            refine xComp_map (vs := [13]) PyData.int (fun z => .bool false) (xs := W) (by simp [eL]) fun z hz => ⟨_, rfl, rfl, ?_, rfl⟩
            have hd := A.wid_step (m := 1 + m) (by omega) (hW ▸ hz)
            have o := A.ow.s0
            have o' : 0 < w.2.2 := by omega
            simp [wipeR, cm, wD, o', hd]
          have wl : W.length ≤ 12 := by rw [hW]; exact List.length_filter_le _ _
          have hm := max_mx (l := W ++ [0]) (by simp)
          have hm' : biD .max [.list (W.map .int ++ [.int 0])] = .ok (.int (mx (W ++ [0]))) := by
            have e : W.map PyData.int ++ [.int 0] = (W ++ [0]).map .int := by simp
            rw [e]
            exact hm
          rw [← hW] at wd
          refine ⟨_, _, rfl, sC_nx (sSet_ok (d := eB B) (by simp [r0])) (sC_nx (sIf_f (by simp [np, b0, neB]) rfl) (sC_nx (?_ : _ = SR.nx [some S, some NM, some (.int i), some (cD C), some (.list ((sets C).map eS)), some (eS s), some (.int (1 + m)), some (.int (1 + z)), some (.list (((pre ++ [p]).filter (hasB C s (1 + m) (1 + z))).map nm)), some (.int p), some (eB B), x11, x12, none]) (sC_nx (sSet_ok (d := .list ((rg 1 13).map .int)) (by simp [r])) (sC_nx (sSet_ok (hc1 _)) (sC_nx (sIf_f ?_ rfl) (sIf_f ?_ rfl)))))), _, _, _, _, rfl⟩
          · rw [List.filter_append]
            have pf : (pre.filter (hasB C s (1 + m) (1 + z))).length ≤ 2 := Nat.le_trans (List.length_filter_le _ _) pl
            by_cases c : B.isSome = true
            · refine sIf_t (by simp [isn, c]) ?_
              rw [sApp_ok (a := (pre.filter (hasB C s (1 + m) (1 + z))).map nm) (y := nm p) rfl (by simp [np]) rfl (by simp; omega)]
              simp [hh, c]
            · rw [Bool.not_eq_true] at c
              refine sIf_f (by simp [isn, c]) ?_
              simp [hh, c]
          · have ad : binD .Add (eL W) (.list [.int 0]) = .ok (.list (W.map .int ++ [.int 0])) := by
              rw [eL, addD_list, if_pos (by rw [sizeLine_eq]; simp; omega)]
            simp [np, wd, lstM_of, ad, hm']
          · simp [-List.filter_append, -List.map_append, hc2, any_map])
      obtain ⟨ρ', k1, y9, y10, y11, y12, rfl⟩ := lk
      have wf := wheels_for_c h hs (m := 1 + m) (z := 1 + z) (by omega) (by omega) (by omega) (by omega)
      have nef : ∀ b : Nat → Bool, cmpD .NotEq (.list ((([0, 1, 2] : List Nat).filter b).map nm)) (.list ((([0, 1, 2] : List Nat).filter b).map nm)) = .ok (.bool false) := fun b => by
        cases h0 : b 0 <;> cases h1 : b 1 <;> cases h2 : b 2 <;> simp only [List.filter_cons, List.filter_nil, h0, h1, h2] <;> kernel_rfl
      have cut : sliD none (some 2) (cD [w1, w2, w3]) = .ok (.tuple [wD w1, wD w2]) := rfl
      have ti : toI (.int 2) = .ok (some 2) := rfl
      exact ⟨_, _, rfl, sC_nx (sSet_ok (d := cD [w1, w2, w3]) (by simp [eb])) (sC_nx (sSet_ok (d := cD C) (by simp [cut, ti, eq, tupM_of, ec])) (sC_nx (sSet_ok (d := .list ((sets C).map eS)) (by simp [he])) (sC_nx (sSet_ok (e5 _ _ _ _ _ _ _ _)) (sC_nx (sSet_ok (d := .int (1 + m)) (by simp [em])) (sC_nx (sSet_ok (d := .int (1 + z)) (by simp [ez])) (sC_nx (sSet_ok (d := .list []) rfl) (sC_nx k1 (sIf_f (by simp [wf, nef]) rfl)))))))), _, _, _, _, _, _, _, _, _, _, _, rfl⟩)
  obtain ⟨ρ', l1, x2, x3, x4, x5, x6, x7, x8, x9, x10, x11, x12, rfl⟩ := loop
  rw [← hS]
  refine runD_rt rfl (sC_nx (sSet_ok (d := NM) (by rw [hNM]; rfl)) (sC_nx l1 (sRet_ok ?_)))
  have e : p_wheels_for [.tuple [.tuple [.int 9, .int 15, .int 3], .tuple [.int 12, .int 14, .int 1], .tuple [.int 0, .int 6, .int 3]], .tuple [.int 12, .int 13, .int 3], .int 1, .int 3] = .ok (.list [.str "aperture", .str "sensitivity"]) := by kernel_rfl
  have q : cmpD .Eq (.list [.str "aperture", .str "sensitivity"]) (.list [.str "aperture", .str "sensitivity"]) = .ok (.bool true) := by kernel_rfl
  simp [tupM_of, lstM_of, e, q]
end Bv
set_option Elab.async false
set_option linter.all false
set_option maxRecDepth 100000
set_option maxHeartbeats 1000000
namespace Bv
open PySem PySem.Spec PyProof.Rows L2
/-- the object at a is o, as it is -/
def pinO (a : Addr) (o : Obj) : HO := .ext fun h => h.get? a = some o
theorem pinO_ne {a : Addr} {o : Obj} {u : HO} (h : ∀ φ, u ≠ .ext φ) : pinO a o ≠ u := fun e => h _ e.symm
abbrev Pins := Addr → Option Obj
def delP (H : Hp) (L : Pins) : Hp := fun b => if (L b).isSome then none else H b
def addP (H : Hp) (L : Pins) : Hp := fun b => match L b with
  | some o => some (pinO b o)
  | none => H b
section
variable {P : Program} {w : World} {H H' H2 : Hp} {h h' B : Heap} {L : Pins} {b : Addr} {o : Obj} {u : HO} {fs : List Addr}
theorem pin_ok (e : h.get? b = some o) : ObjOk P w H h b (pinO b o) := ⟨e, ⟨o, e⟩, fun _ _ e1 st => st _ e1⟩
theorem pin_get (x : ObjOk P w H h b (pinO b o)) : h.get? b = some o := x.1
theorem del_none (e : L b = some o) : delP H L b = none := by unfold delP; rw [e]; rfl
theorem del_at (e : L b = none) : delP H L b = H b := by unfold delP; rw [e]; rfl
theorem add_pin (e : L b = some o) : addP H L b = some (pinO b o) := by unfold addP; rw [e]
theorem add_at (e : L b = none) : addP H L b = H b := by unfold addP; rw [e]
theorem del_some (e : delP H L b = some u) : L b = none ∧ H b = some u := by
  cases q : L b with
  | some o => rw [del_none q] at e; cases e
  | none => rw [del_at q] at e; exact ⟨rfl, e⟩
theorem del_of (e : H b = none) : delP H L b = none := by
  cases q : L b with
  | some o => exact del_none q
  | none => rw [del_at q]; exact e
/-- all that is marked is there -/
abbrev PinsIn (L : Pins) (H : Hp) : Prop := ∀ b o, L b = some o → H b = some (pinO b o)
theorem PinsIn.same (x : PinsIn L H) (s : Same H H') : PinsIn L H' := fun b o e => s _ _ (x b o e)
theorem PinsIn.free (x : PinsIn L H) (e : H b = none) : L b = none := by
  cases q : L b with
  | none => rfl
  | some o => rw [x b o q] at e; cases e
theorem PinsIn.nof (x : PinsIn L H) (e : H b = some u) (h : ∀ φ, u ≠ .ext φ) : L b = none := by
  cases q : L b with
  | none => rfl
  | some o =>
    rw [x b o q] at e
    exact absurd (Option.some.inj e).symm (h _)
theorem add_pins : PinsIn L (addP H L) := fun b o e => add_pin e
theorem hok_del (x : PinsIn L H) (ok : HOk P w H h) : HOk P w (delP H L) h := fun b u e => by
  obtain ⟨_, e2⟩ := del_some e
  refine (ok b u e2).stay (fun _ _ _ q => q) (fun c q => ?_) fun c xs q => ?_
  · rw [del_at (x.nof q fun φ z => by cases z)]; exact q
  · rw [del_at (x.nof q fun φ z => by cases z)]; exact q
theorem hok_add (ok : HOk P w H h) (hl : ∀ b o, L b = some o → h.get? b = some o ∧ H b = none) : HOk P w (addP H L) h := fun b u e => by
  cases q : L b with
  | some o =>
    rw [add_pin q] at e
    cases e
    exact pin_ok (hl b o q).1
  | none =>
    rw [add_at q] at e
    refine (ok b u e).stay (fun _ _ _ q => q) (fun c k => ?_) fun c xs k => ?_
    · cases z : L c with
      | some o => rw [(hl c o z).2] at k; cases k
      | none => rw [add_at z]; exact k
    · cases z : L c with
      | some o => rw [(hl c o z).2] at k; cases k
      | none => rw [add_at z]; exact k
/-- behind code that ran without the marks -/
theorem un_add (x : PinsIn L H) (ok : HOk P w H h) (un : Un fs [] (delP H L) H2 h h') (hf : ∀ b o, L b = some o → b ∉ fs) (ok2 : HOk P w H2 h') : Un fs [] H (addP H2 L) h h' ∧ HOk P w (addP H2 L) h' := by
  have at_ : ∀ b, L b = none → addP H2 L b = H2 b := fun b e => add_at e
  have nn : ∀ {b : Addr} {u : HO}, H b = some u → (∀ φ, u ≠ .ext φ) → L b = none := fun e q => x.nof e q
  refine ⟨⟨fun b o e n hb hx => un.keep b o e (del_of n) hb hx, fun b o e n hb hx => un.slot b o e (del_of n) hb hx, fun b o e n hx => ?_, un.there, fun b xs e => ?_, fun b o u e => ?_, fun b ps e => ?_⟩, hok_add ok2 fun b o e => ?_⟩
  · rw [at_ b (x.free n)]
    exact un.free b o e (del_of n) hx
  · have z := nn e fun φ k => by cases k
    rw [at_ b z]
    exact un.tups b xs ((del_at z).trans e)
  · have z := nn e fun φ k => by cases k
    rw [at_ b z]
    exact un.frzs b o u ((del_at z).trans e)
  · have z := nn e fun φ k => by cases k
    rw [at_ b z]
    exact un.tbls b ps ((del_at z).trans e)
  · have e1 := pin_get (ok b _ (x b o e))
    exact ⟨un.keep b o e1 (del_none e) (hf b o e) (by simp), un.free b o e1 (del_none e) (by simp)⟩
theorem ub_add (x : PinsIn L H) (ok : HOk P w H h) (ub : UB fs (delP H L) H2 h B h') (hf : ∀ b o, L b = some o → b ∉ fs) (ok2 : HOk P w H2 B) : UB fs H (addP H2 L) h B h' ∧ HOk P w (addP H2 L) B ∧ ∀ b o, L b = some o → B.get? b = some o := by
  have at_ : ∀ b, L b = none → addP H2 L b = H2 b := fun b e => add_at e
  have nn : ∀ {b : Addr} {u : HO}, H b = some u → (∀ φ, u ≠ .ext φ) → L b = none := fun e q => x.nof e q
  have kp : ∀ b o, L b = some o → B.get? b = some o := fun b o e => ub.keep b o (pin_get (ok b _ (x b o e))) (del_none e) (hf b o e)
  refine ⟨⟨fun b o e n hb => ub.keep b o e (del_of n) hb, ub.slot, fun b o e n => ?_, ub.there, fun b xs e => ?_, fun b o u e => ?_, fun b ps e => ?_⟩, hok_add ok2 fun b o e => ⟨kp b o e, ub.free b o (pin_get (ok b _ (x b o e))) (del_none e)⟩, kp⟩
  · rw [at_ b (x.free n)]
    exact ub.free b o e (del_of n)
  · have z := nn e fun φ k => by cases k
    rw [at_ b z]
    exact ub.tups b xs ((del_at z).trans e)
  · have z := nn e fun φ k => by cases k
    rw [at_ b z]
    exact ub.frzs b o u ((del_at z).trans e)
  · have z := nn e fun φ k => by cases k
    rw [at_ b z]
    exact ub.tbls b ps ((del_at z).trans e)
/-- behind code that ran with marks of its own (the caller's live cells) -/
theorem un_del (hn : ∀ b o, L b = some o → H b = none ∧ h.get? b = some o) (un : Un fs [] (addP H L) H2 h h') (x2 : PinsIn L H2) (ok2 : HOk P w H2 h') : Un fs [] H (delP H2 L) h h' ∧ HOk P w (delP H2 L) h' := by
  have kp : ∀ b o, L b = some o → h'.get? b = some o := fun b o e => pin_get (ok2 b _ (x2 b o e))
  have no : ∀ {b : Addr} {u : HO}, H b = some u → L b = none := fun {b u} e => by
    cases q : L b with
    | none => rfl
    | some o => rw [(hn b o q).1] at e; cases e
  refine ⟨⟨fun b o e n hb hx => ?_, fun b o e n hb hx => ?_, fun b o e n hx => ?_, un.there, fun b xs e => ?_, fun b o u e => ?_, fun b ps e => ?_⟩, hok_del x2 ok2⟩
  · cases q : L b with
    | some o' =>
      have := (hn b o' q).2
      rw [e] at this
      cases this
      exact kp b _ q
    | none => exact un.keep b o e ((add_at q).trans n) hb hx
  · cases q : L b with
    | some o' =>
      have := (hn b o' q).2
      rw [e] at this
      cases this
      exact ⟨o.slots, kp b _ q⟩
    | none => exact un.slot b o e ((add_at q).trans n) hb hx
  · cases q : L b with
    | some o' => exact del_none q
    | none => rw [del_at q]; exact un.free b o e ((add_at q).trans n) hx
  · have z := no e
    rw [del_at z]
    exact un.tups b xs ((add_at z).trans e)
  · have z := no e
    rw [del_at z]
    exact un.frzs b o u ((add_at z).trans e)
  · have z := no e
    rw [del_at z]
    exact un.tbls b ps ((add_at z).trans e)
end
def ClosX (P : Program) (w : World) (K : PySem.W.Frag) (mg : Str → Option Value) (base : Heap) (k : Nat) (H : Hp) (f : Addr) (c : Str) : Prop :=
  ∀ (A : Around) (outer : List Env) (s : Shared) (H' : Hp) (E : XK), Same H H' → Room k A → Env0 P w K mg base A outer s H' → (∀ H2, Same H' H2 → E (.ref (He.ga K c)) none H2) → codeAny (model P w) A (.call (.ref f) ⟨[], []⟩) (CR (L2.CX P w) outer P w H' s (fun _ _ => False) E) s
theorem ClosX.same {P : Program} {w : World} {K : PySem.W.Frag} {mg : Str → Option Value} {base : Heap} {k : Nat} {H H1 : Hp} {f : Addr} {c : Str} (x : ClosX P w K mg base k H f c) (s : Same H H1) : ClosX P w K mg base k H1 f c :=
  fun A outer s0 H' E sm => x A outer s0 H' E (s.trans sm)
/-- the context of a lambda's body -/
def lcx (P : Program) (w : World) (K : PySem.W.Frag) (mg : Str → Option Value) (base : Heap) (N : List Str) (q : Str) (scope : Scope) (f c' : Addr) (clo : List (Str × Addr)) (A : Around) (outer : List Env) (s : Shared) (H : Hp) (E : XK) : Cx where
  prog := P
  w := w
  K := K
  mg := mg
  base := base
  A := A.deeper (PySem.W.envX q scope s.heap.objs.size f (.ref c') clo)
  N := N
  s_0 := s
  H_0 := H
  env := PySem.W.envX q scope s.heap.objs.size f (.ref c') clo
  outer := outer
  stack := PySem.W.envX q scope s.heap.objs.size f (.ref c') clo :: outer
  ex := []
  fn := fun _ => false
  calm := true
  pn := []
  xe := fun e s' => wpAny (model P w) (A.deeper (PySem.W.envX q scope s.heap.objs.size f (.ref c') clo)) (leaving (PySem.W.envX q scope s.heap.objs.size f (.ref c') clo) e) (fun _ s'' => L2.CX P w outer H s E e s'') (fun e' s'' => L2.CX P w outer H s E e' s'') s'
structure LamScope (N : List Str) (scope : Scope) : Prop where
  kind : scope.kind = .function
  co : scope.isCoroutine = false
  gen : scope.isGenerator = false
  free : ∀ y ∈ scope.names, y.2 ≠ .local ∧ y.2 ≠ .cell
  nm : ∀ x ∈ N, scope.names.lookup x = some .free
def lamScopeB (N : List Str) (scope : Scope) : Bool := decide (scope.kind = .function) && !scope.isCoroutine && !scope.isGenerator && scope.names.all (fun y => !decide (y.2 = .local) && !decide (y.2 = .cell)) && N.all fun x => decide (scope.names.lookup x = some .free)
theorem lamScope_by {N : List Str} {scope : Scope} (h : lamScopeB N scope = true) : LamScope N scope := by
  unfold lamScopeB at h
  simp only [Bool.and_eq_true, Bool.not_eq_true', decide_eq_true_eq, decide_eq_false_iff_not, List.all_eq_true] at h
  obtain ⟨⟨⟨⟨h1, h2⟩, h3⟩, h4⟩, h5⟩ := h
  exact ⟨h1, h2, h3, h4, h5⟩
section
variable {P : Program} {w : World} {K : PySem.W.Frag} {mg : Str → Option Value} {base : Heap}
theorem closX_make {k : Nat} {H G : Hp} {f c' : Addr} {c q : Str} {params : Arguments} {body : Expr} {scope : Scope} {clo : List (Str × Addr)} {pm ctv : Value} {L : Pins} {N : List Str} {vs : List V} {ds : List PyData}
    (hf : H f = some (pinO f (PySem.W.kla_obj "<lambda>" q params body scope clo pm c' ctv))) (hc : H c' = some (LamX.CodeO c' q)) (S : LamScope N scope)
    (hbind : bindArgs (PySem.W.kla_fn "<lambda>" q params body scope clo pm (.ref c') ctv) ⟨[], []⟩ = pure [])
    (hL : PinsIn L H) (hclo : ∀ y b, clo.lookup y = some b → ∃ o u, L b = some o ∧ o.data = .cell u) (hinj : ∀ x y b, clo.lookup x = some b → clo.lookup y = some b → x = y)
    (hhas : ∀ y, scope.names.lookup y = some .free → ∃ b, clo.lookup y = some b)
    (hN : ∀ (i : Nat) (x : Str) (v : V), N[i]? = some x → vs[i]? = some v → ∃ b o u, clo.lookup x = some b ∧ L b = some o ∧ o.data = .cell (some u) ∧ RelV v u) (hlen : vs.length = N.length)
    (sG : Same G H) (gL : ∀ b o, L b = some o → G b = none) (hd : DRs K G vs ds)
    (hbody : ∀ (A : Around) (outer : List Env) (s : Shared) (H : Hp) (E : XK), Room k (A.deeper (PySem.W.envX q scope s.heap.objs.size f (.ref c') clo)) → ∃ fe : FE, EV (lcx P w K mg base N q scope f c' clo A outer s H E) ⟨fun cls d _ H => E cls d H, He.ga K⟩ [] body fe ∧ fe (ds.map some) = .exc c) :
    ClosX P w K mg base (k + 1) H f c := by
  intro A outer s H' E sm hr e0 hE
  have hL' : PinsIn L H' := hL.same sm
  have of1 : s.heap.get? f = some (PySem.W.kla_obj "<lambda>" q params body scope clo pm c' ctv) := pin_get (e0.hok f _ (sm _ _ hf))
  obtain ⟨⟨oc, cvs, t, hoc, hdc, hvc⟩, _, _⟩ := e0.hok c' _ (sm _ _ hc)
  have nfr : ∀ b o, L b = some o → b ∉ frs outer := fun b o e z => by
    have := e0.frf b z
    rw [hL' b o e] at this
    cases this
  have e1 : Env0 P w K mg base A outer s (delP H' L) := ⟨e0.frames, e0.mod, fun b o e => ⟨(e0.bs b o e).1, del_of (e0.bs b o e).2⟩, e0.bsz, e0.funs, fun b hb => del_of (e0.frf b hb), hok_del hL' e0.hok, e0.bare⟩
  have rc : codeAny (model P w) A (.call (.ref f) ⟨[], []⟩) (CR (L2.CX P w) outer P w (delP H' L) s (fun _ _ => False) (fun cls d H2 => cls = .ref (He.ga K c) ∧ d = none ∧ Same (delP H' L) H2)) s := by
    refine PySem.W.kla_callFunE hr.depth of1 rfl S.co S.gen rfl ⟨c', oc, cvs, t, rfl, hoc, hdc, hvc⟩ ?_
    rw [hbind]
    refine wpAny_pure (wpAny_newFunctionEnv (fun y hy => (S.free y hy).2) (fun y hy => absurd hy (by simp)) (fun h₁ hns hsb => ⟨(e0.mod.nolimit.keeps fun b o e => (e0.bs b o e).1).fresh _ hsb, ?_⟩) S.kind)
    show codeAny _ _ (.expr body (PySem.W.envX q scope s.heap.objs.size f (.ref c') clo)) _ _
    have kp : ∀ b o, s.heap.get? b = some o → h₁.get? b = some o := fun b o e => hsb.extBut b o (Nat.ne_of_lt (Heap.lt_size e)) (Heap.get?_push_of_some _ e)
    have X0 : ∃ X, X = lcx P w K mg base N q scope f c' clo A outer s (delP H' L) (fun cls d H2 => cls = .ref (He.ga K c) ∧ d = none ∧ Same (delP H' L) H2) := ⟨_, rfl⟩
    have noA : ∀ b : Addr, b ∉ (lcx P w K mg base N q scope f c' clo A outer s (delP H' L) (fun cls d H2 => cls = .ref (He.ga K c) ∧ d = none ∧ Same (delP H' L) H2)).ex := fun b z => absurd (show b ∈ ([] : List Addr) from z) (by simp)
    have J : Inv (lcx P w K mg base N q scope f c' clo A outer s (delP H' L) (fun cls d H2 => cls = .ref (He.ga K c) ∧ d = none ∧ Same (delP H' L) H2)) [] (vs.map some) (delP H' L) { s with heap := h₁, toks := s.toks + ([] : List (Str × Value)).length } := by
      refine ⟨⟨e1.mod, S.kind, rfl, rfl, Nat.le_refl _, hinj, fun y hy => ?_, fun y c z _ => ?_, fun _ => hr.hd, Around.frames_deeper e1.frames, .inr ⟨rfl, rfl⟩, fun b z => absurd z (noA b), e1.bs, e1.bsz, fun b _ _ => noA b,
          fun b z => absurd z (noA b), e1.funs, e1.frf⟩,
        rfl, e1.bare, Un.kept kp, ⟨_, hns, fun i y v k1 k2 k3 => ?_⟩, fun y b k1 => ?_, e1.hok.fresh (Nat.le_refl _), fun y b k1 => ?_, fun p hp => absurd (show p ∈ ([] : List (Addr × Obj)) ++ [] from hp) (by simp), e1.hok.kept kp, ?_⟩
      · have hy : scope.names.lookup y = some .cell ∨ scope.names.lookup y = some .free := hy
        rcases hy with hy | hy
        · exact absurd rfl (S.free _ (PySem.mem_of_lookup hy)).2
        · exact hhas y hy
      · have z : false = true := z
        cases z
      · have k1 : N[i]? = some y := k1
        have k2' : vs[i]? = some v := by
          rw [List.getElem?_map] at k2
          cases z : vs[i]? with
          | none => rw [z] at k2; cases k2
          | some v' => rw [z] at k2; cases k2; rfl
        obtain ⟨b, o, u, h1, h2, h3, h4⟩ := hN i y v k1 k2'
        refine ⟨u, h4, .inr ⟨.inr (S.nm y (List.mem_of_getElem? k1)), b, h1, o, kp b o (pin_get (e0.hok b _ (hL' b o h2))), h3⟩⟩
      · obtain ⟨o, u, h2, h3⟩ := hclo y b k1
        exact ⟨u, o, kp b o (pin_get (e0.hok b _ (hL' b o h2))), h3⟩
      · obtain ⟨o, u, h2, _⟩ := hclo y b k1
        exact del_none h2
      · rw [List.length_map]; exact hlen
    obtain ⟨fe, hp, hx⟩ := hbody A outer s (delP H' L) (fun cls d H2 => cls = .ref (He.ga K c) ∧ d = none ∧ Same (delP H' L) H2) (hr.deeper _)
    have sG0 : Same G (delP H' L) := fun b u e => by
      have : L b = none := by
        cases z : L b with
        | none => rfl
        | some o => rw [gL b o z] at e; cases e
      rw [del_at this]
      exact sm _ _ (sG _ _ e)
    refine PySem.W.kla_codeExpr (wpAny_mono (hp.run [] _ _ (delP H' L) (fun _ _ => False) J ⟨ds.map some, G, fun _ => 0, ⟨sG0, ?_, fun i d e _ => ?_, fun i d e hi => absurd hi (by simp), fun i j d e hi => absurd hi (by simp)⟩, ?_⟩) (fun v s' hq => ?_) fun e s' hq => hq)
    · rw [List.length_map, List.length_map]; exact (drs_len hd).symm
    · rw [List.getElem?_map] at e
      cases z : ds[i]? with
      | none => rw [z] at e; cases e
      | some d' =>
        rw [z] at e
        cases e
        obtain ⟨v, hv, r⟩ := drs_at hd z
        exact ⟨v, by rw [List.getElem?_map, hv]; rfl, r⟩
    · rw [hx]
      exact fun G2 H2 x => ⟨rfl, rfl, x.h⟩
    · obtain ⟨_, _, _, _, z⟩ := hq
      exact z.elim
  refine codeAny_mono rc fun r s' hq => ?_
  cases r with
  | ok fl =>
    cases fl with
    | ret u => obtain ⟨_, _, _, _, _, _, _, z⟩ := hq; exact z.elim
    | next => exact hq
    | brk => exact hq
    | cont => exact hq
  | error e =>
    obtain ⟨a, B, H2, cls, d, ea, fl, ok2, ub, na, os, bare, ec, ed, s2⟩ := hq
    obtain ⟨ub3, ok3, kp⟩ := ub_add hL' e0.hok ub nfr ok2
    refine ⟨a, B, addP H2 L, cls, d, ea, fl, ok3, ub3, ?_, os, bare, ?_⟩
    · have : L a = none := by
        cases z : L a with
        | none => rfl
        | some o =>
          have q1 := kp a o z
          rw [fl.2.1] at q1
          cases q1
      rw [add_at this]
      exact na
    · rw [ec, ed]
      refine hE _ fun b u e => ?_
      cases z : L b with
      | some o =>
        rw [hL' b o z] at e
        cases e
        exact add_pin z
      | none =>
        rw [add_at z]
        exact s2 b u ((del_at z).trans e)
end
end Bv
set_option Elab.async false
set_option linter.all false
set_option maxRecDepth 100000
set_option maxHeartbeats 1000000
namespace Bv
open PySem PySem.Spec PyProof.Rows L2 LamX
/-- marks of one's own stay -/
def ExtE (H H' : Hp) : Prop := ∀ b φ, H b = some (.ext φ) → H' b = some (.ext φ)
/-- all but the tables at these addresses stays -/
def ExtT (T : List (Addr × Str)) (H H' : Hp) : Prop := ∀ b o, H b = some o → (∀ p ∈ T, p.1 ≠ b) → H' b = some o
theorem ExtT.refl (T : List (Addr × Str)) (H : Hp) : ExtT T H H := fun _ _ e _ => e
theorem ExtT.trans {T : List (Addr × Str)} {H H1 H2 : Hp} (a : ExtT T H H1) (b : ExtT T H1 H2) : ExtT T H H2 := fun c o h n => b c o (a c o h n) n
theorem ExtT.of {T : List (Addr × Str)} {H H' : Hp} (e : ∀ b o, H b = some o → H' b = some o) : ExtT T H H' := fun b o h _ => e b o h
theorem tabs_ne {T : List (Addr × Str)} {H : Hp} (t : Tabs T H) {b : Addr} {o : HO} (e : H b = some o) (n : ∀ ps, o ≠ .tbl ps) : ∀ p ∈ T, p.1 ≠ b := fun p hp z => by
  obtain ⟨ps, h, _⟩ := t p hp
  rw [z, e] at h
  exact n ps (Option.some.inj h)
theorem ExtT.e {T : List (Addr × Str)} {H H' : Hp} (t : Tabs T H) (x : ExtT T H H') : ExtE H H' := fun b φ e => x b _ e (tabs_ne t e fun ps z => by cases z)
/-- v is the function that the lambda lam gave in a frame with these cells -/
def LamAt (q : Str) (cells : List (Str × Addr)) (H : Hp) (lam : Expr) (v : V) : Prop := match lam with
  | .Lambda params body scope _ => ∃ (f c' : Addr) (pm ctv : Value), v = .ref f ∧ H f = some (pinO f (PySem.W.kla_obj "<lambda>" q params body scope (cloFrom cells scope.names []) pm c' ctv)) ∧ H c' = some (CodeO c' q)
  | _ => False
theorem LamAt.ext {q : Str} {cells : List (Str × Addr)} {H H' : Hp} (x : ExtE H H') : ∀ {lam : Expr} {v : V}, LamAt q cells H lam v → LamAt q cells H' lam v
  | .Lambda .., _, ⟨f, c', pm, ctv, e, h1, h2⟩ => ⟨f, c', pm, ctv, e, x _ _ h1, x _ _ h2⟩
section
variable {X : Cx} {pins : List (Addr × Obj)} {σ : L2.St} {H : Hp} {s : Shared}
theorem inv_mark {a : Addr} {o : Obj} (I : Inv X pins σ H s) (e : s.heap.get? a = some o) (n : H a = none) (nw : X.s_0.heap.objs.size ≤ a) (nl : a ≠ X.env.locals) (nc : ∀ x c, X.env.cells.lookup x = some c → c ≠ a) (np : ∀ p ∈ X.pn ++ pins, p.1 ≠ a) : Inv X pins σ (upd H a (pinO a o)) s := by
  have at_ : ∀ b, b ≠ a → upd H a (pinO a o) b = H b := fun b hb => upd_ne hb
  have ne : ∀ b u, H b = some u → b ≠ a := fun b u z => ne_of_none z n
  refine I.step (g' := s.gens) (t' := s.toks) (d' := s.drawn) (h' := s.heap) (ch := [a]) (fun b hb => ?_) (fun b o _ _ _ e _ => e) (fun b o _ _ _ e _ => ⟨o.slots, e⟩) (fun b o hb e z => ?_) (fun b o _ e => ⟨o, e⟩) (fun b xs z => ?_) (fun b o u z => ?_) (fun b ps z => ?_) (fun m z => z) (fun b u z => ?_) I.bare
  · rw [List.mem_singleton] at hb
    subst hb
    exact ⟨.inr nw, nl, nc, np⟩
  · rw [at_ b (fun z => hb (List.mem_singleton.mpr z))]; exact z
  · rw [at_ b (ne b _ z)]; exact z
  · rw [at_ b (ne b _ z)]; exact z
  · exact ⟨#[], by rw [at_ b (ne b _ z), z]; simp⟩
  · by_cases hb : b = a
    · subst hb
      rw [upd_same] at z
      cases z
      exact pin_ok e
    · rw [at_ b hb] at z
      refine (I.hok b u z).stay (fun _ _ _ q => q) (fun d q => ?_) fun d xs q => ?_
      · rw [at_ d (ne d _ q)]; exact q
      · rw [at_ d (ne d _ q)]; exact q
/-- the lambda is made, and marked -/
theorem lam_make3 {T : List (Addr × Str)} {c P : Addr} {params : Arguments} {body : Expr} {scope : Scope} {pos : Pos} {E : Value → Shared → Prop} {Q : Value → Shared → Prop} (I : Inv X pins σ H s) (TB : TabB X.base X.mg c P) (hcode : X.env.code = .ref c)
    (hm : (P, X.env.qual ++ "<lambda>") ∈ T) (hu : ∀ p ∈ T, p.1 = P → p.2 = X.env.qual ++ "<lambda>") (hT : Tabs T H) (hdef : defaultsOf params X.env = ([], [])) (hfree : ∀ y ∈ scope.names, y.2 = .free → ∃ c, X.env.cells.lookup y.1 = some c)
    (h : ∀ (f : Addr) (H1 : Hp) (s' : Shared), Inv X pins σ H1 s' → ExtT T H H1 → Tabs T H1 → LamAt (X.env.qual ++ "<lambda>") X.env.cells H1 (.Lambda params body scope pos) (.ref f) → Q (.ref f) s') :
    wpAny (model X.prog X.w) X.A (eval (.Lambda params body scope pos) X.env) Q E s := by
  obtain ⟨ps, hP, ht, ha⟩ := hT _ hm
  refine PySem.W.kla_eval hdef ?_
  have bP : s.heap.BuiltinsAt X.mg P := TB.bm.keeps I.bk
  have hP' : s.heap.get? P = some { cls := .none, data := .fields ps } := I.hok P _ hP
  have fin : ∀ (f c' : Addr) (pm ctv : Value) (H1 : Hp) (s' : Shared), Inv X pins σ H1 s' → ExtT T H H1 → Tabs T H1 → s.heap.objs.size ≤ f → H1 f = none → H1 c' = some (CodeO c' (X.env.qual ++ "<lambda>")) →
      s'.heap.get? f = some (PySem.W.kla_obj "<lambda>" (X.env.qual ++ "<lambda>") params body scope (cloFrom X.env.cells scope.names []) pm c' ctv) → Q (.ref f) s' := fun f c' pm ctv H1 s' I1 eN T1 hf hn hc ho => by
    have I2 := inv_mark I1 ho hn (Nat.le_trans I.sz hf) (fun z => by
      have := I.lt
      rw [← z] at this
      exact Nat.lt_irrefl _ (Nat.lt_of_lt_of_le this hf)) (fun x c e z => by
      obtain ⟨v, o, ho', _⟩ := I.cell x c e
      rw [z] at ho'
      exact Nat.lt_irrefl _ (Nat.lt_of_lt_of_le (Heap.lt_size ho') hf)) (fun p hp z => by
      have := (I.pin p hp).1
      rw [z] at this
      exact Nat.lt_irrefl _ (Nat.lt_of_lt_of_le (Heap.lt_size this) hf))
    have k : ∀ b o, H1 b = some o → upd H1 f (pinO f (PySem.W.kla_obj "<lambda>" (X.env.qual ++ "<lambda>") params body scope (cloFrom X.env.cells scope.names []) pm c' ctv)) b = some o := fun b o e => by
      rw [upd_ne (ne_of_none e hn)]; exact e
    exact h f _ s' I2 (eN.trans (.of k)) (T1.ext k) ⟨f, c', pm, ctv, rfl, upd_same, k _ _ hc⟩
  cases hc : codeAmong pos ps.toList with
  | none =>
    refine PySem.W.kla_makeFunction (mg := X.mg) (c := c) (P := P) (ps := ps) (closure_ok hfree) I.ok.glob (I.mod.glob.keeps I.bk) hcode (TB.code.keeps I.bk) hP' ht hc TB.gP bP fun c' ctv h' tk hx hge hlt hrec htb => ?_
    obtain ⟨c2, oc, vs, t, e2, hoc, hd, hv⟩ := hrec
    cases e2
    have hsz : s.heap.objs.size ≤ h'.objs.size := Nat.le_trans hge (Nat.le_of_lt hlt)
    have nC : H c' = none := I.hok.fresh hge
    have I1 := inv_table (t' := tk) (more := #[rawInt pos.line, rawInt pos.col, .ref c']) (h' := h'.push (PySem.W.kla_obj "<lambda>" (X.env.qual ++ "<lambda>") params body scope (cloFrom X.env.cells scope.names []) ((X.mg "__name__").getD .none) c' ctv)) I hP
      (fun b o hb e => Heap.get?_push_of_some _ (hx b o hb e)) (Heap.get?_push_of_some _ htb) hge ⟨oc, vs, t, Heap.get?_push_of_some _ hoc, hd, hv⟩
    have hE : ExtT T H (upd (upd H P (.tbl (ps ++ #[rawInt pos.line, rawInt pos.col, .ref c']))) c' (CodeO c' (X.env.qual ++ "<lambda>"))) := fun b o e n => by
      rw [upd_ne (ne_of_none e nC), upd_ne (fun z => n _ hm z.symm)]
      exact e
    have eL : (ps ++ #[rawInt pos.line, rawInt pos.col, .ref c']).toList = ps.toList ++ [rawInt pos.line, rawInt pos.col, .ref c'] := by simp
    refine fin h'.objs.size c' ((X.mg "__name__").getD .none) ctv _ _ I1 hE (fun p hp => ?_) hsz ?_ upd_same (Heap.get?_push_size _ rfl)
    · by_cases hb : p.1 = P
      · rw [hu p hp hb, hb]
        refine ⟨_, by rw [upd_ne (ne_of_none hP nC), upd_same], by rw [eL]; exact PySem.TriplesOk_snoc _ _ _ _ ht, fun p' cv hcv => ?_⟩
        rw [eL] at hcv
        rcases among_app _ ht hcv with z | z
        · obtain ⟨c0, e1, e2⟩ := ha p' cv z
          exact ⟨c0, e1, hE _ _ e2 (tabs_ne hT e2 codeO_ne)⟩
        · exact ⟨c', z, upd_same⟩
      · obtain ⟨ps', a1, a2, a3⟩ := hT p hp
        refine ⟨ps', by rw [upd_ne (ne_of_none a1 nC), upd_ne hb]; exact a1, a2, fun p' cv hcv => ?_⟩
        obtain ⟨c0, e1, e2⟩ := a3 p' cv hcv
        exact ⟨c0, e1, hE _ _ e2 (tabs_ne hT e2 codeO_ne)⟩
    · have n1 : h'.objs.size ≠ c' := Nat.ne_of_gt hlt
      have n2 : h'.objs.size ≠ P := Nat.ne_of_gt (Nat.lt_of_lt_of_le (Heap.lt_size hP') hsz)
      rw [upd_ne n1, upd_ne n2]
      exact I.hok.fresh hsz
  | some cv =>
    obtain ⟨c', e, hco⟩ := ha pos cv hc
    subst e
    refine PySem.W.kla_makeFunctionHit (mg := X.mg) (c := c) (P := P) (ps := ps) (closure_ok hfree) I.ok.glob (I.mod.glob.keeps I.bk) hcode (TB.code.keeps I.bk) hP' ht hc bP fun ctv h' tk hx hsz => ?_
    have I1 : Inv X pins σ H { s with heap := h'.push (PySem.W.kla_obj "<lambda>" (X.env.qual ++ "<lambda>") params body scope (cloFrom X.env.cells scope.names []) ((X.mg "__name__").getD .none) c' ctv), toks := tk } := I.kept fun b o e => Heap.get?_push_of_some _ (hx b o e)
    exact fin h'.objs.size c' ((X.mg "__name__").getD .none) ctv H _ I1 (ExtT.refl T H) hT hsz (I.hok.fresh hsz) hco (Heap.get?_push_size _ rfl)
end
/-- a def's own table, for its lambdas -/
structure TabX (X : Cx) (T : List (Addr × Str)) : Prop where
  ex : ∃ c P, TabB X.base X.mg c P ∧ X.env.code = .ref c ∧ (P, X.env.qual ++ "<lambda>") ∈ T ∧ ∀ p ∈ T, p.1 = P → p.2 = X.env.qual ++ "<lambda>"
def tLamE (T : List (Addr × Str)) (q : Str) (cells : List (Str × Addr)) (lam : Expr) : TE := fun _ H Q => Tabs T H ∧ ∀ (f : Addr) (H1 : Hp), ExtT T H H1 → Tabs T H1 → LamAt q cells H1 lam (.ref f) → Q (.ref f) H1
abbrev lamFree (X : Cx) (scope : Scope) : Prop := ∀ y ∈ scope.names, y.2 = .free → X.env.scope.names.lookup y.1 = some .cell ∨ X.env.scope.names.lookup y.1 = some .free
section
variable {X : Cx} {T : List (Addr × Str)} {i : Nat} {x : Str} {params : Arguments} {body : Expr} {scope : Scope} {lpos lp p pos xp apos : Pos} {q : Str}
theorem pe_lamP (TX : TabX X T) (hdef : defaultsOf params X.env = ([], [])) (hfree : lamFree X scope) : PE X (.Lambda params body scope lpos) (tLamE T (X.env.qual ++ "<lambda>") X.env.cells (.Lambda params body scope lpos)) := by
  obtain ⟨c, P, TB, h1, h2, h3⟩ := TX.ex
  refine ⟨fun pins s σ H Q I h => ?_⟩
  refine lam_make3 I TB h1 h2 h3 h.1 hdef (fun y hy e => I.ok.has _ (hfree y hy e)) fun f H1 s' I1 eN T1 hl => ?_
  exact ⟨.ref f, H1, I1, rfl, h.2 f H1 eN T1 hl⟩
/-- nothing but a table stood at l -/
def NewL (T : List (Addr × Str)) (H : Hp) (l : Addr) : Prop := ∀ o, H l = some o → ∃ p ∈ T, p.1 = l
/-- x = [lambda: ..] -/
def tLam1 (T : List (Addr × Str)) (q : Str) (cells : List (Str × Addr)) (i : Nat) (lam : Expr) : TS := fun D σ H => Tabs T H ∧ ∀ (l f : Addr) (H' : Hp), NewL T H l → ExtT T H H' → Tabs T H' → H' l = some (.lst [.ref f]) → LamAt q cells H' lam (.ref f) → D.nx (σ.set i (some (.ref l))) H'
theorem ps_lam1 (TX : TabX X T) (hN : X.N.Nodup) (hi : X.N[i]? = some x := by rfl) (hx : Loc X.env.scope x := by first | exact Or.inl rfl | exact Or.inr rfl) (hfree : lamFree X scope := by decide) (hdef : defaultsOf params X.env = ([], []) := by rfl)
    (hs1 : starEach [.Lambda params body scope lpos] X.env = (false, eval (.Lambda params body scope lpos) X.env) :: starEach [] X.env := by rfl)
    (hs : swapsWith (.List [.Lambda params body scope lpos] lp) (some (.Name x xp)) pos.line X.env = pure false := by rfl) (hf : X.fn x = true ∨ X.env.scope.names.lookup x = some .local := by first | exact .inl rfl | exact .inr rfl) :
    PS X (.Assign [.Name x xp] (.List [.Lambda params body scope lpos] lp) pos) (tLam1 T (X.env.qual ++ "<lambda>") X.env.cells i (.Lambda params body scope lpos)) := by
  refine PS.weak (ps_set (i := i) hN hi hx (pe_lst (pa_cons (pe_lamP TX hdef hfree) pa_nil hs1)) hs hf) fun D σ H h => ?_
  refine ⟨h.1, fun f H1 eN T1 hl => ⟨by rw [sizeLine_eq]; simp, fun l hn => ?_⟩⟩
  have k : ∀ b o, H1 b = some o → upd H1 l (.lst [.ref f]) b = some o := fun b o e => by rw [upd_ne (ne_of_none e hn)]; exact e
  have hl0 : NewL T H l := fun o z => by
    refine Classical.byContradiction fun t => ?_
    have := eN l o z fun p hp e => t ⟨p, hp, e⟩
    rw [hn] at this
    cases this
  exact h.2 l f _ hl0 (eN.trans (.of k)) (T1.ext k) upd_same (hl.ext fun b φ e => k _ _ e)
/-- x.append(lambda: ..) -/
def tLamN (T : List (Addr × Str)) (q : Str) (cells : List (Str × Addr)) (i : Nat) (lam : Expr) : TS := fun D σ H => ∃ (l : Addr) (fs : List V), σ[i]? = some (some (.ref l)) ∧ H l = some (.lst fs) ∧ fs.length < 1000 ∧ Tabs T H ∧
  ∀ (f : Addr) (H' : Hp), (∀ b o, b ≠ l → H b = some o → (∀ p ∈ T, p.1 ≠ b) → H' b = some o) → Tabs T H' → H' l = some (.lst (fs ++ [.ref f])) → LamAt q cells H' lam (.ref f) → D.nx σ H'
theorem ps_lamN (TX : TabX X T) (hi : X.N[i]? = some x := by rfl) (hv : Vis X.env.scope x := by first | exact Or.inl rfl | exact Or.inr (Or.inl rfl) | exact Or.inr (Or.inr rfl)) (hfree : lamFree X scope := by decide) (hdef : defaultsOf params X.env = ([], []) := by rfl)
    (hs1 : starEach [.Lambda params body scope lpos] X.env = (false, eval (.Lambda params body scope lpos) X.env) :: starEach [] X.env := by rfl) (hd : (x == ("__debug__" : Str)) = false := by decide) (hcd : (x == ("__classdict__" : Str)) = false := by decide)
    (hsw : swapsWith (.Call (.Attribute (.Name x xp) "append" apos) [.Lambda params body scope lpos] [] p) none pos.line X.env = pure false := by rfl) (hbase : attributeBase (.Name x xp) "append" X.env (eval (.Name x xp) X.env) = eval (.Name x xp) X.env := by rfl)
    (hfew : ((backTo p (starEach [.Lambda params body scope lpos] X.env)).all (fun x => !x.1) && (backToKw p (keywordEach [] X.env)).all (fun x => x.1.isSome) && decide (([.Lambda params body scope lpos] : List Expr).length + ([] : List Keyword).length + (if ([] : List Keyword).isEmpty then 0 else 1) < 30)) = true := by rfl)
    (hline : (apos.endLine == p.line) = true := by rfl) (hpl : (backTo p (starEach [] X.env)).any (·.1) = false := by rfl) :
    PS X (.Expr (.Call (.Attribute (.Name x xp) "append" apos) [.Lambda params body scope lpos] [] p) pos) (tLamN T (X.env.qual ++ "<lambda>") X.env.cells i (.Lambda params body scope lpos)) := by
  refine PS.weak (ps_expr (pe_bm PySem.F.plainAttrs_list PySem.F.slot_list_append PySem.F.type_list_append mt_append (pe_var hi hv hd hcd) (pa_cons (pe_lamP TX hdef hfree) pa_nil hs1) hbase hfew hline hs1 hpl) hsw) fun D σ H h => ?_
  obtain ⟨l, fs, e1, e2, e3, e4, h⟩ := h
  refine ⟨_, e1, .inl ⟨rfl, fs, SqL.of e2⟩, e4, fun f H1 eN T1 hl => ?_⟩
  have e2' : H1 l = some (.lst fs) := eN _ _ e2 (tabs_ne e4 e2 fun ps z => by cases z)
  have k : ∀ b o, b ≠ l → H1 b = some o → upd H1 l (.lst (fs ++ [.ref f])) b = some o := fun b o hb e => by rw [upd_ne hb]; exact e
  refine ⟨l, fs, .ref f, rfl, rfl, e2', by rw [sizeLine_eq]; omega, ?_⟩
  refine h f _ (fun b o hb e n => k b o hb (eN b o e n)) (fun p hp => ?_) upd_same (hl.ext fun b φ e => k b _ (fun z => by rw [z, e2'] at e; cases e) e)
  obtain ⟨ps, a1, a2, a3⟩ := T1 p hp
  refine ⟨ps, k _ _ (fun z => by rw [z, e2'] at a1; cases a1) a1, a2, fun pos cv hc => ?_⟩
  obtain ⟨c, b1, b2⟩ := a3 pos cv hc
  exact ⟨c, b1, k _ _ (fun z => by rw [z, e2'] at b2; cases b2) b2⟩
end
def tLams (T : List (Addr × Str)) (q : Str) (cells : List (Str × Addr)) (i : Nat) (u : TS) : List Expr → TS
  | [] => u
  | lam :: r => tSeq (tLamN T q cells i lam) (tLams T q cells i u r)
/-- the list at l: functions of these lambdas -/
structure LamL (T : List (Addr × Str)) (q : Str) (cells : List (Str × Addr)) (H0 H : Hp) (l : Addr) (lams : List Expr) : Prop where
  nw : NewL T H0 l
  ex : ExtT T H0 H
  tb : Tabs T H
  at_ : ∃ fs, H l = some (.lst fs) ∧ Paired (LamAt q cells H) lams fs
theorem paired_len {α β : Type} {R : α → β → Prop} : ∀ {l : List α} {m : List β}, Paired R l m → l.length = m.length
  | _, _, .nil => rfl
  | _, _, .cons _ t => by rw [List.length_cons, List.length_cons, paired_len t]
theorem paired_snoc {α β : Type} {R : α → β → Prop} {a : α} {b : β} : ∀ {l : List α} {m : List β}, Paired R l m → R a b → Paired R (l ++ [a]) (m ++ [b])
  | _, _, .nil, r => .cons r .nil
  | _, _, .cons h t, r => .cons h (paired_snoc t r)
theorem lams_ok {T : List (Addr × Str)} {q : Str} {cells : List (Str × Addr)} {i : Nat} {u : TS} {σ : L2.St} {D : Ends} {H0 : Hp} {l : Addr} (hσ : σ[i]? = some (some (.ref l))) : ∀ (r : List Expr) {done : List Expr} {H : Hp}, LamL T q cells H0 H l done → done.length + r.length < 1000 →
    (∀ H', LamL T q cells H0 H' l (done ++ r) → u D σ H') → tLams T q cells i u r D σ H
  | [], done, H, h, _, k => k H (by rw [List.append_nil]; exact h)
  | lam :: r, done, H, h, hl, k => by
    obtain ⟨fs, e1, e2⟩ := h.at_
    refine ⟨l, fs, hσ, e1, by rw [← paired_len e2]; simp at hl; omega, h.tb, fun f H' x T1 e3 hl' => ?_⟩
    refine lams_ok hσ r (done := done ++ [lam]) (H := H') ⟨h.nw, fun b o e n => ?_, T1, fs ++ [.ref f], e3, ?_⟩ (by simp at hl ⊢; omega) fun H2 h2 => k H2 (by rw [List.append_assoc] at h2; exact h2)
    · refine x b o (fun z => ?_) (h.ex b o e n) n
      obtain ⟨p, hp, z2⟩ := h.nw o (by rw [← z]; exact e)
      exact n p hp (z2.trans z.symm)
    · refine paired_snoc (Paired.mapP e2 fun a b y => y.ext fun c φ e => x c _ (fun z => ?_) e (tabs_ne h.tb e fun ps z => by cases z)) hl'
      rw [z, e1] at e
      cases e
theorem lam1_ok {T : List (Addr × Str)} {q : Str} {cells : List (Str × Addr)} {i : Nat} {u : TS} {σ : L2.St} {D : Ends} {H : Hp} {lam : Expr} {r : List Expr} (hi : i < σ.length) (hT : Tabs T H) (hl : r.length < 900) (k : ∀ l H', LamL T q cells H H' l (lam :: r) → u D (σ.set i (some (.ref l))) H') : tSeq (tLam1 T q cells i lam) (tLams T q cells i u r) D σ H :=
  ⟨hT, fun l f H' nl eN T1 e1 hl1 => lams_ok (by rw [List.getElem?_set_self hi]) r (done := [lam]) ⟨nl, fun b o e n => eN b o e n, T1, [.ref f], e1, .cons hl1 .nil⟩ (by simp; omega) fun H2 h2 => k l H2 h2⟩
end Bv
set_option Elab.async false
set_option linter.all false
set_option maxRecDepth 100000
set_option maxHeartbeats 1000000
namespace Bv
open PySem PySem.Spec PyProof.Rows L2 LamX
section
variable (P : Program) (w : World) (K : PySem.W.Frag) (mg : Str → Option Value) (base : Heap)
/-- lam's body is read by value: over the names N it gives fe -/
def LamOk (N : List Str) (fe : FE) : Expr → Prop
  | .Lambda params body scope _ => LamScope N scope ∧ (∀ y ∈ scope.names, y.2 = .free → y.1 ∈ N) ∧ (∀ (q : Str) (cl : List (Str × Addr)) (pm cv ctv : Value), bindArgs (PySem.W.kla_fn "<lambda>" q params body scope cl pm cv ctv) ⟨[], []⟩ = pure []) ∧
      ∀ (q : Str) (f c' : Addr) (clo : List (Str × Addr)) (A : Around) (outer : List Env) (s : Shared) (H : Hp) (E : XK), Room 7 (A.deeper (PySem.W.envX q scope s.heap.objs.size f (.ref c') clo)) → EV (lcx P w K mg base N q scope f c' clo A outer s H E) ⟨fun cls d _ H => E cls d H, He.ga K⟩ [] body fe
  | _ => False
/-- a function object of a lambda -/
def ClosF (H : Hp) (f : Addr) : Prop := ∃ (q : Str) (params : Arguments) (body : Expr) (scope : Scope) (clo : List (Str × Addr)) (pm : Value) (c' : Addr) (ctv : Value), H f = some (pinO f (PySem.W.kla_obj "<lambda>" q params body scope clo pm c' ctv))
/-- f() raises c -/
structure Clos (H : Hp) (f : Addr) (c : Str) : Prop where
  fn : ClosF H f
  run : ClosX P w K mg base 8 H f c
variable {P w K mg base}
theorem Clos.same {H H1 : Hp} {f : Addr} {c : Str} (x : Clos P w K mg base H f c) (s : Same H H1) : Clos P w K mg base H1 f c := by
  obtain ⟨⟨q, params, body, scope, clo, pm, c', ctv, e⟩, r⟩ := x
  exact ⟨⟨q, params, body, scope, clo, pm, c', ctv, s _ _ e⟩, r.same s⟩
/-- the frame's names that the lambdas catch: their cells, as they stand -/
structure CellsIn (cells : List (Str × Addr)) (L : Pins) (G : Hp) (ev : List (Str × PyData)) : Prop where
  all : ∀ y b, cells.lookup y = some b → ∃ o u, L b = some o ∧ o.data = .cell u
  inj : ∀ x y b, cells.lookup x = some b → cells.lookup y = some b → x = y
  val : ∀ x d, ev.lookup x = some d → ∃ b o u v, cells.lookup x = some b ∧ L b = some o ∧ o.data = .cell (some u) ∧ RelV v u ∧ DR K G v d
theorem drs_of {G : Hp} {ev : List (Str × PyData)} {R : Str → V → Prop} (hv : ∀ x d, ev.lookup x = some d → ∃ v, R x v ∧ DR K G v d) : ∀ N : List Str, (∀ x ∈ N, (ev.lookup x).isSome = true) → ∃ (vs : List V) (ds : List PyData), vs.length = N.length ∧ DRs K G vs ds ∧ (N.map fun x => ev.lookup x) = ds.map some ∧ ∀ (i : Nat) (x : Str) (v : V), N[i]? = some x → vs[i]? = some v → R x v
  | [], _ => ⟨[], [], rfl, .nil, rfl, fun i x v e => by simp at e⟩
  | x :: N, h => by
    obtain ⟨d, hd⟩ := Option.isSome_iff_exists.mp (h x List.mem_cons_self)
    obtain ⟨v, hr, hq⟩ := hv x d hd
    obtain ⟨vs, ds, e1, e2, e3, e4⟩ := drs_of hv N fun y hy => h y (List.mem_cons_of_mem _ hy)
    refine ⟨v :: vs, d :: ds, by simp [e1], .cons hq e2, by rw [List.map_cons, List.map_cons, hd, e3], fun i y u k1 k2 => ?_⟩
    cases i with
    | zero =>
      simp at k1 k2
      subst k1 k2
      exact hr
    | succ i => exact e4 i y u (by simpa using k1) (by simpa using k2)
theorem clos_lam {q : Str} {cells : List (Str × Addr)} {H G : Hp} {L : Pins} {ev : List (Str × PyData)} {lam : Expr} {v : V} {N : List Str} {fe : FE} {c : Str} (h : LamAt q cells H lam v) (ok : LamOk P w K mg base N fe lam) (hL : PinsIn L H) (C : CellsIn (K := K) cells L G ev) (sG : Same G H) (gL : ∀ b o, L b = some o → G b = none)
    (hN : ∀ x ∈ N, (ev.lookup x).isSome = true) (hc : fe (N.map fun x => ev.lookup x) = .exc c) : ∃ f, v = .ref f ∧ Clos P w K mg base H f c := by
  cases lam with
  | Lambda params body scope pos =>
    obtain ⟨f, c', pm, ctv, rfl, h1, h2⟩ := h
    obtain ⟨S, hfr, hbind, hbody⟩ := ok
    have has : ∀ y ∈ scope.names, y.2 = .free → ∃ b, cells.lookup y.1 = some b := fun y hy e => by
      obtain ⟨d, hd⟩ := Option.isSome_iff_exists.mp (hN _ (hfr y hy e))
      obtain ⟨b, _, _, _, e1, _⟩ := C.val _ _ hd
      exact ⟨b, e1⟩
    have cm : ∀ {y b}, (cloFrom cells scope.names []).lookup y = some b → cells.lookup y = some b := fun {y b} e => by
      rcases cloFrom_mem (PySem.mem_of_lookup e) with hm | ⟨h1, h2⟩
      · cases hm
      · obtain ⟨c1, hc⟩ := has _ h1 rfl
        have hc : cells.lookup y = some c1 := hc
        have e2 : b = c1 := by
          rw [h2, hc] <;> rfl
        rw [e2]
        exact hc
    have look : ∀ y, scope.names.lookup y = some .free → ∃ b, (cloFrom cells scope.names []).lookup y = some b := fun y hl => by
      have hy : (y, NameKind.free) ∈ scope.names := PySem.mem_of_lookup hl
      exact mem_lookup (cloFrom_has (cells := cells) (acc := []) hy)
    obtain ⟨vs, ds, e1, e2, e3, e4⟩ := drs_of (R := fun x v => ∃ b o u, cells.lookup x = some b ∧ L b = some o ∧ o.data = .cell (some u) ∧ RelV v u) (fun x d hd => by
      obtain ⟨b, o, u, v, q1, q2, q3, q4, q5⟩ := C.val x d hd
      exact ⟨v, ⟨b, o, u, q1, q2, q3, q4⟩, q5⟩) N hN
    rw [e3] at hc
    refine ⟨f, rfl, ⟨_, _, _, _, _, _, _, _, h1⟩, closX_make (k := 7) h1 h2 S (hbind _ _ _ _ _) hL (fun y b e => C.all y b (cm e)) (fun x y b k1 k2 => C.inj x y b (cm k1) (cm k2)) look (fun i x v k1 k2 => ?_) e1 sG gL e2 fun A outer s H E hr => ⟨fe, hbody q f c' _ A outer s H E hr, hc⟩⟩
    obtain ⟨b, o, u, q1, q2, q3, q4⟩ := e4 i x v k1 k2
    obtain ⟨b', hb'⟩ := look x (S.nm x (List.mem_of_getElem? k1))
    have := cm hb'
    rw [q1] at this
    cases this
    exact ⟨b, o, u, hb', q2, q3, q4⟩
  | _ => exact h.elim
end
abbrev LSp := List (List Str × FE)
section
variable {P : Program} {w : World} {K : PySem.W.Frag} {mg : Str → Option Value} {base : Heap}
/-- the list at l: functions of lambdas with these readings -/
structure LamG (P : Program) (w : World) (K : PySem.W.Frag) (mg : Str → Option Value) (base : Heap) (T : List (Addr × Str)) (q : Str) (cells : List (Str × Addr)) (H0 H : Hp) (l : Addr) (sp : LSp) : Prop where
  nw : NewL T H0 l
  ex : ExtT T H0 H
  tb : Tabs T H
  at_ : ∃ fs, H l = some (.lst fs) ∧ Paired (fun (x : List Str × FE) v => ∃ lam, LamOk P w K mg base x.1 x.2 lam ∧ LamAt q cells H lam v) sp fs
theorem LamG.start {T : List (Addr × Str)} {q : Str} {cells : List (Str × Addr)} {H0 H : Hp} {l f : Addr} {lam : Expr} {N : List Str} {fe : FE} (nl : NewL T H0 l) (eN : ExtT T H0 H) (T1 : Tabs T H) (e1 : H l = some (.lst [.ref f])) (h : LamAt q cells H lam (.ref f)) (ok : LamOk P w K mg base N fe lam) : LamG P w K mg base T q cells H0 H l [(N, fe)] :=
  ⟨nl, eN, T1, _, e1, .cons ⟨lam, ok, h⟩ .nil⟩
theorem LamG.more {T : List (Addr × Str)} {q : Str} {cells : List (Str × Addr)} {H0 H H' : Hp} {l f : Addr} {lam : Expr} {N : List Str} {fe : FE} {done : LSp} {fs : List V} (h : LamG P w K mg base T q cells H0 H l done) (e1 : H l = some (.lst fs)) (x : ∀ b o, b ≠ l → H b = some o → (∀ p ∈ T, p.1 ≠ b) → H' b = some o) (T1 : Tabs T H') (e3 : H' l = some (.lst (fs ++ [.ref f]))) (hl' : LamAt q cells H' lam (.ref f)) (ok : LamOk P w K mg base N fe lam) :
    LamG P w K mg base T q cells H0 H' l (done ++ [(N, fe)]) := by
  obtain ⟨fs', e0, e2⟩ := h.at_
  rw [e1] at e0
  cases e0
  refine ⟨h.nw, fun b o e n => ?_, T1, fs ++ [.ref f], e3, paired_snoc (Paired.mapP e2 fun a b ⟨lam', o1, y⟩ => ⟨lam', o1, y.ext fun c φ e => x c _ (fun z => ?_) e (tabs_ne h.tb e fun ps z => by cases z)⟩) ⟨lam, ok, hl'⟩⟩
  · refine x b o (fun z => ?_) (h.ex b o e n) n
    obtain ⟨p, hp, z2⟩ := h.nw o (by rw [← z]; exact e)
    exact n p hp (z2.trans z.symm)
  · rw [z, e1] at e
    cases e
/-- appends of lambdas, then rest -/
inductive LamSts (P : Program) (w : World) (K : PySem.W.Frag) (mg : Str → Option Value) (base : Heap) (X : Cx) (T : List (Addr × Str)) (i : Nat) : List Stmt → LSp → List Stmt → Prop
  | nil {rest : List Stmt} : LamSts P w K mg base X T i rest [] rest
  | cons {st : Stmt} {sts rest : List Stmt} {lam : Expr} {N : List Str} {fe : FE} {sp : LSp} (h : PS X st (tLamN T (X.env.qual ++ "<lambda>") X.env.cells i lam)) (ok : LamOk P w K mg base N fe lam) (t : LamSts P w K mg base X T i sts sp rest) : LamSts P w K mg base X T i (st :: sts) ((N, fe) :: sp) rest
/-- one statement, then the rest, told of the states -/
theorem seq_raw {X : Cx} {st : Stmt} {rest : List Stmt} {t : TS} {pins : List (Addr × Obj)} {σ : L2.St} {H : Hp} {s : Shared} {N : L2.St → Hp → Prop} {R : Flow → Shared → Prop} (h1 : PS X st t) (I : Inv X pins σ H s) (h : t { nx := N, rt := fun _ _ => False } σ H)
    (k : ∀ s' σ' H', Inv X pins σ' H' s' → N σ' H' → wpAny (model X.prog X.w) X.A (execs rest X.env) R X.xe s') : wpAny (model X.prog X.w) X.A (execs (st :: rest) X.env) R X.xe s := by
  refine wpAny_execs_cons (thn (h1.run pins s σ H _ I h) fun f s1 q => ?_)
  cases f with
  | next =>
    obtain ⟨σ', H', I', q⟩ := q
    exact k s1 σ' H' I' q
  | ret v => obtain ⟨_, _, _, _, _, z⟩ := q; exact z.elim
  | brk => obtain ⟨_, _, _, z⟩ := q; exact z.elim
  | cont => obtain ⟨_, _, _, z⟩ := q; exact z.elim
theorem lams_raw {X : Cx} {T : List (Addr × Str)} {i : Nat} {l : Addr} {H0 : Hp} {σ : L2.St} (hσ : σ[i]? = some (some (.ref l))) {R : Flow → Shared → Prop} : ∀ {sts rest : List Stmt} {sp : LSp}, LamSts P w K mg base X T i sts sp rest → ∀ {done : LSp} {H : Hp} {s : Shared}, Inv X [] σ H s → LamG P w K mg base T (X.env.qual ++ "<lambda>") X.env.cells H0 H l done → done.length + sp.length < 1000 →
    (∀ H' s', Inv X [] σ H' s' → LamG P w K mg base T (X.env.qual ++ "<lambda>") X.env.cells H0 H' l (done ++ sp) → wpAny (model X.prog X.w) X.A (execs rest X.env) R X.xe s') → wpAny (model X.prog X.w) X.A (execs sts X.env) R X.xe s
  | _, _, _, .nil, done, H, s, I, h, _, k => k H s I (by rw [List.append_nil]; exact h)
  | _, _, _, .cons (lam := lam) (N := N) (fe := fe) (sp := sp) h1 ok t, done, H, s, I, h, hl, k => by
    obtain ⟨fs, e1, e2⟩ := h.at_
    refine seq_raw h1 I (N := fun σ' H' => σ' = σ ∧ LamG P w K mg base T (X.env.qual ++ "<lambda>") X.env.cells H0 H' l (done ++ [(N, fe)])) ⟨l, fs, hσ, e1, by rw [← paired_len e2]; simp at hl; omega, h.tb, fun f H' x T1 e3 hl' => ⟨rfl, h.more e1 x T1 e3 hl' ok⟩⟩ fun s' σ' H' I' q => ?_
    obtain ⟨rfl, h'⟩ := q
    exact lams_raw hσ t I' h' (by simp at hl ⊢; omega) fun H2 s2 I2 h2 => k H2 s2 I2 (by rw [List.append_assoc] at h2; exact h2)
end
theorem run_ofR {P : Program} {w : World} {K : PySem.W.Frag} {mg : Str → Option Value} {base : Heap} {k : Nat} {f : Addr} {name qual : Str} {params : Arguments} {body : List Stmt} {scope : Scope} {dV kV doc pm cdv ct oc : Value} {an od : Option Addr}
    {osl : Array (Option Value)} {N ps : List Str} (lk : K.lookup f = some ⟨oc, od, .func (PySem.W.fnOf name qual params body scope dV kV doc pm an cdv ct), osl⟩) (hcd : PySem.W.codeIn K cdv qual = true) (S : FnScope N ps scope)
    {A : Around} {outer : List Env} {s : Shared} {H : Hp} {args : Args} {us : List Value} {vs : List V} {Q : VK} {E : XK} (hr : Room (k + 1) A) (e0 : Env0 P w K mg base A outer s H) (hb : BindsTo s (PySem.W.fnOf name qual params body scope dV kV doc pm an cdv ct) args (ps.zip us)) (r : Vals vs us) (hl : vs.length = ps.length)
    (hbody : Room k (A.deeper (envOfC qual scope s.heap.objs.size f cdv)) → ∀ s1, Inv (cxOf (L2.CX P w) P w K mg base N qual scope f cdv A outer s H E) [] (L2.start N vs) H s1 →
      wpAny (model P w) (cxOf (L2.CX P w) P w K mg base N qual scope f cdv A outer s H E).A (execs body (cxOf (L2.CX P w) P w K mg base N qual scope f cdv A outer s H E).env) (fun fl s' => ∃ u, fl = .ret u ∧ CE outer P w H s Q u s') (cxOf (L2.CX P w) P w K mg base N qual scope f cdv A outer s H E).xe s1) :
    codeAny (model P w) A (.call (.ref f) args) (CR (L2.CX P w) outer P w H s Q E) s := by
  have KX : K.In s.heap := e0.mod.kin.keeps fun b o e => (e0.bs b o e).1
  have lim : s.heap.NoLimit := e0.mod.nolimit.keeps fun b o e => (e0.bs b o e).1
  have hkind : ∀ y ∈ ps.zip us, scope.names.lookup y.1 = some .local ∨ (scope.names.lookup y.1 = some .cell ∧ ((cellsFrom (s.heap.objs.size + 1) scope.names []).lookup y.1).isSome = true) := fun ⟨n, v⟩ hy => by
    rcases S.par n (List.of_mem_zip hy).1 with q | q
    · exact .inl q
    · exact .inr ⟨q, PySem.W.cellsFrom_some _ _ _ (.inl q)⟩
  refine codeAny_call_function hr.depth (KX _ _ lk) rfl S.co S.gen rfl (PySem.W.codeRec_of KX hcd) (hb _ _ _ _ ?_)
  refine wpAny_newFunctionEnv_cells S.kind hkind fun env he s1 x => ?_
  subst he
  refine ⟨lim.keeps x.toInCall.keep, codeAny_func ?_⟩
  have I : Inv (cxOf (L2.CX P w) P w K mg base N qual scope f cdv A outer s H E) [] (L2.start N vs) H s1 := inv_start S hr.hd e0 hl r x
  refine wpAny_mono (hbody (hr.deeper _) s1 I) (fun fl s' hs => ?_) fun e s' hs => hs
  obtain ⟨u, rfl, h⟩ := hs
  exact h
end Bv
set_option Elab.async false
set_option linter.all false
set_option maxRecDepth 100000
set_option maxHeartbeats 1000000
namespace Bv
open PySem PySem.Spec PyProof.Rows L2 LamX
section
variable {P : Program} {w : World} {K : PySem.W.Frag} {mg : Str → Option Value} {base : Heap}
theorem paired_refs {H H3 G : Hp} {q : Str} {cells : List (Str × Addr)} {L : Pins} {ev : List (Str × PyData)} {c : Str} (hL : PinsIn L H3) (C : CellsIn (K := K) cells L G ev) (sG : Same G H3) (gL : ∀ b o, L b = some o → G b = none) (he : ExtE H H3) : ∀ {sp : LSp} {vs : List V}, Paired (fun (x : List Str × FE) v => ∃ lam, LamOk P w K mg base x.1 x.2 lam ∧ LamAt q cells H lam v) sp vs →
    (∀ x ∈ sp, (∀ n ∈ x.1, (ev.lookup n).isSome = true) ∧ x.2 (x.1.map fun n => ev.lookup n) = .exc c) → ∃ fs : List Addr, vs = fs.map V.ref ∧ fs.length = sp.length ∧ ∀ f ∈ fs, Clos P w K mg base H3 f c
  | _, _, .nil, _ => ⟨[], rfl, rfl, fun _ h => absurd h List.not_mem_nil⟩
  | _, _, .cons ⟨lam, ok, h⟩ t, hs => by
    obtain ⟨h1, h2⟩ := hs _ List.mem_cons_self
    obtain ⟨f, rfl, cl⟩ := clos_lam (h.ext he) ok hL C sG gL h1 h2
    obtain ⟨fs, rfl, e, k⟩ := paired_refs hL C sG gL he t fun x hx => hs x (List.mem_cons_of_mem _ hx)
    exact ⟨f :: fs, rfl, by simp [e], fun g hg => by
      rcases List.mem_cons.mp hg with rfl | hg
      · exact cl
      · exact k g hg⟩
open Classical in
/-- the frame's cells as they stand -/
noncomputable def cellPins (cells : List (Str × Addr)) (h : Heap) : Pins := fun b => if ∃ y, cells.lookup y = some b then h.get? b else none
theorem cellPins_of {cells : List (Str × Addr)} {h : Heap} {b : Addr} {o : Obj} (e : cellPins cells h b = some o) : (∃ y, cells.lookup y = some b) ∧ h.get? b = some o := by
  unfold cellPins at e
  split at e
  · rename_i c; exact ⟨c, e⟩
  · cases e
theorem cellPins_at {cells : List (Str × Addr)} {h : Heap} {b : Addr} {o : Obj} {y : Str} (e : cells.lookup y = some b) (g : h.get? b = some o) : cellPins cells h b = some o := by
  unfold cellPins
  rw [if_pos ⟨y, e⟩]
  exact g
/-- what the frame's names stand for -/
theorem cells_in {X : Cx} {pins : List (Addr × Obj)} {σ : L2.St} {H G : Hp} {s : Shared} {ev : List (Str × PyData)} (J : Inv X pins σ H s) (hev : ∀ x d, ev.lookup x = some d → ∃ (i : Nat) (v : V), X.N[i]? = some x ∧ σ[i]? = some (some v) ∧ X.env.scope.names.lookup x = some .cell ∧ DR X.K G v d) : CellsIn (K := X.K) X.env.cells (cellPins X.env.cells s.heap) G ev := by
  refine ⟨fun y b e => ?_, fun x y b e1 e2 => J.ok.inj x y b e1 e2, fun x d e => ?_⟩
  · obtain ⟨v, o, ho, hd⟩ := J.cell y b e
    exact ⟨o, v, cellPins_at e ho, hd⟩
  · obtain ⟨i, v, h1, h2, h3, h4⟩ := hev x d e
    obtain ⟨m, hn, hl⟩ := J.loc
    obtain ⟨u, r, q⟩ := hl i x v h1 h2 (.inr (.inl h3))
    rcases q with ⟨k, _⟩ | ⟨_, b, e1, o, ho, hd⟩
    · have k : X.env.scope.names.lookup x = some .local := k
      rw [h3] at k
      cases k
    · exact ⟨b, o, u, v, e1, cellPins_at e1 ho, hd, r, h4⟩
theorem mk_ce {N : List Str} {qual : Str} {scope : Scope} {f : Addr} {cdv : Value} {A : Around} {outer : List Env} {s s' : Shared} {H H' G : Hp} {E : XK} {σ : L2.St} {l : Addr} {sp : LSp} {T : List (Addr × Str)} {q : Str} {ev : List (Str × PyData)} {c : Str} {Q : VK}
    (J : Inv (cxOf (L2.CX P w) P w K mg base N qual scope f cdv A outer s H E) [] σ H' s') (hOk : HOk P w H s.heap) (g : LamG P w K mg base T q (cxOf (L2.CX P w) P w K mg base N qual scope f cdv A outer s H E).env.cells H H' l sp)
    (hev : ∀ x d, ev.lookup x = some d → ∃ (i : Nat) (v : V), N[i]? = some x ∧ σ[i]? = some (some v) ∧ scope.names.lookup x = some .cell ∧ DR K G v d) (sG : Same G H) (gT : ∀ p ∈ T, G p.1 = none)
    (hsp : ∀ x ∈ sp, (∀ n ∈ x.1, (ev.lookup n).isSome = true) ∧ x.2 (x.1.map fun n => ev.lookup n) = .exc c)
    (hQ : ∀ (fs : List Addr) (H3 : Hp), NewL T H l → ExtT T H H3 → Tabs T H3 → H3 l = some (.lst (fs.map V.ref)) → fs.length = sp.length → (∀ f ∈ fs, Clos P w K mg base H3 f c) → Q (.ref l) H3) : CE outer P w H s Q (.ref l) s' := by
  obtain ⟨X, hX⟩ : ∃ X, X = cxOf (L2.CX P w) P w K mg base N qual scope f cdv A outer s H E := ⟨_, rfl⟩
  obtain ⟨L, hLd⟩ : ∃ L, L = cellPins X.env.cells s'.heap := ⟨_, rfl⟩
  have hL : ∀ b o, L b = some o → s'.heap.get? b = some o ∧ H' b = none ∧ s.heap.objs.size ≤ b := fun b o e => by
    rw [hLd, hX] at e
    obtain ⟨⟨y, hy⟩, ho⟩ := cellPins_of e
    exact ⟨ho, J.freeC y b hy, J.ok.cab y b rfl hy⟩
  have lN : ∀ {b : Addr} {u : HO}, H' b = some u → L b = none := fun {b u} e => by
    cases z : L b with
    | none => rfl
    | some o => rw [(hL b o z).2.1] at e; cases e
  have lO : ∀ {b : Addr} {o : Obj}, s.heap.get? b = some o → L b = none := fun {b o} e => by
    cases z : L b with
    | none => rfl
    | some o' => exact absurd (Nat.lt_of_lt_of_le (Heap.lt_size e) (hL b o' z).2.2) (Nat.lt_irrefl _)
  have sm : Same H' (addP H' L) := fun b u e => by rw [add_at (lN e)]; exact e
  have hn : ∀ b o, L b = some o → H b = none := fun b o e => hOk.fresh (hL b o e).2.2
  have eT : ExtT T H (addP H' L) := fun b o e n => sm _ _ (g.ex b o e n)
  have sG3 : Same G (addP H' L) := fun b o e => eT b o (sG _ _ e) fun p hp z => by rw [← z, gT p hp] at e; cases e
  have C : CellsIn (K := K) X.env.cells L G ev := by
    rw [hLd, hX]
    exact cells_in J hev
  obtain ⟨fs0, e0, pr⟩ := g.at_
  rw [hX] at C
  obtain ⟨fs, rfl, e1, k⟩ := paired_refs (H3 := addP H' L) add_pins C sG3 (fun b o e => sG.free (hn b o e)) (fun b φ e => sm _ _ e) pr hsp
  have un : Un (frs outer) [] H H' s.heap s'.heap := J.base
  refine ⟨.ref l, addP H' L, J.os, J.bare, ⟨un.keep, un.slot, fun b o e n hx => ?_, un.there, fun b xs e => ?_, fun b o u e => ?_, fun b ps e => ?_⟩, hok_add J.hok fun b o e => ⟨(hL b o e).1, (hL b o e).2.1⟩, rfl, hQ fs _ g.nw eT (g.tb.ext sm) (sm _ _ e0) e1 k⟩
  · rw [add_at (lO e)]
    exact un.free b o e n hx
  · exact sm _ _ (un.tups b xs e)
  · exact sm _ _ (un.frzs b o u e)
  · obtain ⟨more, z⟩ := un.tbls b ps e
    exact ⟨more, sm _ _ z⟩
/-- the body: the list, the appends, the return -/
theorem maker_body {X : Cx} {T : List (Addr × Str)} {i : Nat} {x : Str} {st1 : Stmt} {sts : List Stmt} {lam : Expr} {N1 : List Str} {fe1 : FE} {sp : LSp} {p pos : Pos} {σ : L2.St} {H : Hp} {s : Shared} {R : Value → Shared → Prop}
    (h1 : PS X st1 (tLam1 T (X.env.qual ++ "<lambda>") X.env.cells i lam)) (ok : LamOk P w K mg base N1 fe1 lam) (hs : LamSts P w K mg base X T i sts sp [.Return (some (.Name x p)) pos]) (hN : X.N[i]? = some x) (hv : Vis X.env.scope x) (hd : (x == ("__debug__" : Str)) = false) (hcd : (x == ("__classdict__" : Str)) = false)
    (hlen : sp.length < 900) (I : Inv X [] σ H s) (hT : Tabs T H) (k : ∀ (l : Addr) (H' : Hp) (s' : Shared), Inv X [] (σ.set i (some (.ref l))) H' s' → LamG P w K mg base T (X.env.qual ++ "<lambda>") X.env.cells H H' l ((N1, fe1) :: sp) → R (.ref l) s') :
    wpAny (model X.prog X.w) X.A (execs (st1 :: sts) X.env) (fun fl s' => ∃ u, fl = .ret u ∧ R u s') X.xe s := by
  have hi : i < σ.length := by rw [I.len]; exact (List.getElem?_eq_some_iff.mp hN).1
  refine seq_raw h1 I (N := fun σ' H' => ∃ l, σ' = σ.set i (some (.ref l)) ∧ LamG P w K mg base T (X.env.qual ++ "<lambda>") X.env.cells H H' l [(N1, fe1)]) ⟨hT, fun l f H' nl eN T1 e1 hl1 => ⟨l, rfl, LamG.start nl eN T1 e1 hl1 ok⟩⟩ fun s' σ' H' I' q => ?_
  obtain ⟨l, rfl, g⟩ := q
  refine lams_raw (by rw [List.getElem?_set_self hi]) hs I' g (by simp; omega) fun H2 s2 I2 g2 => ?_
  refine wpAny_execs_cons (wpAny_Return_some (thn ((pe_var (pos := p) (i := i) hN hv hd hcd).run [] s2 _ H2 (fun v H1 => v = .ref l ∧ H1 = H2) I2 ⟨.ref l, by rw [List.getElem?_set_self hi], rfl, rfl⟩) fun u s3 ⟨v, H3, I3, r3, q3⟩ => ?_))
  obtain ⟨rfl, rfl⟩ := q3
  cases r3
  exact ⟨_, rfl, k l H3 s3 I3 g2⟩
/-- the def x has this table -/
def HasTab (K : PySem.W.Frag) (mg : Str → Option Value) (base : Heap) (T : List (Addr × Str)) (x : Str) : Prop := ∃ (c Pa : Addr), TabB base mg c Pa ∧ (∀ oc od fd osl, K.lookup (He.ga K x) = some ⟨oc, od, .func fd, osl⟩ → fd.code = .ref c) ∧ (Pa, (x ++ ".<locals>.") ++ "<lambda>") ∈ T ∧ ∀ p ∈ T, p.1 = Pa → p.2 = (x ++ ".<locals>.") ++ "<lambda>"
end
end Bv
set_option Elab.async false
set_option linter.all false
set_option maxRecDepth 100000
set_option maxHeartbeats 1000000
namespace Bv
open PySem PySem.Spec PyProof.Rows L2
/-- each class is below ValueError -/
def kitVB (K : PySem.W.Frag) (cs : List Str) : Bool := cs.all fun c => PySem.W.kitOne K (.ref (He.ga K c)) (.type "ValueError") == some true
theorem kitVB_ok {K : PySem.W.Frag} {cs : List Str} (h : kitVB K cs = true) {c : Str} (hc : c ∈ cs) : PySem.W.kitOne K (.ref (He.ga K c)) (.type "ValueError") = some true := beq_iff_eq.mp (List.all_eq_true.mp h c hc)
/-- isinstance(e, C), e a pinned exception -/
theorem call_isP {X : Cx} {a D : Addr} {oe : Obj} (hp : (a, oe) ∈ X.pn) (C : ExcC X.K D) (hz : Zc (.ref D) none oe) (hf : ∃ vs, oe.data = .fields vs) : CallR X (.builtin "isinstance") (rIsE X.K D a) := by
  intro pins s σ H xs us Q I r h
  obtain ⟨c, cv, b, rfl, hcv, e, q⟩ := h
  cases r with
  | cons rx rr =>
    cases rr with
    | cons rt rr =>
      cases rr
      cases rx
      have ec := hcv _ rt
      subst ec
      obtain ⟨hget, _⟩ := I.pin (a, oe) (List.mem_append.mpr (.inl hp))
      obtain ⟨vs, hv⟩ := hf
      have J : PySem.W.InstAt s.heap a oe D none := by
        obtain ⟨oc, od, oda, osl⟩ := oe
        obtain ⟨h1, h2⟩ := hz
        dsimp only at h1 h2 hv
        subst h1 h2 hv
        exact ⟨hget, rfl, rfl, trivial⟩
      exact PySem.W.kia_one (PySem.W.handS_kitx_exc C.hg C.hk C.hs C.hd C.ha C.hn C.ht C.hm) I.kIn J e (fun z => nomatch z) fun tk => ⟨.bl b, H, I.kept (t' := tk) fun _ _ z => z, rfl, q⟩
/-- a def called while p is handled, by its body -/
theorem run_ofG {P : Program} {w : World} {K : PySem.W.Frag} {mg : Str → Option Value} {base : Heap} {k : Nat} {f : Addr} {name qual : Str} {params : Arguments} {body : List Stmt} {scope : Scope} {dV kV doc pm cdv ct oc : Value} {an od : Option Addr}
    {osl : Array (Option Value)} {N ps : List Str} (lk : K.lookup f = some ⟨oc, od, .func (PySem.W.fnOf name qual params body scope dV kV doc pm an cdv ct), osl⟩) (hcd : PySem.W.codeIn K cdv qual = true) (S : FnScope N ps scope)
    {A : Around} {outer : List Env} {s : Shared} {H : Hp} {args : Args} {us : List Value} {vs : List V} {Q : VK} {E : XK} {p : Addr × Obj} (hr : L2H.RoomH (k + 1) A) (hpin : L2H.PinOk outer H s p) (e0 : Env0 P w K mg base A outer s H) (hb : BindsTo s (PySem.W.fnOf name qual params body scope dV kV doc pm an cdv ct) args (ps.zip us)) (r : Vals vs us) (hl : vs.length = ps.length)
    (hbody : L2H.RoomH k (A.deeper (envOfC qual scope s.heap.objs.size f cdv)) → ∃ t, PSs (L2H.cxH (L2.CX P w) P w K mg base N qual scope f cdv A outer s H E p) body t ∧ t { nx := fun _ H' => Q .non H', rt := Q } (L2.start N vs) H) :
    codeAny (model P w) A (.call (.ref f) args) (CR (L2.CX P w) outer P w H s Q E) s := by
  have KX : K.In s.heap := e0.mod.kin.keeps fun b o e => (e0.bs b o e).1
  have lim : s.heap.NoLimit := e0.mod.nolimit.keeps fun b o e => (e0.bs b o e).1
  have hkind : ∀ y ∈ ps.zip us, scope.names.lookup y.1 = some .local ∨ (scope.names.lookup y.1 = some .cell ∧ ((cellsFrom (s.heap.objs.size + 1) scope.names []).lookup y.1).isSome = true) := fun ⟨n, v⟩ hy => by
    rcases S.par n (List.of_mem_zip hy).1 with q | q
    · exact .inl q
    · exact .inr ⟨q, PySem.W.cellsFrom_some _ _ _ (.inl q)⟩
  refine codeAny_call_function hr.depth (KX _ _ lk) rfl S.co S.gen rfl (PySem.W.codeRec_of KX hcd) (hb _ _ _ _ ?_)
  refine wpAny_newFunctionEnv_cells S.kind hkind fun env he s1 x => ?_
  subst he
  refine ⟨lim.keeps x.toInCall.keep, codeAny_func ?_⟩
  obtain ⟨t, ht, hq⟩ := hbody (hr.deeper _)
  have I : Inv (L2H.cxH (L2.CX P w) P w K mg base N qual scope f cdv A outer s H E p) [] (L2.start N vs) H s1 := L2H.inv_startH S hpin e0 hl r x
  refine wpAny_mono (ht.run [] s1 (L2.start N vs) H _ I hq) (fun fl s' hs => ?_) fun e s' hs => hs
  have fin : ∀ {σ' : L2.St} {H' : Hp} {v : V} {u : Value}, Inv (L2H.cxH (L2.CX P w) P w K mg base N qual scope f cdv A outer s H E p) [] σ' H' s' → RelV v u → Q v H' → CE outer P w H s Q u s' :=
    fun {σ' H' v u} J rv q => ⟨v, H', J.os, J.bare, J.base, J.hok, rv, q⟩
  cases fl with
  | ret u =>
    obtain ⟨v, σ', H', J, rv, q⟩ := hs
    exact fin J rv q
  | next =>
    obtain ⟨σ', H', J, q⟩ := hs
    exact fin (v := V.non) (u := Value.none) J rfl q
  | brk =>
    obtain ⟨_, _, _, q⟩ := hs
    exact False.elim q
  | cont =>
    obtain ⟨_, _, _, q⟩ := hs
    exact False.elim q
section
variable {X : Cx} {P : Pm} {own : List Nat} {p p1 p2 pos : Pos} {n C : Str}
/-- isinstance(n, C), n the pinned exception in slot i -/
theorem isg_core {A : Addr} {oe : Obj} {cc : Str} (i : Nat) {bb : Bool} {cV : V} {cv : Value} (hp : (A, oe) ∈ X.pn) (hk : ExcC X.K (P.ea cc)) (hz : Zc (.ref (P.ea cc)) none oe) (hf : ∃ vs, oe.data = .fields vs) (kit : PySem.W.kitOne X.K (.ref (P.ea cc)) cv = some bb) (hC : PE X (.Name C p2) (tC cV)) (hcv : ∀ u, RelV cV u → u = cv) (hm : X.mg "isinstance" = none)
    (hN : X.N[i]? = some n) (hv : Vis X.env.scope n) (ho : own.contains i = false) (hd : (n == ("__debug__" : Str)) = false) (hcd : (n == ("__classdict__" : Str)) = false)
    (hg : Gl X "isinstance") (hs2 : starEach [.Name n p1, .Name C p2] X.env = (false, eval (.Name n p1) X.env) :: starEach [.Name C p2] X.env) (hs3 : starEach [.Name C p2] X.env = (false, eval (.Name C p2) X.env) :: starEach [] X.env) (hpl : (backTo pos (starEach [.Name C p2] X.env)).any (·.1) = false) :
    EV X P own (.Call (.Name "isinstance" p) [.Name n p1, .Name C p2] [] pos) (xIsE i A bb) := by
  refine PE.weak (pe_callB (call_isP hp hk hz hf) hg hm (by decide +kernel) (pa_cons (pe_var (pos := p1) hN hv hd hcd) (pa_cons hC pa_nil hs3) hs2) (by decide) (by decide) hs2 hpl) fun σ H Q ⟨ρ, G, al, rl, h⟩ => ?_
  replace h : Pst P (DRr X.K) σ G H (xIsE i A bb ρ) Q := h
  unfold xIsE at h
  have ho' : i ∉ own := by simpa using ho
  cases q : gv ρ i with
  | stuck => rw [q] at h; exact h.elim
  | exc c => exact absurd q (gv_noexc c)
  | ok d =>
    rw [q, Res.ok_bind] at h
    split at h
    · rename_i c' m
      split at h
      · rename_i hm'
        obtain ⟨v, e1, q1⟩ := rl.sh i _ (gv_some q) ho'
        obtain ⟨a', rfl, e2⟩ := dr_exc q1
        have e3 : a' = A := by
          have : ((a' : Nat) : Int) = ((A : Nat) : Int) := e2.symm.trans hm'
          exact Int.ofNat.inj this
        subst e3
        exact ⟨_, e1, _, _, bb, rfl, hcv, kit, h.ok rl.sub (drB _)⟩
      · exact h.elim
    · exact h.elim
theorem isg {A : Addr} {oe : Obj} {cc : Str} (i : Nat) {bb : Bool} (hp : (A, oe) ∈ X.pn) (hk : ExcC X.K (P.ea cc)) (hz : Zc (.ref (P.ea cc)) none oe) (hf : ∃ vs, oe.data = .fields vs) (kit : PySem.W.kitOne X.K (.ref (P.ea cc)) (.ref (He.ga X.K C)) = some bb) (gC : X.mg C = some (.ref (He.ga X.K C))) (hm : X.mg "isinstance" = none)
    (hN : X.N[i]? = some n := by rfl) (hv : Vis X.env.scope n := by first | exact Or.inl rfl | exact Or.inr (Or.inl rfl) | exact Or.inr (Or.inr rfl)) (ho : own.contains i = false := by rfl) (hd : (n == ("__debug__" : Str)) = false := by decide) (hcd : (n == ("__classdict__" : Str)) = false := by decide)
    (hg : Gl X "isinstance" := by rfl) (hg2 : Gl X C := by rfl) (hd2 : (C == ("__debug__" : Str)) = false := by decide) (hs2 : starEach [.Name n p1, .Name C p2] X.env = (false, eval (.Name n p1) X.env) :: starEach [.Name C p2] X.env := by rfl) :
    EV X P own (.Call (.Name "isinstance" p) [.Name n p1, .Name C p2] [] pos) (xIsE i A bb) :=
  isg_core i hp hk hz hf kit (pe_glob (v := .ref (He.ga X.K C)) hg2 gC rfl hd2) (fun u r => r) hm hN hv ho hd hcd hg hs2 rfl rfl
theorem isgV {A : Addr} {oe : Obj} {cc : Str} (i : Nat) {bb : Bool} (hp : (A, oe) ∈ X.pn) (hk : ExcC X.K (P.ea cc)) (hz : Zc (.ref (P.ea cc)) none oe) (hf : ∃ vs, oe.data = .fields vs) (kit : PySem.W.kitOne X.K (.ref (P.ea cc)) (.type "ValueError") = some bb) (gC : X.mg "ValueError" = none) (hm : X.mg "isinstance" = none)
    (hN : X.N[i]? = some n := by rfl) (hv : Vis X.env.scope n := by first | exact Or.inl rfl | exact Or.inr (Or.inl rfl) | exact Or.inr (Or.inr rfl)) (ho : own.contains i = false := by rfl) (hd : (n == ("__debug__" : Str)) = false := by decide) (hcd : (n == ("__classdict__" : Str)) = false := by decide)
    (hg : Gl X "isinstance" := by rfl) (hg2 : Gl X "ValueError" := by rfl) (hs2 : starEach [.Name n p1, .Name "ValueError" p2] X.env = (false, eval (.Name n p1) X.env) :: starEach [.Name "ValueError" p2] X.env := by rfl) :
    EV X P own (.Call (.Name "isinstance" p) [.Name n p1, .Name "ValueError" p2] [] pos) (xIsE i A bb) :=
  isg_core i hp hk hz hf kit (pe_bltn (v := .ty "ValueError") hg2 gC (by decide +kernel) rfl) (fun u r => r) hm hN hv ho hd hcd hg hs2 rfl rfl
end
end Bv
set_option Elab.async false
set_option linter.all false
set_option maxRecDepth 100000
set_option maxHeartbeats 1000000
namespace Bv
open PySem PySem.Spec PyProof.Rows L2 LamX
section
variable {P : Program} {w : World} {K : PySem.W.Frag} {mg : Str → Option Value} {base : Heap}
/-- what a lambda must show -/
def freeInB (N : List Str) (scope : Scope) : Bool := scope.names.all fun y => !decide (y.2 = .free) || N.contains y.1
theorem lok {N : List Str} {params : Arguments} {body : Expr} {scope : Scope} {pos : Pos} {fe : FE} (hb : ∀ (q : Str) (f c' : Addr) (clo : List (Str × Addr)) (A : Around) (outer : List Env) (s : Shared) (H : Hp) (E : XK), Room 7 (A.deeper (PySem.W.envX q scope s.heap.objs.size f (.ref c') clo)) → EV (lcx P w K mg base N q scope f c' clo A outer s H E) ⟨fun cls d _ H => E cls d H, He.ga K⟩ [] body fe)
    (S : lamScopeB N scope = true := by kernel_rfl) (hf : freeInB N scope = true := by kernel_rfl) (hbi : ∀ (q : Str) (cl : List (Str × Addr)) (pm cv ctv : Value), bindArgs (PySem.W.kla_fn "<lambda>" q params body scope cl pm cv ctv) ⟨[], []⟩ = pure [] := by intros; rfl) : LamOk P w K mg base N fe (.Lambda params body scope pos) := by
  refine ⟨lamScope_by S, fun y hy e => ?_, hbi, hb⟩
  unfold freeInB at hf
  have := List.all_eq_true.mp hf y hy
  rw [Bool.or_eq_true] at this
  rcases this with z | z
  · simp [e] at z
  · simpa using z
def spMk (P : Program) (w : World) (K : PySem.W.Frag) (mg : Str → Option Value) (base : Heap) (T : List (Addr × Str)) (ps : List Str) (sp : LSp) : Sp := fun vs H Q _ => ∃ (ds : List PyData) (G : Hp) (c : Str), DRs K G vs ds ∧ ds.length = ps.length ∧ Same G H ∧ (∀ p ∈ T, G p.1 = none) ∧ Tabs T H ∧
  (∀ x ∈ sp, (∀ n ∈ x.1, n ∈ ps) ∧ x.2 (x.1.map fun n => (ps.zip ds).lookup n) = .exc c) ∧ ∀ (l : Addr) (fs : List Addr) (H3 : Hp), NewL T H l → ExtT T H H3 → Tabs T H3 → H3 l = some (.lst (fs.map V.ref)) → fs.length = sp.length → (∀ f ∈ fs, Clos P w K mg base H3 f c) → Q (.ref l) H3
theorem zip_look {β : Type} : ∀ {ps : List Str} {ds : List β}, ds.length = ps.length → (∀ n ∈ ps, ((ps.zip ds).lookup n).isSome = true) ∧ ∀ x d, (ps.zip ds).lookup x = some d → ∃ i : Nat, ps[i]? = some x ∧ ds[i]? = some d
  | [], [], _ => ⟨fun _ h => absurd h List.not_mem_nil, fun _ _ e => by cases e⟩
  | p :: ps, d :: ds, hl => by
    obtain ⟨h1, h2⟩ := zip_look (ps := ps) (ds := ds) (by simpa using hl)
    refine ⟨fun n hn => ?_, fun x e he => ?_⟩
    · rw [List.zip_cons_cons, List.lookup_cons]
      cases q : n == p with
      | true => rfl
      | false =>
        rcases List.mem_cons.mp hn with rfl | hn
        · simp at q
        · exact h1 n hn
    · rw [List.zip_cons_cons, List.lookup_cons] at he
      cases q : x == p with
      | true =>
        rw [q] at he
        cases he
        exact ⟨0, by rw [beq_iff_eq.mp q]; rfl, rfl⟩
      | false =>
        rw [q] at he
        obtain ⟨i, e1, e2⟩ := h2 x e he
        exact ⟨i + 1, e1, e2⟩
theorem tabX_of {T : List (Addr × Str)} {x : Str} {N : List Str} {scope : Scope} {cdv : Value} {A : Around} {outer : List Env} {s : Shared} {H : Hp} {E : XK} (tab : HasTab K mg base T x) {oc : Value} {od : Option Addr} {fd : FuncData} {osl : Array (Option Value)} (lk : K.lookup (He.ga K x) = some ⟨oc, od, .func fd, osl⟩) (hc : fd.code = cdv) :
    TabX (cxOf (L2.CX P w) P w K mg base N x scope (He.ga K x) cdv A outer s H E) T := by
  obtain ⟨c, Pa, h1, h2, h3, h4⟩ := tab
  exact ⟨c, Pa, h1, hc.symm.trans (h2 oc od fd osl lk), h3, h4⟩
theorem maker_fn {k : Nat} {T : List (Addr × Str)} {x : Str} {N ps : List Str} {params : Arguments} {body : List Stmt} {scope : Scope} {fd : FuncData} {N1 : List Str} {fe1 : FE} {sp : LSp} (F : FunD K x x params body scope [] [] (He.ga K x) fd) (S : FnScope N ps scope) (hN : N = ps ++ [("_law_calls" : Str)]) (hcell : ∀ n ∈ ps, scope.names.lookup n = some NameKind.cell) (hloc : scope.names.lookup ("_law_calls" : Str) = some NameKind.local)
    (tab : HasTab K mg base T x) (hlen : sp.length < 900)
    (hb : ∀ (cdv : Value) (A : Around) (outer : List Env) (s : Shared) (H : Hp) (E : XK), TabX (cxOf (L2.CX P w) P w K mg base N x scope (He.ga K x) cdv A outer s H E) T → ∃ st1 sts lam p pos, body = st1 :: sts ∧ PS (cxOf (L2.CX P w) P w K mg base N x scope (He.ga K x) cdv A outer s H E) st1 (tLam1 T ((cxOf (L2.CX P w) P w K mg base N x scope (He.ga K x) cdv A outer s H E).env.qual ++ "<lambda>") (cxOf (L2.CX P w) P w K mg base N x scope (He.ga K x) cdv A outer s H E).env.cells ps.length lam) ∧ LamOk P w K mg base N1 fe1 lam ∧
      LamSts P w K mg base (cxOf (L2.CX P w) P w K mg base N x scope (He.ga K x) cdv A outer s H E) T ps.length sts sp [.Return (some (.Name "_law_calls" p)) pos]) :
    FnOk P w K mg base (L2.CX P w) (k + 1) (He.ga K x) fd ps (spMk P w K mg base T ps ((N1, fe1) :: sp)) := by
  obtain ⟨oc, od, dV, kV, doc, pm, an, cdv, ct, osl, rfl, lk, hcd, _, _⟩ := F.ex
  have len : ∀ vs H Q E, spMk P w K mg base T ps ((N1, fe1) :: sp) vs H Q E → vs.length = ps.length := fun vs H Q E h => by
    obtain ⟨ds, G, c, h1, h2, _⟩ := h
    rw [drs_len h1, h2]
  refine ⟨len, fun A outer s H args us vs Q E hr e0 hbd r h => ?_⟩
  have hl := len _ _ _ _ h
  obtain ⟨ds, G, c, h1, h2, sG, gT, tH, hsp, hQ⟩ := h
  refine run_ofR lk hcd S hr e0 hbd r hl fun hr' s1 I => ?_
  obtain ⟨st1, sts, lam, p, pos, eb, hps, ok, hs⟩ := hb cdv A outer s H E (tabX_of tab lk rfl)
  rw [eb]
  obtain ⟨z1, z2⟩ := zip_look (β := PyData) h2
  refine maker_body (P := P) (w := w) (K := K) (mg := mg) (base := base) hps ok hs (x := "_law_calls") (p := p) (pos := pos) ?_ (.inl hloc) (by decide) (by decide) hlen I tH fun l H' s' J g => ?_
  · show N[ps.length]? = _
    rw [hN, List.getElem?_append_right (Nat.le_refl _)]
    simp
  refine mk_ce (ev := ps.zip ds) (c := c) (G := G) J e0.hok g (fun x d e => ?_) sG gT (fun y hy => ⟨fun n hn => z1 n ((hsp y hy).1 n hn), (hsp y hy).2⟩) fun fs H3 a1 a2 a3 a4 a5 a6 => hQ l fs H3 a1 a2 a3 a4 a5 a6
  obtain ⟨i, e1, e2⟩ := z2 x d e
  obtain ⟨v, e3, q⟩ := drs_at h1 e2
  have hi : i < ps.length := (List.getElem?_eq_some_iff.mp e1).1
  refine ⟨i, v, ?_, ?_, hcell x (List.mem_of_getElem? e1), q⟩
  · rw [hN, List.getElem?_append_left hi]; exact e1
  · rw [List.getElem?_set_ne (by omega)]
    unfold L2.start
    rw [List.getElem?_append_left (by rw [List.length_map]; omega), List.getElem?_map, e3]
    rfl
end
def lamFreeB (sc scope : Scope) : Bool := scope.names.all fun y => !decide (y.2 = .free) || (decide (sc.names.lookup y.1 = some .cell) || decide (sc.names.lookup y.1 = some .free))
theorem lf {X : Cx} {scope : Scope} (h : lamFreeB X.env.scope scope = true := by kernel_rfl) : lamFree X scope := fun y hy e => by
  unfold lamFreeB at h
  have := List.all_eq_true.mp h y hy
  simp only [Bool.or_eq_true, Bool.not_eq_true', decide_eq_true_eq, decide_eq_false_iff_not] at this
  rcases this with z | z
  · exact absurd e z
  · exact z
end Bv
set_option Elab.async false
set_option linter.all false
set_option maxRecDepth 100000
set_option maxHeartbeats 0
namespace Bv.K26
open PySem PySem.Spec L2 Bv
def top (i : Nat) : Stmt := PySem.Challenge.pw_lightsteps_k26_errors.main.body.getD i (.Pass ⟨0, 0, 0, 0⟩)
abbrev S_is_int : Stmt := top 16
def D_is_int : He.DefD := ⟨("is_int", none), "is_int", "is_int", defArgs S_is_int, defBody S_is_int, defScope S_is_int, [], []⟩
abbrev S_is_wheel : Stmt := top 17
def D_is_wheel : He.DefD := ⟨("is_wheel", none), "is_wheel", "is_wheel", defArgs S_is_wheel, defBody S_is_wheel, defScope S_is_wheel, [], []⟩
abbrev S_is_camera : Stmt := top 18
def D_is_camera : He.DefD := ⟨("is_camera", none), "is_camera", "is_camera", defArgs S_is_camera, defBody S_is_camera, defScope S_is_camera, [], []⟩
abbrev S_wheel_values : Stmt := top 19
def D_wheel_values : He.DefD := ⟨("wheel_values", none), "wheel_values", "wheel_values", defArgs S_wheel_values, defBody S_wheel_values, defScope S_wheel_values, [], []⟩
abbrev S_has_setting : Stmt := top 20
def D_has_setting : He.DefD := ⟨("has_setting", none), "has_setting", "has_setting", defArgs S_has_setting, defBody S_has_setting, defScope S_has_setting, [], []⟩
abbrev S_check_camera : Stmt := top 21
def D_check_camera : He.DefD := ⟨("check_camera", none), "check_camera", "check_camera", defArgs S_check_camera, defBody S_check_camera, defScope S_check_camera, [], []⟩
abbrev S_check_setting : Stmt := top 22
def D_check_setting : He.DefD := ⟨("check_setting", none), "check_setting", "check_setting", defArgs S_check_setting, defBody S_check_setting, defScope S_check_setting, [], []⟩
abbrev S_check_light : Stmt := top 23
def D_check_light : He.DefD := ⟨("check_light", none), "check_light", "check_light", defArgs S_check_light, defBody S_check_light, defScope S_check_light, [], []⟩
abbrev S_find_wheel : Stmt := top 24
def D_find_wheel : He.DefD := ⟨("find_wheel", none), "find_wheel", "find_wheel", defArgs S_find_wheel, defBody S_find_wheel, defScope S_find_wheel, [], []⟩
abbrev S_is_setting : Stmt := top 25
def D_is_setting : He.DefD := ⟨("is_setting", none), "is_setting", "is_setting", defArgs S_is_setting, defBody S_is_setting, defScope S_is_setting, [], []⟩
abbrev S_values : Stmt := top 26
def D_values : He.DefD := ⟨("values", none), "values", "values", defArgs S_values, defBody S_values, defScope S_values, [], []⟩
abbrev S_all_settings : Stmt := top 27
def D_all_settings : He.DefD := ⟨("all_settings", none), "all_settings", "all_settings", defArgs S_all_settings, defBody S_all_settings, defScope S_all_settings, [], []⟩
abbrev S_count_settings : Stmt := top 28
def D_count_settings : He.DefD := ⟨("count_settings", none), "count_settings", "count_settings", defArgs S_count_settings, defBody S_count_settings, defScope S_count_settings, [], []⟩
abbrev S_find_exposure : Stmt := top 29
def D_find_exposure : He.DefD := ⟨("find_exposure", none), "find_exposure", "find_exposure", defArgs S_find_exposure, defBody S_find_exposure, defScope S_find_exposure, [], []⟩
abbrev S_exposure : Stmt := top 30
def D_exposure : He.DefD := ⟨("exposure", none), "exposure", "exposure", defArgs S_exposure, defBody S_exposure, defScope S_exposure, [], []⟩
abbrev S_error : Stmt := top 31
def D_error : He.DefD := ⟨("error", none), "error", "error", defArgs S_error, defBody S_error, defScope S_error, [], []⟩
abbrev S_find_right : Stmt := top 33
def D_find_right : He.DefD := ⟨("find_right", none), "find_right", "find_right", defArgs S_find_right, defBody S_find_right, defScope S_find_right, [], []⟩
abbrev S_check_both : Stmt := top 34
def D_check_both : He.DefD := ⟨("check_both", none), "check_both", "check_both", defArgs S_check_both, defBody S_check_both, defScope S_check_both, [], []⟩
abbrev S_right_settings : Stmt := top 35
def D_right_settings : He.DefD := ⟨("right_settings", none), "right_settings", "right_settings", defArgs S_right_settings, defBody S_right_settings, defScope S_right_settings, [], []⟩
abbrev S_count_right : Stmt := top 36
def D_count_right : He.DefD := ⟨("count_right", none), "count_right", "count_right", defArgs S_count_right, defBody S_count_right, defScope S_count_right, [], []⟩
abbrev S_find_numbers : Stmt := top 37
def D_find_numbers : He.DefD := ⟨("find_numbers", none), "find_numbers", "find_numbers", defArgs S_find_numbers, defBody S_find_numbers, defScope S_find_numbers, [], []⟩
abbrev S_find_reach : Stmt := top 38
def D_find_reach : He.DefD := ⟨("find_reach", none), "find_reach", "find_reach", defArgs S_find_reach, defBody S_find_reach, defScope S_find_reach, [], []⟩
abbrev S_reach : Stmt := top 39
def D_reach : He.DefD := ⟨("reach", none), "reach", "reach", defArgs S_reach, defBody S_reach, defScope S_reach, [], []⟩
abbrev S_reachable : Stmt := top 40
def D_reachable : He.DefD := ⟨("reachable", none), "reachable", "reachable", defArgs S_reachable, defBody S_reachable, defScope S_reachable, [], []⟩
abbrev S_commonest : Stmt := top 41
def D_commonest : He.DefD := ⟨("commonest", none), "commonest", "commonest", defArgs S_commonest, defBody S_commonest, defScope S_commonest, [], []⟩
abbrev S_gaps : Stmt := top 43
def D_gaps : He.DefD := ⟨("gaps", none), "gaps", "gaps", defArgs S_gaps, defBody S_gaps, defScope S_gaps, [], []⟩
abbrev S_find_size : Stmt := top 44
def D_find_size : He.DefD := ⟨("find_size", none), "find_size", "find_size", defArgs S_find_size, defBody S_find_size, defScope S_find_size, [], []⟩
abbrev S_least_error : Stmt := top 45
def D_least_error : He.DefD := ⟨("least_error", none), "least_error", "least_error", defArgs S_least_error, defBody S_least_error, defScope S_least_error, [], []⟩
abbrev S_nearest_settings : Stmt := top 46
def D_nearest_settings : He.DefD := ⟨("nearest_settings", none), "nearest_settings", "nearest_settings", defArgs S_nearest_settings, defBody S_nearest_settings, defScope S_nearest_settings, [], []⟩
abbrev S_worst_brightness : Stmt := top 47
def D_worst_brightness : He.DefD := ⟨("worst_brightness", none), "worst_brightness", "worst_brightness", defArgs S_worst_brightness, defBody S_worst_brightness, defScope S_worst_brightness, [], []⟩
abbrev S_check_number : Stmt := top 51
def D_check_number : He.DefD := ⟨("check_number", none), "check_number", "check_number", defArgs S_check_number, defBody S_check_number, defScope S_check_number, [], []⟩
abbrev S_with_error : Stmt := top 52
def D_with_error : He.DefD := ⟨("with_error", none), "with_error", "with_error", defArgs S_with_error, defBody S_with_error, defScope S_with_error, [], []⟩
abbrev S_find_bracket : Stmt := top 53
def D_find_bracket : He.DefD := ⟨("find_bracket", none), "find_bracket", "find_bracket", defArgs S_find_bracket, defBody S_find_bracket, defScope S_find_bracket, [], []⟩
abbrev S_check_three : Stmt := top 54
def D_check_three : He.DefD := ⟨("check_three", none), "check_three", "check_three", defArgs S_check_three, defBody S_check_three, defScope S_check_three, [], []⟩
abbrev S_bracket : Stmt := top 55
def D_bracket : He.DefD := ⟨("bracket", none), "bracket", "bracket", defArgs S_bracket, defBody S_bracket, defScope S_bracket, [], []⟩
abbrev S_wheels_for : Stmt := top 56
def D_wheels_for : He.DefD := ⟨("wheels_for", none), "wheels_for", "wheels_for", defArgs S_wheels_for, defBody S_wheels_for, defScope S_wheels_for, [], []⟩
abbrev S_widest : Stmt := top 57
def D_widest : He.DefD := ⟨("widest", none), "widest", "widest", defArgs S_widest, defBody S_widest, defScope S_widest, [], []⟩
abbrev S_count_clicks : Stmt := top 59
def D_count_clicks : He.DefD := ⟨("count_clicks", none), "count_clicks", "count_clicks", defArgs S_count_clicks, defBody S_count_clicks, defScope S_count_clicks, [], []⟩
abbrev S_clicks : Stmt := top 60
def D_clicks : He.DefD := ⟨("clicks", none), "clicks", "clicks", defArgs S_clicks, defBody S_clicks, defScope S_clicks, [], []⟩
abbrev S_find_nearest : Stmt := top 61
def D_find_nearest : He.DefD := ⟨("find_nearest", none), "find_nearest", "find_nearest", defArgs S_find_nearest, defBody S_find_nearest, defScope S_find_nearest, [], []⟩
abbrev S_fewest_clicks : Stmt := top 62
def D_fewest_clicks : He.DefD := ⟨("fewest_clicks", none), "fewest_clicks", "fewest_clicks", defArgs S_fewest_clicks, defBody S_fewest_clicks, defScope S_fewest_clicks, [], []⟩
abbrev S_nearest_right : Stmt := top 63
def D_nearest_right : He.DefD := ⟨("nearest_right", none), "nearest_right", "nearest_right", defArgs S_nearest_right, defBody S_nearest_right, defScope S_nearest_right, [], []⟩
abbrev S_farthest : Stmt := top 64
def D_farthest : He.DefD := ⟨("farthest", none), "farthest", "farthest", defArgs S_farthest, defBody S_farthest, defScope S_farthest, [], []⟩
abbrev S_count_changed : Stmt := top 66
def D_count_changed : He.DefD := ⟨("count_changed", none), "count_changed", "count_changed", defArgs S_count_changed, defBody S_count_changed, defScope S_count_changed, [], []⟩
abbrev S_find_shifts : Stmt := top 67
def D_find_shifts : He.DefD := ⟨("find_shifts", none), "find_shifts", "find_shifts", defArgs S_find_shifts, defBody S_find_shifts, defScope S_find_shifts, [], []⟩
abbrev S_shifts : Stmt := top 68
def D_shifts : He.DefD := ⟨("shifts", none), "shifts", "shifts", defArgs S_shifts, defBody S_shifts, defScope S_shifts, [], []⟩
abbrev S_spread : Stmt := top 69
def D_spread : He.DefD := ⟨("spread", none), "spread", "spread", defArgs S_spread, defBody S_spread, defScope S_spread, [], []⟩
abbrev S_fewest_shifts : Stmt := top 70
def D_fewest_shifts : He.DefD := ⟨("fewest_shifts", none), "fewest_shifts", "fewest_shifts", defArgs S_fewest_shifts, defBody S_fewest_shifts, defScope S_fewest_shifts, [], []⟩
abbrev S_shift_groups : Stmt := top 71
def D_shift_groups : He.DefD := ⟨("shift_groups", none), "shift_groups", "shift_groups", defArgs S_shift_groups, defBody S_shift_groups, defScope S_shift_groups, [], []⟩
abbrev S__law_pick : Stmt := top 73
def D__law_pick : He.DefD := ⟨("_law_pick", none), "_law_pick", "_law_pick", defArgs S__law_pick, defBody S__law_pick, defScope S__law_pick, [], []⟩
abbrev S__law_box : Stmt := top 74
def D__law_box : He.DefD := ⟨("_law_box", none), "_law_box", "_law_box", defArgs S__law_box, defBody S__law_box, defScope S__law_box, [], []⟩
abbrev S__law_every : Stmt := top 75
def D__law_every : He.DefD := ⟨("_law_every", none), "_law_every", "_law_every", defArgs S__law_every, defBody S__law_every, defScope S__law_every, [], []⟩
abbrev S__law_class : Stmt := top 76
def D__law_class : He.DefD := ⟨("_law_class", none), "_law_class", "_law_class", defArgs S__law_class, defBody S__law_class, defScope S__law_class, [], []⟩
abbrev S__law_result : Stmt := top 77
def D__law_result : He.DefD := ⟨("_law_result", none), "_law_result", "_law_result", defArgs S__law_result, defBody S__law_result, defScope S__law_result, [], []⟩
abbrev S__law_all : Stmt := top 78
def D__law_all : He.DefD := ⟨("_law_all", none), "_law_all", "_law_all", defArgs S__law_all, defBody S__law_all, defScope S__law_all, [], []⟩
abbrev S__law_cameras : Stmt := top 79
def D__law_cameras : He.DefD := ⟨("_law_cameras", none), "_law_cameras", "_law_cameras", defArgs S__law_cameras, defBody S__law_cameras, defScope S__law_cameras, [], []⟩
abbrev S__law_set : Stmt := top 80
def D__law_set : He.DefD := ⟨("_law_set", none), "_law_set", "_law_set", defArgs S__law_set, defBody S__law_set, defScope S__law_set, [], []⟩
abbrev S__law_lit : Stmt := top 81
def D__law_lit : He.DefD := ⟨("_law_lit", none), "_law_lit", "_law_lit", defArgs S__law_lit, defBody S__law_lit, defScope S__law_lit, [], []⟩
abbrev S_law : Stmt := top 82
def D_law : He.DefD := ⟨("law", none), "law", "law", defArgs S_law, defBody S_law, defScope S_law, [], []⟩
def fnL0 : List He.DefD := [D_is_int, D_is_wheel, D_is_camera, D_wheel_values, D_has_setting, D_check_camera, D_check_setting, D_check_light, D_find_wheel, D_is_setting, D_values, D_all_settings, D_count_settings, D_find_exposure, D_exposure, D_error, D_find_right, D_check_both, D_right_settings, D_count_right, D_find_numbers, D_find_reach, D_reach, D_reachable, D_commonest, D_gaps, D_find_size, D_least_error, D_nearest_settings, D_worst_brightness]
def fnL1 : List He.DefD := [D_check_number, D_with_error, D_find_bracket, D_check_three, D_bracket, D_wheels_for, D_widest, D_count_clicks, D_clicks, D_find_nearest, D_fewest_clicks, D_nearest_right, D_farthest, D_count_changed, D_find_shifts, D_shifts, D_spread, D_fewest_shifts, D_shift_groups, D__law_pick, D__law_box, D__law_every, D__law_class, D__law_result, D__law_all, D__law_cameras, D__law_set, D__law_lit, D_law]
def fnL : List He.DefD := fnL0 ++ fnL1
def faL0 : List He.Fa := [.glo "is_int", .glo "is_wheel", .glo "is_camera", .glo "wheel_values", .glo "has_setting", .glo "check_camera", .glo "check_setting", .glo "check_light", .glo "find_wheel", .glo "is_setting", .glo "values", .glo "all_settings", .glo "count_settings", .glo "find_exposure", .glo "exposure", .glo "error", .glo "find_right", .glo "check_both", .glo "right_settings", .glo "count_right", .glo "find_numbers", .glo "find_reach", .glo "reach", .glo "reachable", .glo "commonest", .glo "gaps", .glo "find_size", .glo "least_error", .glo "nearest_settings", .glo "worst_brightness"]
def faL1 : List He.Fa := [.glo "check_number", .glo "with_error", .glo "find_bracket", .glo "check_three", .glo "bracket", .glo "wheels_for", .glo "widest", .glo "count_clicks", .glo "clicks", .glo "find_nearest", .glo "fewest_clicks", .glo "nearest_right", .glo "farthest", .glo "count_changed", .glo "find_shifts", .glo "shifts", .glo "spread", .glo "fewest_shifts", .glo "shift_groups", .glo "_law_pick", .glo "_law_box", .glo "_law_every", .free "ValueError", .free "abs", .free "all", .free "bool", .free "int", .free "isinstance", .free "len", .free "list"]
def faL2 : List He.Fa := [.free "max", .free "min", .free "range", .free "sorted", .free "str", .free "tuple", .free "zip", .int "MAX_LEAST" 40, .int "MAX_LIGHT" 120, .int "MAX_MANY" 4, .int "MAX_MOST" 60, .int "MAX_STEP" 3, .int "MAX_VALUES" 13, .int "MAX_WIDTH" 12, .int "MIN_LIGHT" (-60), .glo "NAMES", .glo "SIGNS", .glo "LightError", .exc "LightError", .glo "InvalidCamera", .exc "InvalidCamera", .glo "InvalidSetting", .exc "InvalidSetting", .glo "InvalidWheel", .exc "InvalidWheel", .glo "InvalidBrightness", .exc "InvalidBrightness", .glo "InvalidNumber", .exc "InvalidNumber", .exm "InvalidCamera" "LightError" true]
def faL3 : List He.Fa := [.exm "InvalidSetting" "LightError" true, .exm "InvalidWheel" "LightError" true, .exm "InvalidBrightness" "LightError" true, .exm "InvalidNumber" "LightError" true, .glo "_law_class", .glo "_law_result", .glo "_law_all", .glo "_law_cameras", .glo "_law_set", .glo "_law_lit", .glo "law"]
def faL : List He.Fa := faL0 ++ faL1 ++ faL2 ++ faL3
def exL (K : PySem.W.Frag) : Bool := kstB K "NAMES" [.str "aperture", .str "time", .str "sensitivity"] && kstB K "SIGNS" [.int 1, .int 1, .int (-1)] && kitVB K excs_k26 && excsB K excs_k26
abbrev Kw (K : PySem.W.Frag) (mg : Str → Option Value) : Prop := Kn faL fnL exL K mg
section
variable {P : Program} {w : World} {K : PySem.W.Frag} {mg : Str → Option Value} {base : Heap}
theorem b_ValueError (kw : Kw K mg) : mg "ValueError" = none := kw.free 52
theorem b_abs (kw : Kw K mg) : mg "abs" = none := kw.free 53
theorem b_all (kw : Kw K mg) : mg "all" = none := kw.free 54
theorem b_bool (kw : Kw K mg) : mg "bool" = none := kw.free 55
theorem b_int (kw : Kw K mg) : mg "int" = none := kw.free 56
theorem b_isinstance (kw : Kw K mg) : mg "isinstance" = none := kw.free 57
theorem b_len (kw : Kw K mg) : mg "len" = none := kw.free 58
theorem b_list (kw : Kw K mg) : mg "list" = none := kw.free 59
theorem b_max (kw : Kw K mg) : mg "max" = none := kw.free 60
theorem b_min (kw : Kw K mg) : mg "min" = none := kw.free 61
theorem b_range (kw : Kw K mg) : mg "range" = none := kw.free 62
theorem b_sorted (kw : Kw K mg) : mg "sorted" = none := kw.free 63
theorem b_str (kw : Kw K mg) : mg "str" = none := kw.free 64
theorem b_tuple (kw : Kw K mg) : mg "tuple" = none := kw.free 65
theorem b_zip (kw : Kw K mg) : mg "zip" = none := kw.free 66
theorem i_MAX_LEAST (kw : Kw K mg) : ∃ t, mg "MAX_LEAST" = some (.int 40 t) := kw.int 67
theorem i_MAX_LIGHT (kw : Kw K mg) : ∃ t, mg "MAX_LIGHT" = some (.int 120 t) := kw.int 68
theorem i_MAX_MANY (kw : Kw K mg) : ∃ t, mg "MAX_MANY" = some (.int 4 t) := kw.int 69
theorem i_MAX_MOST (kw : Kw K mg) : ∃ t, mg "MAX_MOST" = some (.int 60 t) := kw.int 70
theorem i_MAX_STEP (kw : Kw K mg) : ∃ t, mg "MAX_STEP" = some (.int 3 t) := kw.int 71
theorem i_MAX_VALUES (kw : Kw K mg) : ∃ t, mg "MAX_VALUES" = some (.int 13 t) := kw.int 72
theorem i_MAX_WIDTH (kw : Kw K mg) : ∃ t, mg "MAX_WIDTH" = some (.int 12 t) := kw.int 73
theorem i_MIN_LIGHT (kw : Kw K mg) : ∃ t, mg "MIN_LIGHT" = some (.int (-60) t) := kw.int 74
theorem m_NAMES (kw : Kw K mg) : mg "NAMES" = some (.ref (He.ga K "NAMES")) := kw.glo 75
theorem k_NAMES_ok (kw : Kw K mg) : KstOk K (He.ga K "NAMES") k_NAMES := kst_ok ((He.ba ((He.ba ((He.ba (kw.e)).1)).1)).1)
theorem m_SIGNS (kw : Kw K mg) : mg "SIGNS" = some (.ref (He.ga K "SIGNS")) := kw.glo 76
theorem k_SIGNS_ok (kw : Kw K mg) : KstOk K (He.ga K "SIGNS") k_SIGNS := kst_ok ((He.ba ((He.ba ((He.ba (kw.e)).1)).1)).2)
theorem x_LightError (kw : Kw K mg) : ExcAt K mg "LightError" := kw.exc 77 78
theorem x_InvalidCamera (kw : Kw K mg) : ExcAt K mg "InvalidCamera" := kw.exc 79 80
theorem x_InvalidSetting (kw : Kw K mg) : ExcAt K mg "InvalidSetting" := kw.exc 81 82
theorem x_InvalidWheel (kw : Kw K mg) : ExcAt K mg "InvalidWheel" := kw.exc 83 84
theorem x_InvalidBrightness (kw : Kw K mg) : ExcAt K mg "InvalidBrightness" := kw.exc 85 86
theorem x_InvalidNumber (kw : Kw K mg) : ExcAt K mg "InvalidNumber" := kw.exc 87 88
theorem y_InvalidCamera (kw : Kw K mg) : PySem.W.exmOne K (.ref (He.ga K "InvalidCamera")) (.ref (He.ga K "LightError")) = some true := kw.exm 89
theorem y_InvalidSetting (kw : Kw K mg) : PySem.W.exmOne K (.ref (He.ga K "InvalidSetting")) (.ref (He.ga K "LightError")) = some true := kw.exm 90
theorem y_InvalidWheel (kw : Kw K mg) : PySem.W.exmOne K (.ref (He.ga K "InvalidWheel")) (.ref (He.ga K "LightError")) = some true := kw.exm 91
theorem y_InvalidBrightness (kw : Kw K mg) : PySem.W.exmOne K (.ref (He.ga K "InvalidBrightness")) (.ref (He.ga K "LightError")) = some true := kw.exm 92
theorem y_InvalidNumber (kw : Kw K mg) : PySem.W.exmOne K (.ref (He.ga K "InvalidNumber")) (.ref (He.ga K "LightError")) = some true := kw.exm 93
theorem k_excs (kw : Kw K mg) : excsB K excs_k26 = true := (He.ba (kw.e)).2
theorem k_lt (kw : Kw K mg) : ∀ c ∈ excs_k26, PySem.W.exmOne K (.ref (He.ga K c)) (.ref (He.ga K "LightError")) = some true := by
  intro c hc
  simp only [excs_k26, List.mem_cons, List.not_mem_nil, or_false] at hc
  rcases hc with rfl | rfl | rfl | rfl | rfl
  · exact y_InvalidCamera kw
  · exact y_InvalidSetting kw
  · exact y_InvalidWheel kw
  · exact y_InvalidBrightness kw
  · exact y_InvalidNumber kw
theorem c_is_int : FnScope ["value", "least", "most"] ["value", "least", "most"] (defScope S_is_int) := ⟨rfl, rfl, rfl, by decide +kernel, rfl, by decide +kernel, by decide +kernel⟩
theorem d_is_int (kw : Kw K mg) : DOk P w K mg base 1 "is_int" ["value", "least", "most"] p_is_int := by
  have nd := c_is_int.nd
  refine dok_mk 3 0 (kw.dd 0) (kw.glo 0) c_is_int rfl rfl (fun _ _ _ _ _ _ us hl => match us, hl with | [_, _, _], _ => rfl) fun cdv A outer s H E hr => ?_
  have hu := hu65 hr
  exact s1 (rt (ea (is .int (b_isinstance kw) (b_int kw) (nx 0)) (ea (en (is .bool (b_isinstance kw) (b_bool kw) (nx 0))) (e1 (ch hu (nx 1) (nx 0) (nx 2))))))
theorem c_is_wheel : FnScope ["value", "least", "most", "step"] ["value"] (defScope S_is_wheel) := ⟨rfl, rfl, rfl, by decide +kernel, rfl, by decide +kernel, by decide +kernel⟩
theorem d_is_wheel (kw : Kw K mg) : DOk P w K mg base 2 "is_wheel" ["value"] p_is_wheel := by
  have nd := c_is_wheel.nd
  refine dok_mk 1 3 (kw.dd 1) (kw.glo 1) c_is_wheel rfl rfl (fun _ _ _ _ _ _ us hl => match us, hl with | [_], _ => rfl) fun cdv A outer s H E hr => ?_
  have hu := hu65 hr
  exact sc (sif (tp (to (tn (tv (is .tuple (b_isinstance kw) (b_tuple kw) (nx 0)))) (to (tc hu (EV.x (bi .len hu (b_len kw) (uc (nx 0) (un)))) (EV.x (ki))) (t1 (tn (tv (cl (d_is_int kw) hr (vc (ix hu (nx 0) (EV.x (ki))) (vc (ki) (vc (gi (i_MAX_LEAST kw)) (vn))))))))))) (s1 (rt (kb))) (s0)) (sc (su [] (nv 0) (gt (gc 1 nd (gc 2 nd (gc 3 nd (gn)))))) (sc (sif (tp (to (tn (tv (cl (d_is_int kw) hr (vc (nv 2) (vc (nv 1) (vc (gi (i_MAX_MOST kw)) (vn))))))) (t1 (tn (tv (cl (d_is_int kw) hr (vc (nv 3) (vc (ki) (vc (gi (i_MAX_STEP kw)) (vn)))))))))) (s1 (rt (kb))) (s0)) (s1 (rt (cm hu (EV.x (bn (EV.x (bn (EV.x (bn (nx 2) (nx 1))) (nx 3))) (EV.x (ki)))) (EV.x (gi (i_MAX_VALUES kw))))))))
theorem c_is_camera : FnScope ["candidate", "wheel"] ["candidate"] (defScope S_is_camera) := ⟨rfl, rfl, rfl, by decide +kernel, rfl, by decide +kernel, by decide +kernel⟩
theorem d_is_camera (kw : Kw K mg) : DOk P w K mg base 3 "is_camera" ["candidate"] p_is_camera := by
  have nd := c_is_camera.nd
  refine dok_mk 1 1 (kw.dd 2) (kw.glo 2) c_is_camera rfl rfl (fun _ _ _ _ _ _ us hl => match us, hl with | [_], _ => rfl) fun cdv A outer s H E hr => ?_
  have hu := hu65 hr
  exact sc (sif (tp (to (tn (tv (is .tuple (b_isinstance kw) (b_tuple kw) (nx 0)))) (t1 (tc hu (EV.x (bi .len hu (b_len kw) (uc (nx 0) (un)))) (EV.x (bi .len hu (b_len kw) (uc (EV.x (gk (m_NAMES kw) (k_NAMES_ok kw))) (un)))))))) (s1 (rt (kb))) (s0)) (s1 (rt (bi .all hu (b_all kw) (uc (EV.x (lc [("wheel", 1)] nd (isq (nv 0)) (fun _ _ _ _ _ => gt1 1 nd) (fun _ _ _ _ _ => q0) (fun _ _ _ _ _ => cl (d_is_wheel kw) hr (vc (nv 1) (vn))))) (un)))))
theorem c_wheel_values : FnScope ["wheel", "least", "most", "step"] ["wheel"] (defScope S_wheel_values) := ⟨rfl, rfl, rfl, by decide +kernel, rfl, by decide +kernel, by decide +kernel⟩
theorem d_wheel_values (kw : Kw K mg) : DOk P w K mg base 1 "wheel_values" ["wheel"] p_wheel_values := by
  have nd := c_wheel_values.nd
  refine dok_mk 1 3 (kw.dd 3) (kw.glo 3) c_wheel_values rfl rfl (fun _ _ _ _ _ _ us hl => match us, hl with | [_], _ => rfl) fun cdv A outer s H E hr => ?_
  have hu := hu65 hr
  exact sc (su [] (nv 0) (gt (gc 1 nd (gc 2 nd (gc 3 nd (gn)))))) (s1 (rt (lr3 (b_list kw) (b_range kw) (uc (nx 1) (uc (EV.x (bn (nx 2) (EV.x (ki)))) (uc (nx 3) (un)))))))
theorem c_has_setting : FnScope ["camera", "candidate", "known", "value", "wheel"] ["camera", "candidate"] (defScope S_has_setting) := ⟨rfl, rfl, rfl, by decide +kernel, rfl, by decide +kernel, by decide +kernel⟩
theorem d_has_setting (kw : Kw K mg) : DOk P w K mg base 2 "has_setting" ["camera", "candidate"] p_has_setting := by
  have nd := c_has_setting.nd
  refine dok_mk 2 3 (kw.dd 4) (kw.glo 4) c_has_setting rfl rfl (fun _ _ _ _ _ _ us hl => match us, hl with | [_, _], _ => rfl) fun cdv A outer s H E hr => ?_
  have hu := hu65 hr
  exact sc (sif (tp (to (tn (tv (is .tuple (b_isinstance kw) (b_tuple kw) (nx 1)))) (t1 (tc hu (EV.x (bi .len hu (b_len kw) (uc (nx 1) (un)))) (EV.x (bi .len hu (b_len kw) (uc (EV.x (gk (m_NAMES kw) (k_NAMES_ok kw))) (un)))))))) (s1 (rt (kb))) (s0)) (sc (slc 2 [("value", 3), ("wheel", 4)] [] nd (izp (b_zip kw) (vc (nv 1) (vc (nv 0) (vn)))) (fun _ _ _ _ _ => gt (gc 3 nd (gc 4 nd (gn)))) (fun _ _ _ _ _ => q0) (fun _ _ _ _ _ => ea (cl (d_is_int kw) hr (vc (nv 3) (vc (ki) (vc (gi (i_MAX_MOST kw)) (vn))))) (e1 (cm hu (nx 3) (EV.x (cl (d_wheel_values kw) hr (vc (nv 4) (vn)))))))) (s1 (rt (bi .all hu (b_all kw) (uc (nx 2) (un))))))
theorem c_check_camera : FnScope ["value"] ["value"] (defScope S_check_camera) := ⟨rfl, rfl, rfl, by decide +kernel, rfl, by decide +kernel, by decide +kernel⟩
theorem d_check_camera (kw : Kw K mg) : DOk P w K mg base 4 "check_camera" ["value"] p_check_camera := by
  have nd := c_check_camera.nd
  refine dok_mk 1 0 (kw.dd 5) (kw.glo 5) c_check_camera rfl rfl (fun _ _ _ _ _ _ us hl => match us, hl with | [_], _ => rfl) fun cdv A outer s H E hr => ?_
  have hu := hu65 hr
  exact s1 (sif (tn (tv (cl (d_is_camera kw) hr (vc (nv 0) (vn))))) (s1 (rs (x_InvalidCamera kw))) (s0))
theorem c_check_setting : FnScope ["camera", "value"] ["camera", "value"] (defScope S_check_setting) := ⟨rfl, rfl, rfl, by decide +kernel, rfl, by decide +kernel, by decide +kernel⟩
theorem d_check_setting (kw : Kw K mg) : DOk P w K mg base 3 "check_setting" ["camera", "value"] p_check_setting := by
  have nd := c_check_setting.nd
  refine dok_mk 2 0 (kw.dd 6) (kw.glo 6) c_check_setting rfl rfl (fun _ _ _ _ _ _ us hl => match us, hl with | [_, _], _ => rfl) fun cdv A outer s H E hr => ?_
  have hu := hu65 hr
  exact s1 (sif (tn (tv (cl (d_has_setting kw) hr (vc (nv 0) (vc (nv 1) (vn)))))) (s1 (rs (x_InvalidSetting kw))) (s0))
theorem c_check_light : FnScope ["value"] ["value"] (defScope S_check_light) := ⟨rfl, rfl, rfl, by decide +kernel, rfl, by decide +kernel, by decide +kernel⟩
theorem d_check_light (kw : Kw K mg) : DOk P w K mg base 2 "check_light" ["value"] p_check_light := by
  have nd := c_check_light.nd
  refine dok_mk 1 0 (kw.dd 7) (kw.glo 7) c_check_light rfl rfl (fun _ _ _ _ _ _ us hl => match us, hl with | [_], _ => rfl) fun cdv A outer s H E hr => ?_
  have hu := hu65 hr
  exact s1 (sif (tn (tv (cl (d_is_int kw) hr (vc (nv 0) (vc (gi (i_MIN_LIGHT kw)) (vc (gi (i_MAX_LIGHT kw)) (vn))))))) (s1 (rs (x_InvalidBrightness kw))) (s0))
theorem c_find_wheel : FnScope ["value"] ["value"] (defScope S_find_wheel) := ⟨rfl, rfl, rfl, by decide +kernel, rfl, by decide +kernel, by decide +kernel⟩
theorem d_find_wheel (kw : Kw K mg) : DOk P w K mg base 1 "find_wheel" ["value"] p_find_wheel := by
  have nd := c_find_wheel.nd
  refine dok_mk 1 0 (kw.dd 8) (kw.glo 8) c_find_wheel rfl rfl (fun _ _ _ _ _ _ us hl => match us, hl with | [_], _ => rfl) fun cdv A outer s H E hr => ?_
  have hu := hu65 hr
  exact sc (sif (tp (to (tn (tv (is .str (b_isinstance kw) (b_str kw) (nx 0)))) (t1 (tc hu (nx 0) (EV.x (gk (m_NAMES kw) (k_NAMES_ok kw))))))) (s1 (rs (x_InvalidWheel kw))) (s0)) (s1 (rt (mt .tindex hu (EV.x (gk (m_NAMES kw) (k_NAMES_ok kw))) (uc (nx 0) (un)))))
theorem c_is_setting : FnScope ["camera", "candidate"] ["camera", "candidate"] (defScope S_is_setting) := ⟨rfl, rfl, rfl, by decide +kernel, rfl, by decide +kernel, by decide +kernel⟩
theorem d_is_setting (kw : Kw K mg) : DOk P w K mg base 5 "is_setting" ["camera", "candidate"] p_is_setting := by
  have nd := c_is_setting.nd
  refine dok_mk 2 0 (kw.dd 9) (kw.glo 9) c_is_setting rfl rfl (fun _ _ _ _ _ _ us hl => match us, hl with | [_, _], _ => rfl) fun cdv A outer s H E hr => ?_
  have hu := hu65 hr
  exact sc (ex (cl (d_check_camera kw) hr (vc (nv 0) (vn)))) (s1 (rt (cl (d_has_setting kw) hr (vc (nv 0) (vc (nv 1) (vn))))))
theorem c_values : FnScope ["camera", "wheel"] ["camera", "wheel"] (defScope S_values) := ⟨rfl, rfl, rfl, by decide +kernel, rfl, by decide +kernel, by decide +kernel⟩
theorem d_values (kw : Kw K mg) : DOk P w K mg base 5 "values" ["camera", "wheel"] p_values := by
  have nd := c_values.nd
  refine dok_mk 2 0 (kw.dd 10) (kw.glo 10) c_values rfl rfl (fun _ _ _ _ _ _ us hl => match us, hl with | [_, _], _ => rfl) fun cdv A outer s H E hr => ?_
  have hu := hu65 hr
  exact sc (ex (cl (d_check_camera kw) hr (vc (nv 0) (vn)))) (s1 (rt (cl (d_wheel_values kw) hr (vc (ix hu (nx 0) (EV.x (cl (d_find_wheel kw) hr (vc (nv 1) (vn))))) (vn)))))
theorem c_all_settings : FnScope ["camera", "found", "wheel", "begun", "value"] ["camera"] (defScope S_all_settings) := ⟨rfl, rfl, rfl, by decide +kernel, rfl, by decide +kernel, by decide +kernel⟩
theorem d_all_settings (kw : Kw K mg) : DOk P w K mg base 2 "all_settings" ["camera"] p_all_settings := by
  have nd := c_all_settings.nd
  refine dok_mk 1 4 (kw.dd 11) (kw.glo 11) c_all_settings rfl rfl (fun _ _ _ _ _ _ us hl => match us, hl with | [_], _ => rfl) fun cdv A outer s H E hr => ?_
  have hu := hu65 hr
  exact sc (st 1 [] nd (ls (vc (tu (vn)) (vn)))) (sc (fr (isq (nv 0)) (gt1 2 nd) (s1 (slc2 1 [("begun", 3), ("value", 4)] [4] [] nd (isq (nv 1)) (fun _ _ _ _ _ => gt1 3 nd) (fun _ _ _ _ _ => q0) (fun _ _ _ _ _ => isq (cl (d_wheel_values kw) hr (vc (nv 2) (vn)))) (fun _ _ _ _ _ => gt1 4 nd) (fun _ _ _ _ _ => q0) (fun _ _ _ _ _ => bn (nx 3) (EV.x (tu (vc (nv 4) (vn)))))))) (s1 (rt (nv 1))))
theorem c_count_settings : FnScope ["camera"] ["camera"] (defScope S_count_settings) := ⟨rfl, rfl, rfl, by decide +kernel, rfl, by decide +kernel, by decide +kernel⟩
theorem d_count_settings (kw : Kw K mg) : DOk P w K mg base 5 "count_settings" ["camera"] p_count_settings := by
  have nd := c_count_settings.nd
  refine dok_mk 1 0 (kw.dd 12) (kw.glo 12) c_count_settings rfl rfl (fun _ _ _ _ _ _ us hl => match us, hl with | [_], _ => rfl) fun cdv A outer s H E hr => ?_
  have hu := hu65 hr
  exact sc (ex (cl (d_check_camera kw) hr (vc (nv 0) (vn)))) (s1 (rt (bi .len hu (b_len kw) (uc (EV.x (cl (d_all_settings kw) hr (vc (nv 0) (vn)))) (un)))))
theorem c_find_exposure : FnScope ["setting"] ["setting"] (defScope S_find_exposure) := ⟨rfl, rfl, rfl, by decide +kernel, rfl, by decide +kernel, by decide +kernel⟩
theorem d_find_exposure (kw : Kw K mg) : DOk P w K mg base 1 "find_exposure" ["setting"] p_find_exposure := by
  have nd := c_find_exposure.nd
  refine dok_mk 1 0 (kw.dd 13) (kw.glo 13) c_find_exposure rfl rfl (fun _ _ _ _ _ _ us hl => match us, hl with | [_], _ => rfl) fun cdv A outer s H E hr => ?_
  have hu := hu65 hr
  exact s1 (rt (bn (EV.x (bn (EV.x (ix hu (nx 0) (EV.x (ki)))) (EV.x (ix hu (nx 0) (EV.x (ki)))))) (EV.x (ix hu (nx 0) (EV.x (ki))))))
theorem c_exposure : FnScope ["camera", "setting"] ["camera", "setting"] (defScope S_exposure) := ⟨rfl, rfl, rfl, by decide +kernel, rfl, by decide +kernel, by decide +kernel⟩
theorem d_exposure (kw : Kw K mg) : DOk P w K mg base 5 "exposure" ["camera", "setting"] p_exposure := by
  have nd := c_exposure.nd
  refine dok_mk 2 0 (kw.dd 14) (kw.glo 14) c_exposure rfl rfl (fun _ _ _ _ _ _ us hl => match us, hl with | [_, _], _ => rfl) fun cdv A outer s H E hr => ?_
  have hu := hu65 hr
  exact sc (ex (cl (d_check_camera kw) hr (vc (nv 0) (vn)))) (sc (ex (cl (d_check_setting kw) hr (vc (nv 0) (vc (nv 1) (vn))))) (s1 (rt (cl (d_find_exposure kw) hr (vc (nv 1) (vn))))))
theorem c_error : FnScope ["camera", "setting", "brightness"] ["camera", "setting", "brightness"] (defScope S_error) := ⟨rfl, rfl, rfl, by decide +kernel, rfl, by decide +kernel, by decide +kernel⟩
theorem d_error (kw : Kw K mg) : DOk P w K mg base 5 "error" ["camera", "setting", "brightness"] p_error := by
  have nd := c_error.nd
  refine dok_mk 3 0 (kw.dd 15) (kw.glo 15) c_error rfl rfl (fun _ _ _ _ _ _ us hl => match us, hl with | [_, _, _], _ => rfl) fun cdv A outer s H E hr => ?_
  have hu := hu65 hr
  exact sc (ex (cl (d_check_camera kw) hr (vc (nv 0) (vn)))) (sc (ex (cl (d_check_setting kw) hr (vc (nv 0) (vc (nv 1) (vn))))) (sc (ex (cl (d_check_light kw) hr (vc (nv 2) (vn)))) (s1 (rt (bn (EV.x (cl (d_find_exposure kw) hr (vc (nv 1) (vn)))) (nx 2))))))
theorem c_find_right : FnScope ["camera", "brightness", "setting"] ["camera", "brightness"] (defScope S_find_right) := ⟨rfl, rfl, rfl, by decide +kernel, rfl, by decide +kernel, by decide +kernel⟩
theorem d_find_right (kw : Kw K mg) : DOk P w K mg base 3 "find_right" ["camera", "brightness"] p_find_right := by
  have nd := c_find_right.nd
  refine dok_mk 2 1 (kw.dd 16) (kw.glo 16) c_find_right rfl rfl (fun _ _ _ _ _ _ us hl => match us, hl with | [_, _], _ => rfl) fun cdv A outer s H E hr => ?_
  have hu := hu65 hr
  exact s1 (rt (lc [("setting", 2)] nd (isq (cl (d_all_settings kw) hr (vc (nv 0) (vn)))) (fun _ _ _ _ _ => gt1 2 nd) (fun _ _ _ _ _ => q1 (tc hu (EV.x (cl (d_find_exposure kw) hr (vc (nv 2) (vn)))) (nx 1))) (fun _ _ _ _ _ => nv 2)))
theorem c_check_both : FnScope ["camera", "brightness"] ["camera", "brightness"] (defScope S_check_both) := ⟨rfl, rfl, rfl, by decide +kernel, rfl, by decide +kernel, by decide +kernel⟩
theorem d_check_both (kw : Kw K mg) : DOk P w K mg base 5 "check_both" ["camera", "brightness"] p_check_both := by
  have nd := c_check_both.nd
  refine dok_mk 2 0 (kw.dd 17) (kw.glo 17) c_check_both rfl rfl (fun _ _ _ _ _ _ us hl => match us, hl with | [_, _], _ => rfl) fun cdv A outer s H E hr => ?_
  have hu := hu65 hr
  exact sc (ex (cl (d_check_camera kw) hr (vc (nv 0) (vn)))) (s1 (ex (cl (d_check_light kw) hr (vc (nv 1) (vn)))))
theorem c_right_settings : FnScope ["camera", "brightness"] ["camera", "brightness"] (defScope S_right_settings) := ⟨rfl, rfl, rfl, by decide +kernel, rfl, by decide +kernel, by decide +kernel⟩
theorem d_right_settings (kw : Kw K mg) : DOk P w K mg base 6 "right_settings" ["camera", "brightness"] p_right_settings := by
  have nd := c_right_settings.nd
  refine dok_mk 2 0 (kw.dd 18) (kw.glo 18) c_right_settings rfl rfl (fun _ _ _ _ _ _ us hl => match us, hl with | [_, _], _ => rfl) fun cdv A outer s H E hr => ?_
  have hu := hu65 hr
  exact sc (ex (cl (d_check_both kw) hr (vc (nv 0) (vc (nv 1) (vn))))) (s1 (rt (cl (d_find_right kw) hr (vc (nv 0) (vc (nv 1) (vn))))))
theorem c_count_right : FnScope ["camera", "brightness"] ["camera", "brightness"] (defScope S_count_right) := ⟨rfl, rfl, rfl, by decide +kernel, rfl, by decide +kernel, by decide +kernel⟩
theorem d_count_right (kw : Kw K mg) : DOk P w K mg base 6 "count_right" ["camera", "brightness"] p_count_right := by
  have nd := c_count_right.nd
  refine dok_mk 2 0 (kw.dd 19) (kw.glo 19) c_count_right rfl rfl (fun _ _ _ _ _ _ us hl => match us, hl with | [_, _], _ => rfl) fun cdv A outer s H E hr => ?_
  have hu := hu65 hr
  exact sc (ex (cl (d_check_both kw) hr (vc (nv 0) (vc (nv 1) (vn))))) (s1 (rt (bi .len hu (b_len kw) (uc (EV.x (cl (d_find_right kw) hr (vc (nv 0) (vc (nv 1) (vn))))) (un)))))
theorem c_find_numbers : FnScope ["camera", "found", "setting", "number"] ["camera"] (defScope S_find_numbers) := ⟨rfl, rfl, rfl, by decide +kernel, rfl, by decide +kernel, by decide +kernel⟩
theorem d_find_numbers (kw : Kw K mg) : DOk P w K mg base 3 "find_numbers" ["camera"] p_find_numbers := by
  have nd := c_find_numbers.nd
  refine dok_mk 1 3 (kw.dd 20) (kw.glo 20) c_find_numbers rfl rfl (fun _ _ _ _ _ _ us hl => match us, hl with | [_], _ => rfl) fun cdv A outer s H E hr => ?_
  have hu := hu65 hr
  exact sc (so 1 [] nd (fdk)) (sc (fr (isq (cl (d_all_settings kw) hr (vc (nv 0) (vn)))) (gt1 2 nd) (sc (st 3 [1] nd (cl (d_find_exposure kw) hr (vc (nv 2) (vn)))) (s1 (sput 1 hu (nx 3) (bn (EV.x (g2 hu (nx 1) (nx 3) (ki))) (EV.x (ki))))))) (s1 (sd [] (rt (nv 1)))))
theorem c_find_reach : FnScope ["camera", "known"] ["camera"] (defScope S_find_reach) := ⟨rfl, rfl, rfl, by decide +kernel, rfl, by decide +kernel, by decide +kernel⟩
theorem d_find_reach (kw : Kw K mg) : DOk P w K mg base 4 "find_reach" ["camera"] p_find_reach := by
  have nd := c_find_reach.nd
  refine dok_mk 1 1 (kw.dd 21) (kw.glo 21) c_find_reach rfl rfl (fun _ _ _ _ _ _ us hl => match us, hl with | [_], _ => rfl) fun cdv A outer s H E hr => ?_
  have hu := hu65 hr
  exact sc (st 1 [] nd (cl (d_find_numbers kw) hr (vc (nv 0) (vn)))) (s1 (rt (tu (vc (bi .min hu (b_min kw) (uc (nx 1) (un))) (vc (bi .max hu (b_max kw) (uc (nx 1) (un))) (vn))))))
theorem c_reach : FnScope ["camera"] ["camera"] (defScope S_reach) := ⟨rfl, rfl, rfl, by decide +kernel, rfl, by decide +kernel, by decide +kernel⟩
theorem d_reach (kw : Kw K mg) : DOk P w K mg base 5 "reach" ["camera"] p_reach := by
  have nd := c_reach.nd
  refine dok_mk 1 0 (kw.dd 22) (kw.glo 22) c_reach rfl rfl (fun _ _ _ _ _ _ us hl => match us, hl with | [_], _ => rfl) fun cdv A outer s H E hr => ?_
  have hu := hu65 hr
  exact sc (ex (cl (d_check_camera kw) hr (vc (nv 0) (vn)))) (s1 (rt (cl (d_find_reach kw) hr (vc (nv 0) (vn)))))
theorem c_reachable : FnScope ["camera"] ["camera"] (defScope S_reachable) := ⟨rfl, rfl, rfl, by decide +kernel, rfl, by decide +kernel, by decide +kernel⟩
theorem d_reachable (kw : Kw K mg) : DOk P w K mg base 5 "reachable" ["camera"] p_reachable := by
  have nd := c_reachable.nd
  refine dok_mk 1 0 (kw.dd 23) (kw.glo 23) c_reachable rfl rfl (fun _ _ _ _ _ _ us hl => match us, hl with | [_], _ => rfl) fun cdv A outer s H E hr => ?_
  have hu := hu65 hr
  exact sc (ex (cl (d_check_camera kw) hr (vc (nv 0) (vn)))) (s1 (rt (bi .sorted hu (b_sorted kw) (uc (EV.x (cl (d_find_numbers kw) hr (vc (nv 0) (vn)))) (un)))))
theorem c_commonest : FnScope ["camera", "known", "number"] ["camera"] (defScope S_commonest) := ⟨rfl, rfl, rfl, by decide +kernel, rfl, by decide +kernel, by decide +kernel⟩
theorem d_commonest (kw : Kw K mg) : DOk P w K mg base 5 "commonest" ["camera"] p_commonest := by
  have nd := c_commonest.nd
  refine dok_mk 1 2 (kw.dd 24) (kw.glo 24) c_commonest rfl rfl (fun _ _ _ _ _ _ us hl => match us, hl with | [_], _ => rfl) fun cdv A outer s H E hr => ?_
  have hu := hu65 hr
  exact sc (ex (cl (d_check_camera kw) hr (vc (nv 0) (vn)))) (sc (st 1 [] nd (cl (d_find_numbers kw) hr (vc (nv 0) (vn)))) (s1 (rt (ix hu (EV.x (bi .min hu (b_min kw) (uc (EV.x (lcd 1 [("number", 2)] nd (fun _ _ _ _ _ => gt1 2 nd) (fun _ _ _ _ _ => q0) (fun _ _ _ _ _ => tu (vc (bn (EV.x (ki)) (EV.x (ix hu (nx 1) (nx 2)))) (vc (nv 2) (vn)))))) (un)))) (EV.x (ki))))))
theorem c_gaps : FnScope ["camera", "known", "number"] ["camera"] (defScope S_gaps) := ⟨rfl, rfl, rfl, by decide +kernel, rfl, by decide +kernel, by decide +kernel⟩
theorem d_gaps (kw : Kw K mg) : DOk P w K mg base 5 "gaps" ["camera"] p_gaps := by
  have nd := c_gaps.nd
  refine dok_mk 1 2 (kw.dd 25) (kw.glo 25) c_gaps rfl rfl (fun _ _ _ _ _ _ us hl => match us, hl with | [_], _ => rfl) fun cdv A outer s H E hr => ?_
  have hu := hu65 hr
  exact sc (ex (cl (d_check_camera kw) hr (vc (nv 0) (vn)))) (sc (st 1 [] nd (cl (d_find_numbers kw) hr (vc (nv 0) (vn)))) (s1 (rt (lc [("number", 2)] nd (ir2 (b_range kw) (uc (EV.x (bi .min hu (b_min kw) (uc (nx 1) (un)))) (uc (EV.x (bi .max hu (b_max kw) (uc (nx 1) (un)))) (un)))) (fun _ _ _ _ _ => gt1 2 nd) (fun _ _ _ _ _ => q1 (tc hu (nx 2) (nx 1))) (fun _ _ _ _ _ => nv 2)))))
theorem c_find_size : FnScope ["known", "brightness", "number"] ["known", "brightness"] (defScope S_find_size) := ⟨rfl, rfl, rfl, by decide +kernel, rfl, by decide +kernel, by decide +kernel⟩
theorem d_find_size (kw : Kw K mg) : DOk P w K mg base 1 "find_size" ["known", "brightness"] p_find_size := by
  have nd := c_find_size.nd
  refine dok_mk 2 1 (kw.dd 26) (kw.glo 26) c_find_size rfl rfl (fun _ _ _ _ _ _ us hl => match us, hl with | [_, _], _ => rfl) fun cdv A outer s H E hr => ?_
  have hu := hu65 hr
  exact s1 (rt (bi .min hu (b_min kw) (uc (EV.x (lcd 0 [("number", 2)] nd (fun _ _ _ _ _ => gt1 2 nd) (fun _ _ _ _ _ => q0) (fun _ _ _ _ _ => bi .abs hu (b_abs kw) (uc (EV.x (bn (nx 2) (nx 1))) (un))))) (un))))
theorem c_least_error : FnScope ["camera", "brightness"] ["camera", "brightness"] (defScope S_least_error) := ⟨rfl, rfl, rfl, by decide +kernel, rfl, by decide +kernel, by decide +kernel⟩
theorem d_least_error (kw : Kw K mg) : DOk P w K mg base 6 "least_error" ["camera", "brightness"] p_least_error := by
  have nd := c_least_error.nd
  refine dok_mk 2 0 (kw.dd 27) (kw.glo 27) c_least_error rfl rfl (fun _ _ _ _ _ _ us hl => match us, hl with | [_, _], _ => rfl) fun cdv A outer s H E hr => ?_
  have hu := hu65 hr
  exact sc (ex (cl (d_check_both kw) hr (vc (nv 0) (vc (nv 1) (vn))))) (s1 (rt (cl (d_find_size kw) hr (vc (cl (d_find_numbers kw) hr (vc (nv 0) (vn))) (vc (nv 1) (vn))))))
theorem c_nearest_settings : FnScope ["camera", "brightness", "least", "setting"] ["camera", "brightness"] (defScope S_nearest_settings) := ⟨rfl, rfl, rfl, by decide +kernel, rfl, by decide +kernel, by decide +kernel⟩
theorem d_nearest_settings (kw : Kw K mg) : DOk P w K mg base 6 "nearest_settings" ["camera", "brightness"] p_nearest_settings := by
  have nd := c_nearest_settings.nd
  refine dok_mk 2 2 (kw.dd 28) (kw.glo 28) c_nearest_settings rfl rfl (fun _ _ _ _ _ _ us hl => match us, hl with | [_, _], _ => rfl) fun cdv A outer s H E hr => ?_
  have hu := hu65 hr
  exact sc (ex (cl (d_check_both kw) hr (vc (nv 0) (vc (nv 1) (vn))))) (sc (st 2 [] nd (cl (d_find_size kw) hr (vc (cl (d_find_numbers kw) hr (vc (nv 0) (vn))) (vc (nv 1) (vn))))) (s1 (rt (lc [("setting", 3)] nd (isq (cl (d_all_settings kw) hr (vc (nv 0) (vn)))) (fun _ _ _ _ _ => gt1 3 nd) (fun _ _ _ _ _ => q1 (tc hu (EV.x (bi .abs hu (b_abs kw) (uc (EV.x (bn (EV.x (cl (d_find_exposure kw) hr (vc (nv 3) (vn)))) (nx 1))) (un)))) (nx 2))) (fun _ _ _ _ _ => nv 3)))))
theorem c_worst_brightness : FnScope ["camera", "known", "least", "most", "number"] ["camera"] (defScope S_worst_brightness) := ⟨rfl, rfl, rfl, by decide +kernel, rfl, by decide +kernel, by decide +kernel⟩
theorem d_worst_brightness (kw : Kw K mg) : DOk P w K mg base 5 "worst_brightness" ["camera"] p_worst_brightness := by
  have nd := c_worst_brightness.nd
  refine dok_mk 1 4 (kw.dd 29) (kw.glo 29) c_worst_brightness rfl rfl (fun _ _ _ _ _ _ us hl => match us, hl with | [_], _ => rfl) fun cdv A outer s H E hr => ?_
  have hu := hu65 hr
  exact sc (ex (cl (d_check_camera kw) hr (vc (nv 0) (vn)))) (sc (st 1 [] nd (cl (d_find_numbers kw) hr (vc (nv 0) (vn)))) (sc (su [] (cl (d_find_reach kw) hr (vc (nv 0) (vn))) (gt (gc 2 nd (gc 3 nd (gn))))) (s1 (rt (ix hu (EV.x (bi .min hu (b_min kw) (uc (EV.x (lc [("number", 4)] nd (ir2 (b_range kw) (uc (nx 2) (uc (EV.x (bn (nx 3) (EV.x (ki)))) (un)))) (fun _ _ _ _ _ => gt1 4 nd) (fun _ _ _ _ _ => q0) (fun _ _ _ _ _ => tu (vc (bn (EV.x (ki)) (EV.x (cl (d_find_size kw) hr (vc (nv 1) (vc (nv 4) (vn)))))) (vc (nv 4) (vn)))))) (un)))) (EV.x (ki)))))))
theorem c_check_number : FnScope ["value", "most"] ["value", "most"] (defScope S_check_number) := ⟨rfl, rfl, rfl, by decide +kernel, rfl, by decide +kernel, by decide +kernel⟩
theorem d_check_number (kw : Kw K mg) : DOk P w K mg base 2 "check_number" ["value", "most"] p_check_number := by
  have nd := c_check_number.nd
  refine dok_mk 2 0 (kw.dd 30) (kw.glo 30) c_check_number rfl rfl (fun _ _ _ _ _ _ us hl => match us, hl with | [_, _], _ => rfl) fun cdv A outer s H E hr => ?_
  have hu := hu65 hr
  exact s1 (sif (tn (tv (cl (d_is_int kw) hr (vc (nv 0) (vc (ki) (vc (nv 1) (vn))))))) (s1 (rs (x_InvalidNumber kw))) (s0))
theorem c_with_error : FnScope ["setting", "place", "number", "changed"] ["setting", "place", "number"] (defScope S_with_error) := ⟨rfl, rfl, rfl, by decide +kernel, rfl, by decide +kernel, by decide +kernel⟩
theorem d_with_error (kw : Kw K mg) : DOk P w K mg base 1 "with_error" ["setting", "place", "number"] p_with_error := by
  have nd := c_with_error.nd
  refine dok_mk 3 1 (kw.dd 31) (kw.glo 31) c_with_error rfl rfl (fun _ _ _ _ _ _ us hl => match us, hl with | [_, _, _], _ => rfl) fun cdv A outer s H E hr => ?_
  have hu := hu65 hr
  exact sc (st 3 [] nd (bn (EV.x (ix hu (nx 0) (nx 1))) (EV.x (bn (EV.x (ix hu (EV.x (gk (m_SIGNS kw) (k_SIGNS_ok kw))) (nx 1))) (nx 2))))) (s1 (rt (bn (EV.x (bn (EV.x (sl (nx 0) o0 (o1 (nx 1)))) (EV.x (tu (vc (nv 3) (vn)))))) (EV.x (sl (nx 0) (o1 (EV.x (bn (nx 1) (EV.x (ki))))) o0)))))
theorem c_find_bracket : FnScope ["camera", "setting", "place", "many", "width", "found", "known", "number", "other"] ["camera", "setting", "place", "many", "width"] (defScope S_find_bracket) := ⟨rfl, rfl, rfl, by decide +kernel, rfl, by decide +kernel, by decide +kernel⟩
theorem d_find_bracket (kw : Kw K mg) : DOk P w K mg base 2 "find_bracket" ["camera", "setting", "place", "many", "width"] p_find_bracket := by
  have nd := c_find_bracket.nd
  refine dok_mk 5 4 (kw.dd 32) (kw.glo 32) c_find_bracket rfl rfl (fun _ _ _ _ _ _ us hl => match us, hl with | [_, _, _, _, _], _ => rfl) fun cdv A outer s H E hr => ?_
  have hu := hu65 hr
  exact sc (slc 5 [("number", 7)] [] nd (ir2 (b_range kw) (uc (EV.x (bn (EV.x (ki)) (nx 3))) (uc (EV.x (bn (nx 3) (EV.x (ki)))) (un)))) (fun _ _ _ _ _ => gt1 7 nd) (fun _ _ _ _ _ => q0) (fun _ _ _ _ _ => cl (d_with_error kw) hr (vc (nv 1) (vc (nv 2) (vc (bn (nx 4) (nx 7)) (vn)))))) (sc (st 6 [] nd (cl (d_wheel_values kw) hr (vc (ix hu (nx 0) (nx 2)) (vn)))) (s1 (rt (fi' (tv (bi .all hu (b_all kw) (uc (EV.x (lc [("other", 8)] nd (isq (nv 5)) (fun _ _ _ _ _ => gt1 8 nd) (fun _ _ _ _ _ => q0) (fun _ _ _ _ _ => cm hu (EV.x (ix hu (nx 8) (nx 2))) (nx 6)))) (un)))) (nv 5) (kn)))))
theorem c_check_three : FnScope ["camera", "setting", "many"] ["camera", "setting", "many"] (defScope S_check_three) := ⟨rfl, rfl, rfl, by decide +kernel, rfl, by decide +kernel, by decide +kernel⟩
theorem d_check_three (kw : Kw K mg) : DOk P w K mg base 5 "check_three" ["camera", "setting", "many"] p_check_three_k20 := by
  have nd := c_check_three.nd
  refine dok_mk 3 0 (kw.dd 33) (kw.glo 33) c_check_three rfl rfl (fun _ _ _ _ _ _ us hl => match us, hl with | [_, _, _], _ => rfl) fun cdv A outer s H E hr => ?_
  have hu := hu65 hr
  exact sc (ex (cl (d_check_camera kw) hr (vc (nv 0) (vn)))) (sc (ex (cl (d_check_setting kw) hr (vc (nv 0) (vc (nv 1) (vn))))) (s1 (ex (cl (d_check_number kw) hr (vc (nv 2) (vc (gi (i_MAX_MANY kw)) (vn)))))))
theorem c_bracket : FnScope ["camera", "setting", "wheel", "many", "width", "place"] ["camera", "setting", "wheel", "many", "width"] (defScope S_bracket) := ⟨rfl, rfl, rfl, by decide +kernel, rfl, by decide +kernel, by decide +kernel⟩
theorem d_bracket (kw : Kw K mg) : DOk P w K mg base 5 "bracket" ["camera", "setting", "wheel", "many", "width"] p_bracket := by
  have nd := c_bracket.nd
  refine dok_mk 5 1 (kw.dd 34) (kw.glo 34) c_bracket rfl rfl (fun _ _ _ _ _ _ us hl => match us, hl with | [_, _, _, _, _], _ => rfl) fun cdv A outer s H E hr => ?_
  have hu := hu65 hr
  exact sc (ex (cl (d_check_camera kw) hr (vc (nv 0) (vn)))) (sc (ex (cl (d_check_setting kw) hr (vc (nv 0) (vc (nv 1) (vn))))) (sc (st 5 [] nd (cl (d_find_wheel kw) hr (vc (nv 2) (vn)))) (sc (ex (cl (d_check_number kw) hr (vc (nv 3) (vc (gi (i_MAX_MANY kw)) (vn))))) (sc (ex (cl (d_check_number kw) hr (vc (nv 4) (vc (gi (i_MAX_WIDTH kw)) (vn))))) (s1 (rt (cl (d_find_bracket kw) hr (vc (nv 0) (vc (nv 1) (vc (nv 5) (vc (nv 3) (vc (nv 4) (vn)))))))))))))
theorem c_wheels_for : FnScope ["camera", "setting", "many", "width", "places", "place"] ["camera", "setting", "many", "width"] (defScope S_wheels_for) := ⟨rfl, rfl, rfl, by decide +kernel, rfl, by decide +kernel, by decide +kernel⟩
theorem d_wheels_for (kw : Kw K mg) : DOk P w K mg base 6 "wheels_for" ["camera", "setting", "many", "width"] p_wheels_for := by
  have nd := c_wheels_for.nd
  refine dok_mk 4 2 (kw.dd 35) (kw.glo 35) c_wheels_for rfl rfl (fun _ _ _ _ _ _ us hl => match us, hl with | [_, _, _, _], _ => rfl) fun cdv A outer s H E hr => ?_
  have hu := hu65 hr
  exact sc (ex (cl (d_check_three kw) hr (vc (nv 0) (vc (nv 1) (vc (nv 2) (vn)))))) (sc (ex (cl (d_check_number kw) hr (vc (nv 3) (vc (gi (i_MAX_WIDTH kw)) (vn))))) (sc (slc 4 [("place", 5)] [] nd (ir1 (b_range kw) (uc (EV.x (bi .len hu (b_len kw) (uc (EV.x (gk (m_NAMES kw) (k_NAMES_ok kw))) (un)))) (un))) (fun _ _ _ _ _ => gt1 5 nd) (fun _ _ _ _ _ => q1 (tc hu (EV.x (cl (d_find_bracket kw) hr (vc (nv 0) (vc (nv 1) (vc (nv 5) (vc (nv 2) (vc (nv 3) (vn)))))))) (EV.x (kn)))) (fun _ _ _ _ _ => nv 5)) (s1 (rt (lc [("place", 5)] nd (isq (nv 4)) (fun _ _ _ _ _ => gt1 5 nd) (fun _ _ _ _ _ => q0) (fun _ _ _ _ _ => ix hu (EV.x (gk (m_NAMES kw) (k_NAMES_ok kw))) (nx 5)))))))
theorem c_widest : FnScope ["camera", "setting", "wheel", "many", "place", "widths", "width"] ["camera", "setting", "wheel", "many"] (defScope S_widest) := ⟨rfl, rfl, rfl, by decide +kernel, rfl, by decide +kernel, by decide +kernel⟩
theorem d_widest (kw : Kw K mg) : DOk P w K mg base 5 "widest" ["camera", "setting", "wheel", "many"] p_widest := by
  have nd := c_widest.nd
  refine dok_mk 4 3 (kw.dd 36) (kw.glo 36) c_widest rfl rfl (fun _ _ _ _ _ _ us hl => match us, hl with | [_, _, _, _], _ => rfl) fun cdv A outer s H E hr => ?_
  have hu := hu65 hr
  exact sc (ex (cl (d_check_camera kw) hr (vc (nv 0) (vn)))) (sc (ex (cl (d_check_setting kw) hr (vc (nv 0) (vc (nv 1) (vn))))) (sc (st 4 [] nd (cl (d_find_wheel kw) hr (vc (nv 2) (vn)))) (sc (ex (cl (d_check_number kw) hr (vc (nv 3) (vc (gi (i_MAX_MANY kw)) (vn))))) (sc (st 5 [] nd (lr2 (b_list kw) (b_range kw) (EV.x (ki)) (EV.x (bn (EV.x (gi (i_MAX_WIDTH kw))) (EV.x (ki)))))) (s1 (rt (bi .max hu (b_max kw) (uc (EV.x (bn (EV.x (lc [("width", 6)] nd (isq (nv 5)) (fun _ _ _ _ _ => gt1 6 nd) (fun _ _ _ _ _ => q1 (tc hu (EV.x (cl (d_find_bracket kw) hr (vc (nv 0) (vc (nv 1) (vc (nv 4) (vc (nv 3) (vc (nv 6) (vn)))))))) (EV.x (kn)))) (fun _ _ _ _ _ => nv 6))) (EV.x (ls (vc (ki) (vn)))))) (un)))))))))
theorem c_count_clicks : FnScope ["camera", "one", "other", "found", "wheel", "left", "right"] ["camera", "one", "other"] (defScope S_count_clicks) := ⟨rfl, rfl, rfl, by decide +kernel, rfl, by decide +kernel, by decide +kernel⟩
theorem d_count_clicks (kw : Kw K mg) : DOk P w K mg base 1 "count_clicks" ["camera", "one", "other"] p_count_clicks := by
  have nd := c_count_clicks.nd
  refine dok_mk 3 4 (kw.dd 37) (kw.glo 37) c_count_clicks rfl rfl (fun _ _ _ _ _ _ us hl => match us, hl with | [_, _, _], _ => rfl) fun cdv A outer s H E hr => ?_
  have hu := hu65 hr
  exact sc (st 3 [] nd (ki)) (sc (fr (iz3 (b_zip kw) (vc (nv 0) (vc (nv 1) (vc (nv 2) (vn))))) (gt (gc 4 nd (gc 5 nd (gc 6 nd (gn))))) (s1 (st 3 [] nd (bn (nx 3) (EV.x (bn (EV.x (bi .abs hu (b_abs kw) (uc (EV.x (bn (nx 5) (nx 6))) (un)))) (EV.x (ix hu (nx 4) (EV.x (ki)))))))))) (s1 (rt (nv 3))))
theorem c_clicks : FnScope ["camera", "one", "other"] ["camera", "one", "other"] (defScope S_clicks) := ⟨rfl, rfl, rfl, by decide +kernel, rfl, by decide +kernel, by decide +kernel⟩
theorem d_clicks (kw : Kw K mg) : DOk P w K mg base 5 "clicks" ["camera", "one", "other"] p_clicks := by
  have nd := c_clicks.nd
  refine dok_mk 3 0 (kw.dd 38) (kw.glo 38) c_clicks rfl rfl (fun _ _ _ _ _ _ us hl => match us, hl with | [_, _, _], _ => rfl) fun cdv A outer s H E hr => ?_
  have hu := hu65 hr
  exact sc (ex (cl (d_check_camera kw) hr (vc (nv 0) (vn)))) (sc (ex (cl (d_check_setting kw) hr (vc (nv 0) (vc (nv 1) (vn))))) (sc (ex (cl (d_check_setting kw) hr (vc (nv 0) (vc (nv 2) (vn))))) (s1 (rt (cl (d_count_clicks kw) hr (vc (nv 0) (vc (nv 1) (vc (nv 2) (vn)))))))))
theorem c_find_nearest : FnScope ["camera", "setting", "brightness", "found", "other"] ["camera", "setting", "brightness"] (defScope S_find_nearest) := ⟨rfl, rfl, rfl, by decide +kernel, rfl, by decide +kernel, by decide +kernel⟩
theorem d_find_nearest (kw : Kw K mg) : DOk P w K mg base 5 "find_nearest" ["camera", "setting", "brightness"] p_find_nearest := by
  have nd := c_find_nearest.nd
  refine dok_mk 3 2 (kw.dd 39) (kw.glo 39) c_find_nearest rfl rfl (fun _ _ _ _ _ _ us hl => match us, hl with | [_, _, _], _ => rfl) fun cdv A outer s H E hr => ?_
  have hu := hu65 hr
  exact sc (ex (cl (d_check_camera kw) hr (vc (nv 0) (vn)))) (sc (ex (cl (d_check_setting kw) hr (vc (nv 0) (vc (nv 1) (vn))))) (sc (ex (cl (d_check_light kw) hr (vc (nv 2) (vn)))) (sc (slc 3 [("other", 4)] [] nd (isq (cl (d_find_right kw) hr (vc (nv 0) (vc (nv 2) (vn))))) (fun _ _ _ _ _ => gt1 4 nd) (fun _ _ _ _ _ => q0) (fun _ _ _ _ _ => tu (vc (cl (d_count_clicks kw) hr (vc (nv 0) (vc (nv 1) (vc (nv 4) (vn))))) (vc (nv 4) (vn))))) (s1 (rt (fi' (tc hu (nx 3) (EV.x (ls (vn)))) (bi .min hu (b_min kw) (uc (nx 3) (un))) (kn)))))))
theorem c_fewest_clicks : FnScope ["camera", "setting", "brightness", "found"] ["camera", "setting", "brightness"] (defScope S_fewest_clicks) := ⟨rfl, rfl, rfl, by decide +kernel, rfl, by decide +kernel, by decide +kernel⟩
theorem d_fewest_clicks (kw : Kw K mg) : DOk P w K mg base 6 "fewest_clicks" ["camera", "setting", "brightness"] p_fewest_clicks := by
  have nd := c_fewest_clicks.nd
  refine dok_mk 3 1 (kw.dd 40) (kw.glo 40) c_fewest_clicks rfl rfl (fun _ _ _ _ _ _ us hl => match us, hl with | [_, _, _], _ => rfl) fun cdv A outer s H E hr => ?_
  have hu := hu65 hr
  exact sc (st 3 [] nd (cl (d_find_nearest kw) hr (vc (nv 0) (vc (nv 1) (vc (nv 2) (vn)))))) (s1 (rt (fi' (tc hu (nx 3) (EV.x (kn))) (ix hu (nx 3) (EV.x (ki))) (kn))))
theorem c_nearest_right : FnScope ["camera", "setting", "brightness", "found"] ["camera", "setting", "brightness"] (defScope S_nearest_right) := ⟨rfl, rfl, rfl, by decide +kernel, rfl, by decide +kernel, by decide +kernel⟩
theorem d_nearest_right (kw : Kw K mg) : DOk P w K mg base 6 "nearest_right" ["camera", "setting", "brightness"] p_nearest_right := by
  have nd := c_nearest_right.nd
  refine dok_mk 3 1 (kw.dd 41) (kw.glo 41) c_nearest_right rfl rfl (fun _ _ _ _ _ _ us hl => match us, hl with | [_, _, _], _ => rfl) fun cdv A outer s H E hr => ?_
  have hu := hu65 hr
  exact sc (st 3 [] nd (cl (d_find_nearest kw) hr (vc (nv 0) (vc (nv 1) (vc (nv 2) (vn)))))) (s1 (rt (fi' (tc hu (nx 3) (EV.x (kn))) (ix hu (nx 3) (EV.x (ki))) (kn))))
theorem c_farthest : FnScope ["camera", "brightness", "known", "best", "found", "one", "other", "many"] ["camera", "brightness"] (defScope S_farthest) := ⟨rfl, rfl, rfl, by decide +kernel, rfl, by decide +kernel, by decide +kernel⟩
theorem d_farthest (kw : Kw K mg) : DOk P w K mg base 6 "farthest" ["camera", "brightness"] p_farthest := by
  have nd := c_farthest.nd
  refine dok_mk 2 6 (kw.dd 42) (kw.glo 42) c_farthest rfl rfl (fun _ _ _ _ _ _ us hl => match us, hl with | [_, _], _ => rfl) fun cdv A outer s H E hr => ?_
  have hu := hu65 hr
  exact sc (ex (cl (d_check_both kw) hr (vc (nv 0) (vc (nv 1) (vn))))) (sc (sp3 2 3 4 [] nd (vc (cl (d_find_right kw) hr (vc (nv 0) (vc (nv 1) (vn)))) (vc (ng (EV.x (ki))) (vc (kn) (vn))))) (sc (fr (isq (nv 2)) (gt1 5 nd) (s1 (fr (isq (nv 2)) (gt1 6 nd) (sc (st 7 [] nd (cl (d_count_clicks kw) hr (vc (nv 0) (vc (nv 5) (vc (nv 6) (vn)))))) (s1 (sif (tc hu (nx 7) (nx 3)) (s1 (sp 3 4 [] nd (vc (nv 7) (vc (tu (vc (nv 5) (vc (nv 6) (vn)))) (vn))))) (s0))))))) (s1 (rt (nv 4)))))
theorem c_count_changed : FnScope ["one", "other", "left", "right"] ["one", "other"] (defScope S_count_changed) := ⟨rfl, rfl, rfl, by decide +kernel, rfl, by decide +kernel, by decide +kernel⟩
theorem d_count_changed (kw : Kw K mg) : DOk P w K mg base 1 "count_changed" ["one", "other"] p_count_changed := by
  have nd := c_count_changed.nd
  refine dok_mk 2 2 (kw.dd 43) (kw.glo 43) c_count_changed rfl rfl (fun _ _ _ _ _ _ us hl => match us, hl with | [_, _], _ => rfl) fun cdv A outer s H E hr => ?_
  have hu := hu65 hr
  exact s1 (rt (bi .len hu (b_len kw) (uc (EV.x (lc [("left", 2), ("right", 3)] nd (izp (b_zip kw) (vc (nv 0) (vc (nv 1) (vn)))) (fun _ _ _ _ _ => gt (gc 2 nd (gc 3 nd (gn)))) (fun _ _ _ _ _ => q1 (tc hu (nx 2) (nx 3))) (fun _ _ _ _ _ => ki))) (un))))
theorem c_find_shifts : FnScope ["known", "setting", "other"] ["known", "setting"] (defScope S_find_shifts) := ⟨rfl, rfl, rfl, by decide +kernel, rfl, by decide +kernel, by decide +kernel⟩
theorem d_find_shifts (kw : Kw K mg) : DOk P w K mg base 2 "find_shifts" ["known", "setting"] p_find_shifts := by
  have nd := c_find_shifts.nd
  refine dok_mk 2 1 (kw.dd 44) (kw.glo 44) c_find_shifts rfl rfl (fun _ _ _ _ _ _ us hl => match us, hl with | [_, _], _ => rfl) fun cdv A outer s H E hr => ?_
  have hu := hu65 hr
  exact s1 (rt (lc [("other", 2)] nd (isq (nv 0)) (fun _ _ _ _ _ => gt1 2 nd) (fun _ _ _ _ _ => q1 (tc hu (EV.x (cl (d_count_changed kw) hr (vc (nv 1) (vc (nv 2) (vn))))) (EV.x (ki)))) (fun _ _ _ _ _ => nv 2)))
theorem c_shifts : FnScope ["camera", "setting"] ["camera", "setting"] (defScope S_shifts) := ⟨rfl, rfl, rfl, by decide +kernel, rfl, by decide +kernel, by decide +kernel⟩
theorem d_shifts (kw : Kw K mg) : DOk P w K mg base 5 "shifts" ["camera", "setting"] p_shifts := by
  have nd := c_shifts.nd
  refine dok_mk 2 0 (kw.dd 45) (kw.glo 45) c_shifts rfl rfl (fun _ _ _ _ _ _ us hl => match us, hl with | [_, _], _ => rfl) fun cdv A outer s H E hr => ?_
  have hu := hu65 hr
  exact sc (ex (cl (d_check_camera kw) hr (vc (nv 0) (vn)))) (sc (ex (cl (d_check_setting kw) hr (vc (nv 0) (vc (nv 1) (vn))))) (s1 (rt (cl (d_find_shifts kw) hr (vc (cl (d_find_right kw) hr (vc (nv 0) (vc (cl (d_find_exposure kw) hr (vc (nv 1) (vn))) (vn)))) (vc (nv 1) (vn)))))))
theorem c_spread : FnScope ["known", "start", "found", "last", "later", "setting", "other"] ["known", "start"] (defScope S_spread) := ⟨rfl, rfl, rfl, by decide +kernel, rfl, by decide +kernel, by decide +kernel⟩
theorem d_spread (kw : Kw K mg) : DOk P w K mg base 3 "spread" ["known", "start"] p_spread := by
  have nd := c_spread.nd
  refine dok_mk 2 5 (kw.dd 46) (kw.glo 46) c_spread rfl rfl (fun _ _ _ _ _ _ us hl => match us, hl with | [_, _], _ => rfl) fun cdv A outer s H E hr => ?_
  have hu := hu65 hr
  exact sc (spo 2 3 [] [true, false] nd (mzO (fd1 hu (nv 1) (ki)) (mzV (ls (vc (nv 1) (vn))) (mzN)))) (sc (wh (tc hu (nx 3) (EV.x (ls (vn)))) (sc (so 4 [2] nd (fls (vn))) (sc (fr (isq (nv 3)) (gt1 5 nd) (s1 (fr (isq (cl (d_find_shifts kw) hr (vc (nv 0) (vc (nv 5) (vn))))) (gt1 6 nd) (s1 (sif (tc hu (nx 6) (nx 2)) (sc (sput 2 hu (nx 6) (bn (EV.x (ix hu (nx 2) (nx 5))) (EV.x (ki)))) (s1 (sa 4 (nv 6)))) (s0)))))) (s1 (sd [2] (st 3 [2] nd (nv 4))))))) (s1 (sd [] (rt (nv 2)))))
theorem c_fewest_shifts : FnScope ["camera", "one", "other"] ["camera", "one", "other"] (defScope S_fewest_shifts) := ⟨rfl, rfl, rfl, by decide +kernel, rfl, by decide +kernel, by decide +kernel⟩
theorem d_fewest_shifts (kw : Kw K mg) : DOk P w K mg base 5 "fewest_shifts" ["camera", "one", "other"] p_fewest_shifts := by
  have nd := c_fewest_shifts.nd
  refine dok_mk 3 0 (kw.dd 47) (kw.glo 47) c_fewest_shifts rfl rfl (fun _ _ _ _ _ _ us hl => match us, hl with | [_, _, _], _ => rfl) fun cdv A outer s H E hr => ?_
  have hu := hu65 hr
  exact sc (ex (cl (d_check_camera kw) hr (vc (nv 0) (vn)))) (sc (ex (cl (d_check_setting kw) hr (vc (nv 0) (vc (nv 1) (vn))))) (sc (ex (cl (d_check_setting kw) hr (vc (nv 0) (vc (nv 2) (vn))))) (s1 (rt (g1 hu (EV.x (cl (d_spread kw) hr (vc (cl (d_find_right kw) hr (vc (nv 0) (vc (cl (d_find_exposure kw) hr (vc (nv 1) (vn))) (vn)))) (vc (nv 1) (vn))))) (nx 2))))))
theorem c_shift_groups : FnScope ["camera", "brightness", "known", "found", "seen", "setting", "group", "other"] ["camera", "brightness"] (defScope S_shift_groups) := ⟨rfl, rfl, rfl, by decide +kernel, rfl, by decide +kernel, by decide +kernel⟩
theorem d_shift_groups (kw : Kw K mg) : DOk P w K mg base 6 "shift_groups" ["camera", "brightness"] p_shift_groups := by
  have nd := c_shift_groups.nd
  refine dok_mk 2 6 (kw.dd 48) (kw.glo 48) c_shift_groups rfl rfl (fun _ _ _ _ _ _ us hl => match us, hl with | [_, _], _ => rfl) fun cdv A outer s H E hr => ?_
  have hu := hu65 hr
  exact sc (ex (cl (d_check_both kw) hr (vc (nv 0) (vc (nv 1) (vn))))) (sc (spo3 2 3 4 [] [false, true, true] nd (mzV (cl (d_find_right kw) hr (vc (nv 0) (vc (nv 1) (vn)))) (mzO (fls (vn)) (mzO (fdt) (mzN))))) (sc (fr (isq (nv 2)) (gt1 5 nd) (s1 (sif (tc hu (nx 5) (nx 4)) (sc (st 6 [4, 3] nd (cl (d_spread kw) hr (vc (nv 2) (vc (nv 5) (vn))))) (sc (sa 3 (bi .tuple hu (b_tuple kw) (uc (EV.x (bi .sorted hu (b_sorted kw) (uc (nx 6) (un)))) (un)))) (s1 (frd 6 (gt1 7 nd) (s1 (sput 4 hu (nx 7) (kb))))))) (s0)))) (s1 (rt (bi .sorted hu (b_sorted kw) (uc (nx 3) (un)))))))
theorem c__law_pick : FnScope ["_law_script", "_law_k", "_law_many", "_law_cell", "_law_rest", "_law_again", "_law_drawn"] ["_law_script", "_law_k", "_law_many"] (defScope S__law_pick) := ⟨rfl, rfl, rfl, by decide +kernel, rfl, by decide +kernel, by decide +kernel⟩
theorem d__law_pick (kw : Kw K mg) : DOk P w K mg base 1 "_law_pick" ["_law_script", "_law_k", "_law_many"] p__law_pick := by
  have nd := c__law_pick.nd
  refine dok_mk 3 4 (kw.dd 49) (kw.glo 49) c__law_pick rfl rfl (fun _ _ _ _ _ _ us hl => match us, hl with | [_, _, _], _ => rfl) fun cdv A outer s H E hr => ?_
  have hu := hu65 hr
  exact sc (st 3 [] nd (fi' (tc hu (nx 0) (EV.x (ls (vn)))) (ix hu (nx 0) (EV.x (bn (nx 1) (EV.x (bi .len hu (b_len kw) (uc (nx 0) (un))))))) (ki))) (sc (sp 4 5 [] nd (vc (bn (nx 3) (EV.x (bn (EV.x (ki)) (EV.x (ki))))) (vc (bn (nx 1) (EV.x (bi .max hu (b_max kw) (uc (EV.x (bi .len hu (b_len kw) (uc (nx 0) (un)))) (uc (EV.x (ki)) (un)))))) (vn)))) (sc (wh (tp (ta (tc hu (nx 4) (EV.x (ki))) (t1 (tc hu (nx 5) (EV.x (ki)))))) (s1 (sp 4 5 [] nd (vc (bn (nx 4) (EV.x (ki))) (vc (bn (nx 5) (EV.x (ki))) (vn)))))) (sc (sif (tc hu (nx 4) (EV.x (ki))) (s1 (rt (bn (EV.x (bn (nx 4) (EV.x (ki)))) (nx 2)))) (s0)) (sc (st 6 [] nd (bn (EV.x (bn (EV.x (bn (EV.x (bn (nx 3) (EV.x (ki)))) (EV.x (bn (EV.x (ki)) (EV.x (bn (nx 1) (EV.x (ki)))))))) (EV.x (ki)))) (EV.x (ki)))) (s1 (rt (bn (EV.x (bn (EV.x (bn (EV.x (bn (nx 6) (nx 6))) (EV.x (bn (nx 6) (EV.x (ki)))))) (EV.x (ki)))) (nx 2))))))))
theorem c__law_box : FnScope ["_law_script", "_law_at", "_law_most", "_law_found", "_law_k", "_law_least", "_law_step", "_law_many", "_law_rest"] ["_law_script", "_law_at", "_law_most"] (defScope S__law_box) := ⟨rfl, rfl, rfl, by decide +kernel, rfl, by decide +kernel, by decide +kernel⟩
theorem d__law_box (kw : Kw K mg) : DOk P w K mg base 2 "_law_box" ["_law_script", "_law_at", "_law_most"] p__law_box := by
  have nd := c__law_box.nd
  refine dok_mk 3 6 (kw.dd 50) (kw.glo 50) c__law_box rfl rfl (fun _ _ _ _ _ _ us hl => match us, hl with | [_, _, _], _ => rfl) fun cdv A outer s H E hr => ?_
  have hu := hu65 hr
  exact sc (so 3 [] nd (fls (vn))) (sc (fr (ir1 (b_range kw) (uc (EV.x (ki)) (un))) (gt1 4 nd) (sc (sp 5 6 [3] nd (vc (cl (d__law_pick kw) hr (vc (nv 0) (vc (bn (nx 1) (EV.x (bn (EV.x (ki)) (nx 4)))) (vc (ki) (vn))))) (vc (bn (EV.x (ki)) (EV.x (cl (d__law_pick kw) hr (vc (nv 0) (vc (bn (EV.x (bn (nx 1) (EV.x (bn (EV.x (ki)) (nx 4))))) (EV.x (ki))) (vc (ki) (vn))))))) (vn)))) (sc (st 7 [3] nd (cl (d__law_pick kw) hr (vc (nv 0) (vc (bn (EV.x (bn (nx 1) (EV.x (bn (EV.x (ki)) (nx 4))))) (EV.x (ki))) (vc (nv 2) (vn)))))) (sc (st 8 [3] nd (cl (d__law_pick kw) hr (vc (nv 0) (vc (bn (EV.x (bn (nx 1) (EV.x (bn (EV.x (ki)) (nx 4))))) (EV.x (ki))) (vc (nv 6) (vn)))))) (s1 (sa 3 (tu (vc (nv 5) (vc (bn (EV.x (bn (nx 5) (EV.x (bn (nx 6) (nx 7))))) (nx 8)) (vc (nv 6) (vn))))))))))) (s1 (rt (bi .tuple hu (b_tuple kw) (uc (nx 3) (un))))))
theorem c__law_every : FnScope ["_law_box_here", "_law_found", "_law_least", "_law_most", "_law_step", "_law_longer", "_law_begun", "_law_k"] ["_law_box_here"] (defScope S__law_every) := ⟨rfl, rfl, rfl, by decide +kernel, rfl, by decide +kernel, by decide +kernel⟩
theorem d__law_every (kw : Kw K mg) : DOk P w K mg base 1 "_law_every" ["_law_box_here"] p__law_every := by
  have nd := c__law_every.nd
  refine dok_mk 1 7 (kw.dd 51) (kw.glo 51) c__law_every rfl rfl (fun _ _ _ _ _ _ us hl => match us, hl with | [_], _ => rfl) fun cdv A outer s H E hr => ?_
  have hu := hu65 hr
  exact sc (st 1 [] nd (ls (vc (tu (vn)) (vn)))) (sc (fr (isq (nv 0)) (gt (gc 2 nd (gc 3 nd (gc 4 nd (gn))))) (sc (so 5 [] nd (fls (vn))) (sc (fr (isq (nv 1)) (gt1 6 nd) (s1 (sx 5 (lc [("_law_k", 7)] nd (ir1 (b_range kw) (uc (EV.x (bn (EV.x (bn (nx 3) (nx 2))) (EV.x (ki)))) (un))) (fun _ _ _ _ _ => gt1 7 nd) (fun _ _ _ _ _ => q1 (tc hu (EV.x (bn (nx 7) (nx 4))) (EV.x (ki)))) (fun _ _ _ _ _ => bn (nx 6) (EV.x (tu (vc (bn (nx 2) (nx 7)) (vn))))))))) (s1 (sd [] (st 1 [] nd (nv 5))))))) (s1 (rt (nv 1))))
theorem g__law_class (kw : Kw K mg) : mg "_law_class" = some (.ref (He.ga K "_law_class")) := kw.glo 94
theorem fu__law_class (kw : Kw K mg) : ∃ fd, FunD K "_law_class" "_law_class" (defArgs S__law_class) (defBody S__law_class) (defScope S__law_class) [] [] (He.ga K "_law_class") fd := kw.dd 52
theorem g__law_result (kw : Kw K mg) : mg "_law_result" = some (.ref (He.ga K "_law_result")) := kw.glo 95
theorem fu__law_result (kw : Kw K mg) : ∃ fd, FunD K "_law_result" "_law_result" (defArgs S__law_result) (defBody S__law_result) (defScope S__law_result) [] [] (He.ga K "_law_result") fd := kw.dd 53
theorem g__law_all (kw : Kw K mg) : mg "_law_all" = some (.ref (He.ga K "_law_all")) := kw.glo 96
theorem fu__law_all (kw : Kw K mg) : ∃ fd, FunD K "_law_all" "_law_all" (defArgs S__law_all) (defBody S__law_all) (defScope S__law_all) [] [] (He.ga K "_law_all") fd := kw.dd 54
theorem g__law_cameras (kw : Kw K mg) : mg "_law_cameras" = some (.ref (He.ga K "_law_cameras")) := kw.glo 97
theorem fu__law_cameras (kw : Kw K mg) : ∃ fd, FunD K "_law_cameras" "_law_cameras" (defArgs S__law_cameras) (defBody S__law_cameras) (defScope S__law_cameras) [] [] (He.ga K "_law_cameras") fd := kw.dd 55
theorem g__law_set (kw : Kw K mg) : mg "_law_set" = some (.ref (He.ga K "_law_set")) := kw.glo 98
theorem fu__law_set (kw : Kw K mg) : ∃ fd, FunD K "_law_set" "_law_set" (defArgs S__law_set) (defBody S__law_set) (defScope S__law_set) [] [] (He.ga K "_law_set") fd := kw.dd 56
theorem g__law_lit (kw : Kw K mg) : mg "_law_lit" = some (.ref (He.ga K "_law_lit")) := kw.glo 99
theorem fu__law_lit (kw : Kw K mg) : ∃ fd, FunD K "_law_lit" "_law_lit" (defArgs S__law_lit) (defBody S__law_lit) (defScope S__law_lit) [] [] (He.ga K "_law_lit") fd := kw.dd 57
theorem g_law (kw : Kw K mg) : mg "law" = some (.ref (He.ga K "law")) := kw.glo 100
theorem fu_law (kw : Kw K mg) : ∃ fd, FunD K "law" "law" (defArgs S_law) (defBody S_law) (defScope S_law) [] [] (He.ga K "law") fd := kw.dd 58
end
end Bv.K26
set_option Elab.async false
set_option linter.all false
set_option maxRecDepth 100000
set_option maxHeartbeats 1000000
namespace Bv.K26
open PySem PySem.Spec L2 Bv
section
variable {P : Program} {w : World} {K : PySem.W.Frag} {mg : Str → Option Value} {base : Heap}
theorem k_kitV (kw : Kw K mg) : kitVB K excs_k26 = true := (He.ba (He.ba kw.e).1).2
noncomputable def f_class (a : Addr) (c : Str) : FS := sC (sSet 1 (xLst (aC (xIsE 0 a (eqB c "InvalidCamera")) (aC (xIsE 0 a (eqB c "InvalidSetting")) (aN))))) (sC (sExt 1 (xLst (aC (xIsE 0 a (eqB c "InvalidWheel")) (aC (xIsE 0 a (eqB c "InvalidBrightness")) (aN))))) (sC (sExt 1 (xLst (aC (xIsE 0 a (eqB c "InvalidNumber")) (aN)))) (sC (sIf (tOr (tV (xCmp .NotEq (xMt .lcount (xV 1) (aC (xK (.bool true)) (aN))) (xK (.int 1)))) (tNot (tV (xIsE 0 a true)))) (sRet (xK (.str "wrong"))) (sN)) (sC (sSet 2 (xLst (aC (xK (.str "InvalidCamera")) (aC (xK (.str "InvalidSetting")) (aC (xK (.str "InvalidWheel")) (aC (xK (.str "InvalidBrightness")) (aC (xK (.str "InvalidNumber")) (aN)))))))) (sRet (xIdx (xV 2) (xMt .lindex (xV 1) (aC (xK (.bool true)) (aN)))))))))
theorem isE_1 {a : Addr} {c : Str} (b : Bool) (x1 x2 : Option PyData) : xIsE 0 a b [some (excD c a), x1, x2] = .ok (.bool b) := by
  show (match excD c a with
    | .dict [(.str _, .int n)] => if n = ((a : Nat) : Int) then Res.ok (PyData.bool b) else .stuck
    | _ => .stuck) = _
  exact if_pos rfl
theorem class_core (a : Addr) (c : Str) {b1 b2 b3 b4 b5 : Bool} {nm : Str} {j : Int} (hcnt : mtD .lcount (.list [.bool b1, .bool b2, .bool b3, .bool b4, .bool b5]) [.bool true] = .ok (.int 1)) (hix : mtD .lindex (.list [.bool b1, .bool b2, .bool b3, .bool b4, .bool b5]) [.bool true] = .ok (.int j))
    (hj : idxD (.list [.str "InvalidCamera", .str "InvalidSetting", .str "InvalidWheel", .str "InvalidBrightness", .str "InvalidNumber"]) (.int j) = .ok (.str nm)) :
    (sC (sSet 1 (xLst (aC (xIsE 0 a b1) (aC (xIsE 0 a b2) (aN))))) (sC (sExt 1 (xLst (aC (xIsE 0 a b3) (aC (xIsE 0 a b4) (aN))))) (sC (sExt 1 (xLst (aC (xIsE 0 a b5) (aN)))) (sC (sIf (tOr (tV (xCmp .NotEq (xMt .lcount (xV 1) (aC (xK (.bool true)) (aN))) (xK (.int 1)))) (tNot (tV (xIsE 0 a true)))) (sRet (xK (.str "wrong"))) (sN)) (sC (sSet 2 (xLst (aC (xK (.str "InvalidCamera")) (aC (xK (.str "InvalidSetting")) (aC (xK (.str "InvalidWheel")) (aC (xK (.str "InvalidBrightness")) (aC (xK (.str "InvalidNumber")) (aN)))))))) (sRet (xIdx (xV 2) (xMt .lindex (xV 1) (aC (xK (.bool true)) (aN))))))))))
      [some (excD c a), none, none] = .rt (.str nm) := by
  have l2 : ∀ x y : Bool, lstM [.bool x, .bool y] = .ok (.list [.bool x, .bool y]) := fun _ _ => rfl
  have l1 : ∀ x : Bool, lstM [.bool x] = .ok (.list [.bool x]) := fun _ => rfl
  have r1 : recvB .lcount (.list [.bool b1, .bool b2, .bool b3, .bool b4, .bool b5]) = true := rfl
  have r2 : recvB .lindex (.list [.bool b1, .bool b2, .bool b3, .bool b4, .bool b5]) = true := rfl
  refine sC_nx (sSet_ok (d := .list [.bool b1, .bool b2]) ?_) (sC_nx (sExt_ok (a := [.bool b1, .bool b2]) (b := [.bool b3, .bool b4]) rfl ?_ (by simp)) (sC_nx (sExt_ok (a := [.bool b1, .bool b2, .bool b3, .bool b4]) (b := [.bool b5]) rfl ?_ (by simp)) (sC_nx (sIf_f ?_ rfl) (sC_nx (sSet_ok (d := .list [.str "InvalidCamera", .str "InvalidSetting", .str "InvalidWheel", .str "InvalidBrightness", .str "InvalidNumber"]) rfl) (sRet_ok ?_)))))
  · simp only [xLst_ap, aC_ap, aN_ap, isE_1, Res.ok_bind, l2]
  · show (xLst (aC (xIsE 0 a b3) (aC (xIsE 0 a b4) (aN)))) [some (excD c a), some (.list [.bool b1, .bool b2]), none] = _
    simp only [xLst_ap, aC_ap, aN_ap, isE_1, Res.ok_bind, l2]
  · show (xLst (aC (xIsE 0 a b5) (aN))) [some (excD c a), some (.list [.bool b1, .bool b2, .bool b3, .bool b4]), none] = _
    simp only [xLst_ap, aC_ap, aN_ap, isE_1, Res.ok_bind, l1]
  · show (tOr (tV (xCmp .NotEq (xMt .lcount (xV 1) (aC (xK (.bool true)) (aN))) (xK (.int 1)))) (tNot (tV (xIsE 0 a true)))) [some (excD c a), some (.list [.bool b1, .bool b2, .bool b3, .bool b4, .bool b5]), none] = _
    simp only [tOr_ap, tV_ap, xCmp_ap, xMt_ap, xV_ap, gv_1, Res.ok_bind, r1, if_true, aC_ap, xK_ap, aN_ap, hcnt, neD_int, toB_b, tNot_ap, isE_1]
    rfl
  · show (xIdx (xV 2) (xMt .lindex (xV 1) (aC (xK (.bool true)) (aN)))) [some (excD c a), some (.list [.bool b1, .bool b2, .bool b3, .bool b4, .bool b5]), some (.list [.str "InvalidCamera", .str "InvalidSetting", .str "InvalidWheel", .str "InvalidBrightness", .str "InvalidNumber"])] = _
    simp only [xIdx_ap, xMt_ap, xV_ap, gv_1, gv_2, Res.ok_bind, r2, if_true, aC_ap, xK_ap, aN_ap, hix, hj]
theorem f_class_c (a : Addr) {c : Str} (hc : c ∈ excs_k26) : f_class a c [some (excD c a), none, none] = .rt (.str c) := by
  simp only [excs_k26, List.mem_cons, List.not_mem_nil, or_false] at hc
  rcases hc with rfl | rfl | rfl | rfl | rfl
  · exact class_core (j := 0) a _ (by kernel_rfl) (by kernel_rfl) (by kernel_rfl)
  · exact class_core (j := 1) a _ (by kernel_rfl) (by kernel_rfl) (by kernel_rfl)
  · exact class_core (j := 2) a _ (by kernel_rfl) (by kernel_rfl) (by kernel_rfl)
  · exact class_core (j := 3) a _ (by kernel_rfl) (by kernel_rfl) (by kernel_rfl)
  · exact class_core (j := 4) a _ (by kernel_rfl) (by kernel_rfl) (by kernel_rfl)
theorem sc_class : FnScope ["_law_fault", "_law_kinds", "_law_names"] ["_law_fault"] (defScope S__law_class) := ⟨rfl, rfl, rfl, by decide +kernel, rfl, by decide +kernel, by decide +kernel⟩
theorem class_ok (kw : Kw K mg) {c : Str} (hc : c ∈ excs_k26) {A : Around} {outer : List Env} {s : Shared} {H : Hp} {Q : VK} {E : XK} {a : Addr} {oe : Obj} (hr : L2H.RoomH 2 A) (hpin : L2H.PinOk outer H s (a, oe)) (hz : Zc (.ref (He.ga K c)) none oe) (hf : ∃ vs, oe.data = .fields vs)
    (e0 : Env0 P w K mg base A outer s H) (q : ∀ H', Same H H' → Q (.str c) H') : codeAny (model P w) A (.call (.ref (He.ga K "_law_class")) ⟨[.ref a], []⟩) (CR (L2.CX P w) outer P w H s Q E) s := by
  obtain ⟨fd, F⟩ := fu__law_class kw
  have b := FunD.bindsA (ps := ["_law_fault"]) F fun _ _ _ _ _ _ us hl => match us, hl with | [_], _ => rfl
  obtain ⟨oc, od, dV, kV, doc, pm, an, cdv, ct, osl, rfl, lk, hcd, _, _⟩ := F.ex
  refine run_ofG (vs := [.ref a]) lk hcd sc_class hr hpin e0 (b s [.ref a] rfl) (.cons rfl .nil) rfl fun hr' => ?_
  have nd := sc_class.nd
  have hu : (A.deeper (PyProof.Rows.envOfC "_law_class" (defScope S__law_class) s.heap.objs.size (He.ga K "_law_class") cdv)).units + 65 < cLine := by have := hr'.un; omega
  have hp : ∀ X : Cx, X.pn = [(a, oe)] → (a, oe) ∈ X.pn := fun X e => by rw [e]; simp
  refine ⟨tS K ⟨fun _ _ _ _ => False, He.ga K⟩ [] [] (f_class a c), (?_ : SVs (L2H.cxH (L2.CX P w) P w K mg base ["_law_fault", "_law_kinds", "_law_names"] "_law_class" (defScope S__law_class) (He.ga K "_law_class") cdv A outer s H E (a, oe)) ⟨fun _ _ _ _ => False, He.ga K⟩ [] [] (defBody S__law_class) (f_class a c)), ?_⟩
  · exact sc (so 1 [] nd (fls (vc (isg 0 (hp _ rfl) (excsB_c (k_excs kw) hc) hz hf (excsB_k (k_excs kw) hc (by decide)) (x_InvalidCamera kw).g (b_isinstance kw)) (vc (isg 0 (hp _ rfl) (excsB_c (k_excs kw) hc) hz hf (excsB_k (k_excs kw) hc (by decide)) (x_InvalidSetting kw).g (b_isinstance kw)) (vn))))) (sc (sx 1 (ls (vc (isg 0 (hp _ rfl) (excsB_c (k_excs kw) hc) hz hf (excsB_k (k_excs kw) hc (by decide)) (x_InvalidWheel kw).g (b_isinstance kw)) (vc (isg 0 (hp _ rfl) (excsB_c (k_excs kw) hc) hz hf (excsB_k (k_excs kw) hc (by decide)) (x_InvalidBrightness kw).g (b_isinstance kw)) (vn))))) (sc (sx 1 (ls (vc (isg 0 (hp _ rfl) (excsB_c (k_excs kw) hc) hz hf (excsB_k (k_excs kw) hc (by decide)) (x_InvalidNumber kw).g (b_isinstance kw)) (vn)))) (sc (sif (tp (to (tc hu (EV.x (mt .lcount hu (nx 1) (uc (EV.x (kb)) (un)))) (EV.x (ki))) (t1 (tn (tv (isgV 0 (hp _ rfl) (excsB_c (k_excs kw) hc) hz hf (kitVB_ok (k_kitV kw) hc) (b_ValueError kw) (b_isinstance kw))))))) (s1 (rt (ks))) (s0)) (sc (st 2 [1] nd (ls (vc (ks) (vc (ks) (vc (ks) (vc (ks) (vc (ks) (vn)))))))) (s1 (rt (ix hu (nx 2) (EV.x (mt .lindex hu (nx 1) (uc (EV.x (kb)) (un)))))))))))
  · refine ⟨[some (excD c a), none, none], fun _ => none, fun _ => 0, fun _ => none, H, start_rl (ds := [excD c a]) (n := 1) (m := 2) (fun _ _ e => nomatch e) (.cons .exc .nil) rfl rfl, ?_⟩
    rw [f_class_c a hc]
    intro v G' H' x r
    cases r with
    | dq r => cases r with
      | str => exact q _ x.h
end
end Bv.K26
set_option Elab.async false
set_option linter.all false
set_option maxRecDepth 100000
set_option maxHeartbeats 1000000
namespace Bv.K26
open PySem PySem.Spec L2 Bv
section
variable {P : Program} {w : World} {K : PySem.W.Frag} {mg : Str → Option Value} {base : Heap}
/-- x() of a closure that raises -/
theorem pe_clos {X : Cx} {W : WX} {i : Nat} {a : Str} {p1 p2 : Pos} (tk : Takes X W) (hr : Room 8 X.A) (hN : X.N[i]? = some a) (hv : Vis X.env.scope a) (hd : (a == ("__debug__" : Str)) = false) (hcd : (a == ("__classdict__" : Str)) = false) :
    PE X (.Call (.Name a p1) [] [] p2) (fun σ H _ => ∃ f c, σ[i]? = some (some (.ref f)) ∧ Clos X.prog X.w X.K X.mg X.base H f c ∧ ∀ H', Same H H' → W (.ref (He.ga X.K c)) none σ H') := by
  refine ⟨fun pins s σ H Q I h => ?_⟩
  obtain ⟨f, c, hs, cl, hW⟩ := h
  refine wpAny_Call_Name_kw (thn ((pe_var (pos := p1) (i := i) hN hv hd hcd).run pins s σ H (fun v H1 => v = .ref f ∧ H1 = H) I ⟨.ref f, hs, rfl, rfl⟩) fun u s1 ⟨v, H1, I1, r1, q1⟩ => ?_)
  obtain ⟨ev, eH⟩ := q1
  subst ev
  rw [eH] at I1
  obtain rfl : u = Value.ref f := r1
  obtain ⟨q, params, body, scope, clo, pm, c', ctv, e⟩ := cl.fn
  have of1 := pin_get (I1.hok f _ e)
  refine PySem.W.callWith_F0 ⟨_, _, _, _, of1⟩ ?_
  have rc := cl.run X.A X.stack s1 H (WE W σ) (Same.refl _) hr I1.env0 fun H2 sm => hW H2 sm
  refine wpAny_call (codeAny_mono rc fun r s' hq => ?_)
  cases r with
  | error e => exact passAt tk σ pins H s1 e s' I1 hq
  | ok fl =>
    cases fl with
    | ret u => obtain ⟨_, _, _, _, _, _, _, z⟩ := hq; exact z.elim
    | next => exact False.elim hq
    | brk => exact False.elim hq
    | cont => exact False.elim hq
/-- _law_class(x), x the handled exception -/
theorem pe_class (kw : Kw K mg) {X : Cx} {i : Nat} {x : Str} {a : Addr} {oe : Obj} {p p1 pos : Pos} (eP : X.prog = P) (ew : X.w = w) (eK : X.K = K) (em : X.mg = mg) (eb : X.base = base) (hp : (a, oe) ∈ X.pn) (hf : ∃ vs, oe.data = .fields vs) (hr : L2H.RoomH 2 X.A)
    (hN : X.N[i]? = some x) (hv : Vis X.env.scope x) (hd : (x == ("__debug__" : Str)) = false) (hcd : (x == ("__classdict__" : Str)) = false) (hg : Gl X "_law_class") (he : starEach [.Name x p1] X.env = (false, eval (.Name x p1) X.env) :: starEach [] X.env) (hpl : (backTo pos (starEach [] X.env)).any (·.1) = false) :
    PE X (.Call (.Name "_law_class" p) [.Name x p1] [] pos) (fun σ H Q => ∃ c, σ[i]? = some (some (.ref a)) ∧ c ∈ excs_k26 ∧ Zc (.ref (He.ga K c)) none oe ∧ ∀ H', Same H H' → Q (.str c) H') := by
  subst eP ew eK em eb
  refine ⟨fun pins s σ H Q I h => ?_⟩
  obtain ⟨c, hs, hc, hz, hQ⟩ := h
  obtain ⟨fd, F⟩ := fu__law_class kw
  refine wpAny_Call_Name_kw (ld_glob I hg (g__law_class kw) ?_ (by decide))
  refine PySem.W.callWith_K (h₀ := X.base) I.ok.mod.kin F.kp (thn ((pa_cons (pe_var (pos := p1) hN hv hd hcd) pa_nil he).run pos pins s σ H (fun vs H1 => vs = [.ref a] ∧ H1 = H) I ⟨.ref a, hs, rfl, rfl⟩) fun us s1 ⟨vs, H1, I1, r, q⟩ => ⟨I1.kIn, ?_⟩) he hpl
  obtain ⟨ev, eH⟩ := q
  subst ev
  rw [eH] at I1
  cases r with
  | cons r1 rr =>
    cases rr
    cases r1
    have P1 := I1.pin (a, oe) (List.mem_append_left _ hp)
    have hpin : L2H.PinOk X.stack H s1 (a, oe) := ⟨P1.1, P1.2.1, fun hm => (List.mem_cons.mp (I1.stkSub _ hm)).elim P1.2.2.1 P1.2.2.2.1, P1.2.2.2.2⟩
    refine wpAny_call (codeAny_mono (class_ok (E := fun _ _ _ => False) kw hc hr hpin hz hf I1.env0 hQ) fun r s' hq => ?_)
    cases r with
    | error e =>
      obtain ⟨_, _, _, _, _, _, _, _, _, _, _, _, z⟩ := hq
      exact z.elim
    | ok fl =>
      cases fl with
      | ret u => exact I1.after hq
      | next => exact False.elim hq
      | brk => exact False.elim hq
      | cont => exact False.elim hq
def spRes (P : Program) (w : World) (K : PySem.W.Frag) (mg : Str → Option Value) (base : Heap) : Sp := fun vs H Q _ => ∃ f c, vs = [.ref f] ∧ c ∈ excs_k26 ∧ Clos P w K mg base H f c ∧ ∀ p H', Same H H' → H' p = some (.tup [.str "error", .str c]) → Q (.ref p) H'
theorem sc_result : FnScope ["_law_call", "_law_fault"] ["_law_call"] (defScope S__law_result) := ⟨rfl, rfl, rfl, by decide +kernel, rfl, by decide +kernel, by decide +kernel⟩
theorem result_ok (kw : Kw K mg) : ∃ fd, FnOk P w K mg base (L2.CX P w) 9 (He.ga K "_law_result") fd ["_law_call"] (spRes P w K mg base) ∧ Binds K fd ["_law_call"] [] ∧ PySem.W.keepIn K (.ref (He.ga K "_law_result")) = true := by
  obtain ⟨fd, F⟩ := fu__law_result kw
  refine ⟨fd, F.ok sc_result (fun vs H Q E h => ?_) (fun cdv A outer s H vs Q E hr h => ?_), F.bindsN fun _ _ _ _ _ _ us hl => match us, hl with | [_], _ => rfl, F.kp⟩
  · obtain ⟨f, c, rfl, _⟩ := h; rfl
  obtain ⟨f, c, rfl, hc, cl, hQ⟩ := h
  have rh : L2H.RoomH 2 (A.deeper (PyProof.Rows.envOfC "_law_result" (defScope S__law_result) s.heap.objs.size (He.ga K "_law_result") cdv)) := L2H.roomH_of (hr.mono (by decide))
  refine ⟨_, pss_one (ps_try_as (X := cxOf (L2.CX P w) P w K mg base ["_law_call", "_law_fault"] "_law_result" (defScope S__law_result) (He.ga K "_law_result") cdv A outer s H E) (c := .ref (He.ga K "LightError")) (i := 1)
      (tb := fun W D σ H => ∃ f c, σ[0]? = some (some (.ref f)) ∧ Clos P w K mg base H f c ∧ ∀ H', Same H H' → W (.ref (He.ga K c)) none σ H')
      (ts := fun a cls d D σ H => ∃ c, cls = .ref (He.ga K c) ∧ d = none ∧ c ∈ excs_k26 ∧ σ[1]? = some (some (.ref a)) ∧ ∀ p H', Same H H' → H' p = some (.tup [.str "error", .str c]) → D.rt (.ref p) H')
      rfl rfl sc_result.nd rfl rfl ⟨rfl, by decide, .inl (x_LightError kw).g⟩ takes0 (fun W pn xe tk _ => ?_) (fun a oe cls d pn hz hd => ?_)), ?_⟩
  · exact pss_one (PS.weak (ps_ret (pe_clos (X := (cxOf (L2.CX P w) P w K mg base ["_law_call", "_law_fault"] "_law_result" (defScope S__law_result) (He.ga K "_law_result") cdv A outer s H E).tr pn xe) (i := 0) tk hr rfl (.inl rfl) (by decide) (by decide))) fun D σ H h => h)
  · refine pss_one (PS.weak (ps_ret (pe_tup (pa_cons pe_str (pa_cons (pe_class (P := P) (w := w) (K := K) (mg := mg) (base := base) kw (X := (cxOf (L2.CX P w) P w K mg base ["_law_call", "_law_fault"] "_law_result" (defScope S__law_result) (He.ga K "_law_result") cdv A outer s H E).suite a ((a, oe) :: pn)) (i := 1) (x := "_law_fault") (a := a) (oe := oe) rfl rfl rfl rfl rfl List.mem_cons_self hd ⟨rh.dp, rh.un⟩ rfl (.inl rfl) (by decide) (by decide) rfl rfl rfl) pa_nil rfl) rfl))) fun D σ' H' h => ?_)
    obtain ⟨c, rfl, rfl, hc, hσ, h⟩ := h
    refine ⟨c, hσ, hc, hz, fun H2 sm => ⟨by rw [sizeLine_eq]; simp, fun p hp => ?_⟩⟩
    exact h p _ (sm.trans (same_upd hp)) upd_same
  · refine ⟨f, c, rfl, cl, fun H' sm => ⟨true, ?_, fun _ a ha => ⟨c, rfl, rfl, hc, rfl, fun p H2 sm2 e => hQ p H2 (sm.trans sm2) e⟩, fun z => nomatch z⟩⟩
    exact k_lt kw c hc
end
end Bv.K26
set_option Elab.async false
set_option linter.all false
set_option maxRecDepth 100000
set_option maxHeartbeats 1000000
namespace Bv.K26
open PySem PySem.Spec L2 Bv
section
variable {P : Program} {w : World} {K : PySem.W.Frag} {mg : Str → Option Value} {base : Heap}
def spAll (P : Program) (w : World) (K : PySem.W.Frag) (mg : Str → Option Value) (base : Heap) : Sp := fun vs H Q _ => ∃ (l : Addr) (fs : List Addr) (c : Str), vs = [.ref l, .str c] ∧ H l = some (.lst (fs.map V.ref)) ∧ fs.length ≤ 1000 ∧ c ∈ excs_k26 ∧ (∀ f ∈ fs, Clos P w K mg base H f c) ∧ ∀ H', Same H H' → Q (.bl true) H'
theorem sc_all : FnScope ["_law_calls", "_law_name", "_law_call"] ["_law_calls", "_law_name"] (defScope S__law_all) := ⟨rfl, rfl, rfl, by decide +kernel, rfl, by decide +kernel, by decide +kernel⟩
theorem eq_err {c : Str} (hc : c ∈ excs_k26) : cmpD .Eq (.tuple [.str "error", .str c]) (.tuple [.str "error", .str c]) = .ok (.bool true) := by
  simp only [excs_k26, List.mem_cons, List.not_mem_nil, or_false] at hc
  rcases hc with rfl | rfl | rfl | rfl | rfl <;> kernel_rfl
/-- _law_result(x) == ('error', y) -/
theorem pe_elt (kw : Kw K mg) {X : Cx} {p1 p2 p3 p4 p5 p6 p7 : Pos} {j k : Nat} (eP : X.prog = P) (ew : X.w = w) (eK : X.K = K) (em : X.mg = mg) (eb : X.base = base) (hr : Room 9 X.A) (hN1 : X.N[1]? = some ("_law_name" : Str)) (hN2 : X.N[2]? = some ("_law_call" : Str)) (hv1 : Vis X.env.scope "_law_name") (hv2 : Vis X.env.scope "_law_call") (hg : Gl X "_law_result")
    (he : starEach [.Name "_law_call" p2] X.env = (false, eval (.Name "_law_call" p2) X.env) :: starEach [] X.env) (hpl : (backTo p3 (starEach [] X.env)).any (·.1) = false)
    (he2 : starEach [.Constant (.str "error") j p4, .Name "_law_name" p5] X.env = (false, eval (.Constant (.str "error") j p4) X.env) :: starEach [.Name "_law_name" p5] X.env) (he3 : starEach [.Name "_law_name" p5] X.env = (false, eval (.Name "_law_name" p5) X.env) :: starEach [] X.env)
    (hb : behindInMarks .Eq (.Tuple [.Constant (.str "error") j p4, .Name "_law_name" p5] k p6) = false) :
    PE X (.Compare (.Call (.Name "_law_result" p1) [.Name "_law_call" p2] [] p3) [.Eq] [.Tuple [.Constant (.str "error") j p4, .Name "_law_name" p5] k p6] p7)
      (fun σ H Q => ∃ f c, σ[2]? = some (some (.ref f)) ∧ σ[1]? = some (some (.str c)) ∧ c ∈ excs_k26 ∧ Clos P w K mg base H f c ∧ ∀ H', Same H H' → Q (.bl true) H') := by
  subst eP ew eK em eb
  obtain ⟨fd, F, hbi, kp⟩ := result_ok (P := X.prog) (w := X.w) (base := X.base) kw
  have hu : X.A.units + 65 < cLine := by have := hr.un; omega
  refine PE.weak (pe_cmpR (op_cmpD hu .Eq) (pe_callS (E := WE fun _ _ _ _ => False) F hr hg (g__law_result kw) kp hbi (fun σ => passAt takes0 σ) (pa_cons (pe_var (i := 2) hN2 hv2) pa_nil he) (by decide) he hpl) (pe_tup (pa_cons pe_str (pa_cons (pe_var (i := 1) hN1 hv1) pa_nil he3) he2)) hb) fun σ H Q h => ?_
  obtain ⟨f, c, h2, h1, hc, cl, hQ⟩ := h
  refine ⟨.ref f, h2, f, c, rfl, hc, cl, fun p H1 sm e1 => ⟨.str c, h1, by rw [sizeLine_eq]; simp, fun p' hp' => ?_⟩⟩
  have e1' : upd H1 p' (.tup [.str "error", .str c]) p = some (.tup [.str "error", .str c]) := by rw [upd_ne (ne_of_none e1 hp')]; exact e1
  refine ⟨_, .tuple [.str "error", .str c], .tuple [.str "error", .str c], true, Same.refl _, .dr (.dq (.tup e1' (.cons (.str _) (.cons (.str _) .nil)))), .dr (.dq (.tup upd_same (.cons (.str _) (.cons (.str _) .nil)))), eq_err hc, fun G' H' x => hQ H' (sm.trans ((same_upd hp').trans x.h))⟩
theorem all_ok (kw : Kw K mg) : ∃ fd, FnOk P w K mg base (L2.CX P w) 10 (He.ga K "_law_all") fd ["_law_calls", "_law_name"] (spAll P w K mg base) ∧ Binds K fd ["_law_calls", "_law_name"] [] ∧ PySem.W.keepIn K (.ref (He.ga K "_law_all")) = true := by
  obtain ⟨fd, F⟩ := fu__law_all kw
  refine ⟨fd, F.ok sc_all (fun vs H Q E h => ?_) (fun cdv A outer s H vs Q E hr h => ?_), F.bindsN fun _ _ _ _ _ _ us hl => match us, hl with | [_, _], _ => rfl, F.kp⟩
  · obtain ⟨l, fs, c, rfl, _⟩ := h; rfl
  obtain ⟨l, fs, c, rfl, hl, hlen, hc, cl, hQ⟩ := h
  have nd := sc_all.nd
  refine ⟨_, pss_one (ps_ret (pe_callB (cr_all rfl) rfl (b_all kw) (by decide +kernel) (pa_cons (pe_lc (own := [("_law_call", 2)]) (g := gName 2) (tt := tYes) rfl nd (pi_list (pe_var (i := 0) rfl (.inl rfl))) (blkOk_by (by kernel_rfl)) (fun s H C cl fp => pg_name nd rfl (.inl rfl) (.inr rfl)) (fun s H C cl fp => pts_nil)
      (fun s H C cl fp => pe_elt (P := P) (w := w) (K := K) (mg := mg) (base := base) kw rfl rfl rfl rfl rfl hr rfl rfl (by first | exact Or.inl rfl | exact Or.inr (Or.inl rfl) | exact Or.inr (Or.inr rfl)) (by first | exact Or.inl rfl | exact Or.inr (Or.inl rfl) | exact Or.inr (Or.inr rfl)) rfl rfl rfl rfl rfl rfl)) pa_nil rfl))), ?_⟩
  refine ⟨.ref l, rfl, l, rfl, ⟨_, SqL.of hl⟩, fun D hD => ⟨fun i m H' => m = fs.length - i ∧ i ≤ fs.length ∧ Same H H' ∧ H' D = some (.lst ((List.replicate i true).map V.bl)), ⟨fs.length, by simp, Nat.zero_le _, same_upd hD, upd_same⟩, ?_⟩⟩
  rintro i m H' ⟨rfl, hi, sm, hH⟩
  have hl' : H' l = some (.lst (fs.map V.ref)) := sm _ _ hl
  by_cases hlt : i < fs.length
  · refine .inr ⟨⟨_, .ref fs[i], SqL.of hl', by rw [List.getElem?_map, List.getElem?_eq_getElem hlt]; rfl⟩, fun H2 => Same H H2 ∧ H2 D = some (.lst ((List.replicate (i + 1) true).map V.bl)), fun H2 h2 => ⟨fs.length - (i + 1), by omega, rfl, hlt, h2⟩, fun x H2 hy => ?_⟩
    obtain ⟨rfl, hy⟩ := hy
    have hx := hy _ (SqL.of hl')
    rw [List.getElem?_map, List.getElem?_eq_getElem hlt] at hx
    cases hx
    refine ⟨rfl, ?_⟩
    refine ⟨fs[i], c, rfl, rfl, hc, (cl _ (List.getElem_mem hlt)).same sm, fun H3 sm3 => ⟨_, sm3 _ _ hH, by rw [List.length_map, List.length_replicate, sizeLine_eq]; omega, ?_, ?_⟩⟩
    · intro b o e
      rw [upd_ne (ne_of_none e hD)]
      exact sm3 _ _ (sm _ _ e)
    · rw [upd_same, List.replicate_succ', List.map_append]
      rfl
  · have ei : i = fs.length := by omega
    subst ei
    refine .inl ⟨⟨_, SqL.of hl', by rw [List.length_map]; omega⟩, D, _, rfl, SqL.of hH, ?_⟩
    have : (List.replicate fs.length true).all id = true := by rw [List.all_eq_true]; intro b hb; rw [(List.mem_replicate.mp hb).2]; rfl
    rw [this]
    exact hQ H' sm
end
end Bv.K26
set_option Elab.async false
set_option linter.all false
set_option maxRecDepth 100000
set_option maxHeartbeats 0
namespace Bv.K26
open PySem PySem.Spec L2 Bv LamX
section
variable {P : Program} {w : World} {K : PySem.W.Frag} {mg : Str → Option Value} {base : Heap}
noncomputable def sp_cameras : LSp := [(["_law_no"], xCall p_is_setting (aC (xV 0) (aC (xK .none) (aN)))),
  (["_law_no"], xCall p_values (aC (xV 0) (aC (xK .none) (aN)))),
  (["_law_no"], xCall p_count_settings (aC (xV 0) (aN))),
  (["_law_no"], xCall p_exposure (aC (xV 0) (aC (xK .none) (aN)))),
  (["_law_no"], xCall p_error (aC (xV 0) (aC (xK .none) (aC (xK .none) (aN))))),
  (["_law_no"], xCall p_right_settings (aC (xV 0) (aC (xK .none) (aN)))),
  (["_law_no"], xCall p_count_right (aC (xV 0) (aC (xK .none) (aN)))),
  (["_law_no"], xCall p_reach (aC (xV 0) (aN))),
  (["_law_no"], xCall p_reachable (aC (xV 0) (aN))),
  (["_law_no"], xCall p_commonest (aC (xV 0) (aN))),
  (["_law_no"], xCall p_gaps (aC (xV 0) (aN))),
  (["_law_no"], xCall p_least_error (aC (xV 0) (aC (xK .none) (aN)))),
  (["_law_no"], xCall p_nearest_settings (aC (xV 0) (aC (xK .none) (aN)))),
  (["_law_no"], xCall p_worst_brightness (aC (xV 0) (aN))),
  (["_law_no"], xCall p_clicks (aC (xV 0) (aC (xK .none) (aC (xK .none) (aN))))),
  (["_law_no"], xCall p_fewest_clicks (aC (xV 0) (aC (xK .none) (aC (xK .none) (aN))))),
  (["_law_no"], xCall p_nearest_right (aC (xV 0) (aC (xK .none) (aC (xK .none) (aN))))),
  (["_law_no"], xCall p_farthest (aC (xV 0) (aC (xK .none) (aN)))),
  (["_law_no"], xCall p_shifts (aC (xV 0) (aC (xK .none) (aN)))),
  (["_law_no"], xCall p_fewest_shifts (aC (xV 0) (aC (xK .none) (aC (xK .none) (aN))))),
  (["_law_no"], xCall p_shift_groups (aC (xV 0) (aC (xK .none) (aN)))),
  (["_law_no"], xCall p_bracket (aC (xV 0) (aC (xK .none) (aC (xK .none) (aC (xK (.int 0)) (aC (xK (.int 0)) (aN))))))),
  (["_law_no"], xCall p_wheels_for (aC (xV 0) (aC (xK .none) (aC (xK (.int 0)) (aC (xK (.int 0)) (aN)))))),
  (["_law_no"], xCall p_widest (aC (xV 0) (aC (xK .none) (aC (xK .none) (aC (xK (.int 0)) (aN))))))]
theorem sc_cameras : FnScope ["_law_no", "_law_calls"] ["_law_no"] (defScope S__law_cameras) := ⟨rfl, rfl, rfl, by decide +kernel, rfl, by decide +kernel, by decide +kernel⟩
theorem mk_cameras (kw : Kw K mg) {T : List (Addr × Str)} (tab : HasTab K mg base T "_law_cameras") : ∃ fd, FnOk P w K mg base (L2.CX P w) 2 (He.ga K "_law_cameras") fd ["_law_no"] (spMk P w K mg base T ["_law_no"] sp_cameras) ∧ Binds K fd ["_law_no"] [] ∧ PySem.W.keepIn K (.ref (He.ga K "_law_cameras")) = true := by
  obtain ⟨fd, F⟩ := fu__law_cameras kw
  have nd := sc_cameras.nd
  refine ⟨fd, maker_fn (k := 1) F sc_cameras rfl (by decide +kernel) rfl tab (by decide) (fun cdv A outer s H E TX => ?_), F.bindsN fun _ _ _ _ _ _ us hl => match us, hl with | [_], _ => rfl, F.kp⟩
  refine ⟨_, _, _, ?p, ?pos, rfl, ps_lam1 TX nd (hfree := lf), (lok (N := ["_law_no"]) (fe := xCall p_is_setting (aC (xV 0) (aC (xK .none) (aN)))) fun q f c' clo A outer s H E hr => by have hu := hu65 hr; exact cl (d_is_setting kw) hr (vc (nv 0) (vc (kn) (vn)))), ?last⟩
  case last =>
    refine .cons (ps_lamN TX (hfree := lf)) (lok (N := ["_law_no"]) (fe := xCall p_values (aC (xV 0) (aC (xK .none) (aN)))) fun q f c' clo A outer s H E hr => by have hu := hu65 hr; exact cl (d_values kw) hr (vc (nv 0) (vc (kn) (vn)))) ?_
    refine .cons (ps_lamN TX (hfree := lf)) (lok (N := ["_law_no"]) (fe := xCall p_count_settings (aC (xV 0) (aN))) fun q f c' clo A outer s H E hr => by have hu := hu65 hr; exact cl (d_count_settings kw) hr (vc (nv 0) (vn))) ?_
    refine .cons (ps_lamN TX (hfree := lf)) (lok (N := ["_law_no"]) (fe := xCall p_exposure (aC (xV 0) (aC (xK .none) (aN)))) fun q f c' clo A outer s H E hr => by have hu := hu65 hr; exact cl (d_exposure kw) hr (vc (nv 0) (vc (kn) (vn)))) ?_
    refine .cons (ps_lamN TX (hfree := lf)) (lok (N := ["_law_no"]) (fe := xCall p_error (aC (xV 0) (aC (xK .none) (aC (xK .none) (aN))))) fun q f c' clo A outer s H E hr => by have hu := hu65 hr; exact cl (d_error kw) hr (vc (nv 0) (vc (kn) (vc (kn) (vn))))) ?_
    refine .cons (ps_lamN TX (hfree := lf)) (lok (N := ["_law_no"]) (fe := xCall p_right_settings (aC (xV 0) (aC (xK .none) (aN)))) fun q f c' clo A outer s H E hr => by have hu := hu65 hr; exact cl (d_right_settings kw) hr (vc (nv 0) (vc (kn) (vn)))) ?_
    refine .cons (ps_lamN TX (hfree := lf)) (lok (N := ["_law_no"]) (fe := xCall p_count_right (aC (xV 0) (aC (xK .none) (aN)))) fun q f c' clo A outer s H E hr => by have hu := hu65 hr; exact cl (d_count_right kw) hr (vc (nv 0) (vc (kn) (vn)))) ?_
    refine .cons (ps_lamN TX (hfree := lf)) (lok (N := ["_law_no"]) (fe := xCall p_reach (aC (xV 0) (aN))) fun q f c' clo A outer s H E hr => by have hu := hu65 hr; exact cl (d_reach kw) hr (vc (nv 0) (vn))) ?_
    refine .cons (ps_lamN TX (hfree := lf)) (lok (N := ["_law_no"]) (fe := xCall p_reachable (aC (xV 0) (aN))) fun q f c' clo A outer s H E hr => by have hu := hu65 hr; exact cl (d_reachable kw) hr (vc (nv 0) (vn))) ?_
    refine .cons (ps_lamN TX (hfree := lf)) (lok (N := ["_law_no"]) (fe := xCall p_commonest (aC (xV 0) (aN))) fun q f c' clo A outer s H E hr => by have hu := hu65 hr; exact cl (d_commonest kw) hr (vc (nv 0) (vn))) ?_
    refine .cons (ps_lamN TX (hfree := lf)) (lok (N := ["_law_no"]) (fe := xCall p_gaps (aC (xV 0) (aN))) fun q f c' clo A outer s H E hr => by have hu := hu65 hr; exact cl (d_gaps kw) hr (vc (nv 0) (vn))) ?_
    refine .cons (ps_lamN TX (hfree := lf)) (lok (N := ["_law_no"]) (fe := xCall p_least_error (aC (xV 0) (aC (xK .none) (aN)))) fun q f c' clo A outer s H E hr => by have hu := hu65 hr; exact cl (d_least_error kw) hr (vc (nv 0) (vc (kn) (vn)))) ?_
    refine .cons (ps_lamN TX (hfree := lf)) (lok (N := ["_law_no"]) (fe := xCall p_nearest_settings (aC (xV 0) (aC (xK .none) (aN)))) fun q f c' clo A outer s H E hr => by have hu := hu65 hr; exact cl (d_nearest_settings kw) hr (vc (nv 0) (vc (kn) (vn)))) ?_
    refine .cons (ps_lamN TX (hfree := lf)) (lok (N := ["_law_no"]) (fe := xCall p_worst_brightness (aC (xV 0) (aN))) fun q f c' clo A outer s H E hr => by have hu := hu65 hr; exact cl (d_worst_brightness kw) hr (vc (nv 0) (vn))) ?_
    refine .cons (ps_lamN TX (hfree := lf)) (lok (N := ["_law_no"]) (fe := xCall p_clicks (aC (xV 0) (aC (xK .none) (aC (xK .none) (aN))))) fun q f c' clo A outer s H E hr => by have hu := hu65 hr; exact cl (d_clicks kw) hr (vc (nv 0) (vc (kn) (vc (kn) (vn))))) ?_
    refine .cons (ps_lamN TX (hfree := lf)) (lok (N := ["_law_no"]) (fe := xCall p_fewest_clicks (aC (xV 0) (aC (xK .none) (aC (xK .none) (aN))))) fun q f c' clo A outer s H E hr => by have hu := hu65 hr; exact cl (d_fewest_clicks kw) hr (vc (nv 0) (vc (kn) (vc (kn) (vn))))) ?_
    refine .cons (ps_lamN TX (hfree := lf)) (lok (N := ["_law_no"]) (fe := xCall p_nearest_right (aC (xV 0) (aC (xK .none) (aC (xK .none) (aN))))) fun q f c' clo A outer s H E hr => by have hu := hu65 hr; exact cl (d_nearest_right kw) hr (vc (nv 0) (vc (kn) (vc (kn) (vn))))) ?_
    refine .cons (ps_lamN TX (hfree := lf)) (lok (N := ["_law_no"]) (fe := xCall p_farthest (aC (xV 0) (aC (xK .none) (aN)))) fun q f c' clo A outer s H E hr => by have hu := hu65 hr; exact cl (d_farthest kw) hr (vc (nv 0) (vc (kn) (vn)))) ?_
    refine .cons (ps_lamN TX (hfree := lf)) (lok (N := ["_law_no"]) (fe := xCall p_shifts (aC (xV 0) (aC (xK .none) (aN)))) fun q f c' clo A outer s H E hr => by have hu := hu65 hr; exact cl (d_shifts kw) hr (vc (nv 0) (vc (kn) (vn)))) ?_
    refine .cons (ps_lamN TX (hfree := lf)) (lok (N := ["_law_no"]) (fe := xCall p_fewest_shifts (aC (xV 0) (aC (xK .none) (aC (xK .none) (aN))))) fun q f c' clo A outer s H E hr => by have hu := hu65 hr; exact cl (d_fewest_shifts kw) hr (vc (nv 0) (vc (kn) (vc (kn) (vn))))) ?_
    refine .cons (ps_lamN TX (hfree := lf)) (lok (N := ["_law_no"]) (fe := xCall p_shift_groups (aC (xV 0) (aC (xK .none) (aN)))) fun q f c' clo A outer s H E hr => by have hu := hu65 hr; exact cl (d_shift_groups kw) hr (vc (nv 0) (vc (kn) (vn)))) ?_
    refine .cons (ps_lamN TX (hfree := lf)) (lok (N := ["_law_no"]) (fe := xCall p_bracket (aC (xV 0) (aC (xK .none) (aC (xK .none) (aC (xK (.int 0)) (aC (xK (.int 0)) (aN))))))) fun q f c' clo A outer s H E hr => by have hu := hu65 hr; exact cl (d_bracket kw) hr (vc (nv 0) (vc (kn) (vc (kn) (vc (ki) (vc (ki) (vn))))))) ?_
    refine .cons (ps_lamN TX (hfree := lf)) (lok (N := ["_law_no"]) (fe := xCall p_wheels_for (aC (xV 0) (aC (xK .none) (aC (xK (.int 0)) (aC (xK (.int 0)) (aN)))))) fun q f c' clo A outer s H E hr => by have hu := hu65 hr; exact cl (d_wheels_for kw) hr (vc (nv 0) (vc (kn) (vc (ki) (vc (ki) (vn)))))) ?_
    refine .cons (ps_lamN TX (hfree := lf)) (lok (N := ["_law_no"]) (fe := xCall p_widest (aC (xV 0) (aC (xK .none) (aC (xK .none) (aC (xK (.int 0)) (aN)))))) fun q f c' clo A outer s H E hr => by have hu := hu65 hr; exact cl (d_widest kw) hr (vc (nv 0) (vc (kn) (vc (kn) (vc (ki) (vn)))))) ?_
    exact .nil
noncomputable def sp_set : LSp := [(["_law_box_here", "_law_no"], xCall p_exposure (aC (xV 0) (aC (xV 1) (aN)))),
  (["_law_box_here", "_law_no"], xCall p_error (aC (xV 0) (aC (xV 1) (aC (xK .none) (aN))))),
  (["_law_box_here", "_law_no"], xCall p_clicks (aC (xV 0) (aC (xV 1) (aC (xK .none) (aN))))),
  (["_law_box_here", "_law_one", "_law_no"], xCall p_clicks (aC (xV 0) (aC (xV 1) (aC (xV 2) (aN))))),
  (["_law_box_here", "_law_no"], xCall p_fewest_clicks (aC (xV 0) (aC (xV 1) (aC (xK .none) (aN))))),
  (["_law_box_here", "_law_no"], xCall p_nearest_right (aC (xV 0) (aC (xV 1) (aC (xK .none) (aN))))),
  (["_law_box_here", "_law_no"], xCall p_shifts (aC (xV 0) (aC (xV 1) (aN)))),
  (["_law_box_here", "_law_no"], xCall p_fewest_shifts (aC (xV 0) (aC (xV 1) (aC (xK .none) (aN))))),
  (["_law_box_here", "_law_one", "_law_no"], xCall p_fewest_shifts (aC (xV 0) (aC (xV 1) (aC (xV 2) (aN))))),
  (["_law_box_here", "_law_no"], xCall p_bracket (aC (xV 0) (aC (xV 1) (aC (xK .none) (aC (xK (.int 0)) (aC (xK (.int 0)) (aN))))))),
  (["_law_box_here", "_law_no"], xCall p_wheels_for (aC (xV 0) (aC (xV 1) (aC (xK (.int 0)) (aC (xK (.int 0)) (aN)))))),
  (["_law_box_here", "_law_no"], xCall p_widest (aC (xV 0) (aC (xV 1) (aC (xK .none) (aC (xK (.int 0)) (aN))))))]
theorem sc_set : FnScope ["_law_box_here", "_law_one", "_law_no", "_law_calls"] ["_law_box_here", "_law_one", "_law_no"] (defScope S__law_set) := ⟨rfl, rfl, rfl, by decide +kernel, rfl, by decide +kernel, by decide +kernel⟩
theorem mk_set (kw : Kw K mg) {T : List (Addr × Str)} (tab : HasTab K mg base T "_law_set") : ∃ fd, FnOk P w K mg base (L2.CX P w) 2 (He.ga K "_law_set") fd ["_law_box_here", "_law_one", "_law_no"] (spMk P w K mg base T ["_law_box_here", "_law_one", "_law_no"] sp_set) ∧ Binds K fd ["_law_box_here", "_law_one", "_law_no"] [] ∧ PySem.W.keepIn K (.ref (He.ga K "_law_set")) = true := by
  obtain ⟨fd, F⟩ := fu__law_set kw
  have nd := sc_set.nd
  refine ⟨fd, maker_fn (k := 1) F sc_set rfl (by decide +kernel) rfl tab (by decide) (fun cdv A outer s H E TX => ?_), F.bindsN fun _ _ _ _ _ _ us hl => match us, hl with | [_, _, _], _ => rfl, F.kp⟩
  refine ⟨_, _, _, ?p, ?pos, rfl, ps_lam1 TX nd (hfree := lf), (lok (N := ["_law_box_here", "_law_no"]) (fe := xCall p_exposure (aC (xV 0) (aC (xV 1) (aN)))) fun q f c' clo A outer s H E hr => by have hu := hu65 hr; exact cl (d_exposure kw) hr (vc (nv 0) (vc (nv 1) (vn)))), ?last⟩
  case last =>
    refine .cons (ps_lamN TX (hfree := lf)) (lok (N := ["_law_box_here", "_law_no"]) (fe := xCall p_error (aC (xV 0) (aC (xV 1) (aC (xK .none) (aN))))) fun q f c' clo A outer s H E hr => by have hu := hu65 hr; exact cl (d_error kw) hr (vc (nv 0) (vc (nv 1) (vc (kn) (vn))))) ?_
    refine .cons (ps_lamN TX (hfree := lf)) (lok (N := ["_law_box_here", "_law_no"]) (fe := xCall p_clicks (aC (xV 0) (aC (xV 1) (aC (xK .none) (aN))))) fun q f c' clo A outer s H E hr => by have hu := hu65 hr; exact cl (d_clicks kw) hr (vc (nv 0) (vc (nv 1) (vc (kn) (vn))))) ?_
    refine .cons (ps_lamN TX (hfree := lf)) (lok (N := ["_law_box_here", "_law_one", "_law_no"]) (fe := xCall p_clicks (aC (xV 0) (aC (xV 1) (aC (xV 2) (aN))))) fun q f c' clo A outer s H E hr => by have hu := hu65 hr; exact cl (d_clicks kw) hr (vc (nv 0) (vc (nv 1) (vc (nv 2) (vn))))) ?_
    refine .cons (ps_lamN TX (hfree := lf)) (lok (N := ["_law_box_here", "_law_no"]) (fe := xCall p_fewest_clicks (aC (xV 0) (aC (xV 1) (aC (xK .none) (aN))))) fun q f c' clo A outer s H E hr => by have hu := hu65 hr; exact cl (d_fewest_clicks kw) hr (vc (nv 0) (vc (nv 1) (vc (kn) (vn))))) ?_
    refine .cons (ps_lamN TX (hfree := lf)) (lok (N := ["_law_box_here", "_law_no"]) (fe := xCall p_nearest_right (aC (xV 0) (aC (xV 1) (aC (xK .none) (aN))))) fun q f c' clo A outer s H E hr => by have hu := hu65 hr; exact cl (d_nearest_right kw) hr (vc (nv 0) (vc (nv 1) (vc (kn) (vn))))) ?_
    refine .cons (ps_lamN TX (hfree := lf)) (lok (N := ["_law_box_here", "_law_no"]) (fe := xCall p_shifts (aC (xV 0) (aC (xV 1) (aN)))) fun q f c' clo A outer s H E hr => by have hu := hu65 hr; exact cl (d_shifts kw) hr (vc (nv 0) (vc (nv 1) (vn)))) ?_
    refine .cons (ps_lamN TX (hfree := lf)) (lok (N := ["_law_box_here", "_law_no"]) (fe := xCall p_fewest_shifts (aC (xV 0) (aC (xV 1) (aC (xK .none) (aN))))) fun q f c' clo A outer s H E hr => by have hu := hu65 hr; exact cl (d_fewest_shifts kw) hr (vc (nv 0) (vc (nv 1) (vc (kn) (vn))))) ?_
    refine .cons (ps_lamN TX (hfree := lf)) (lok (N := ["_law_box_here", "_law_one", "_law_no"]) (fe := xCall p_fewest_shifts (aC (xV 0) (aC (xV 1) (aC (xV 2) (aN))))) fun q f c' clo A outer s H E hr => by have hu := hu65 hr; exact cl (d_fewest_shifts kw) hr (vc (nv 0) (vc (nv 1) (vc (nv 2) (vn))))) ?_
    refine .cons (ps_lamN TX (hfree := lf)) (lok (N := ["_law_box_here", "_law_no"]) (fe := xCall p_bracket (aC (xV 0) (aC (xV 1) (aC (xK .none) (aC (xK (.int 0)) (aC (xK (.int 0)) (aN))))))) fun q f c' clo A outer s H E hr => by have hu := hu65 hr; exact cl (d_bracket kw) hr (vc (nv 0) (vc (nv 1) (vc (kn) (vc (ki) (vc (ki) (vn))))))) ?_
    refine .cons (ps_lamN TX (hfree := lf)) (lok (N := ["_law_box_here", "_law_no"]) (fe := xCall p_wheels_for (aC (xV 0) (aC (xV 1) (aC (xK (.int 0)) (aC (xK (.int 0)) (aN)))))) fun q f c' clo A outer s H E hr => by have hu := hu65 hr; exact cl (d_wheels_for kw) hr (vc (nv 0) (vc (nv 1) (vc (ki) (vc (ki) (vn)))))) ?_
    refine .cons (ps_lamN TX (hfree := lf)) (lok (N := ["_law_box_here", "_law_no"]) (fe := xCall p_widest (aC (xV 0) (aC (xV 1) (aC (xK .none) (aC (xK (.int 0)) (aN)))))) fun q f c' clo A outer s H E hr => by have hu := hu65 hr; exact cl (d_widest kw) hr (vc (nv 0) (vc (nv 1) (vc (kn) (vc (ki) (vn)))))) ?_
    exact .nil
noncomputable def sp_lit : LSp := [(["_law_box_here", "_law_one", "_law_no"], xCall p_error (aC (xV 0) (aC (xV 1) (aC (xV 2) (aN))))),
  (["_law_box_here", "_law_no"], xCall p_right_settings (aC (xV 0) (aC (xV 1) (aN)))),
  (["_law_box_here", "_law_no"], xCall p_count_right (aC (xV 0) (aC (xV 1) (aN)))),
  (["_law_box_here", "_law_no"], xCall p_least_error (aC (xV 0) (aC (xV 1) (aN)))),
  (["_law_box_here", "_law_no"], xCall p_nearest_settings (aC (xV 0) (aC (xV 1) (aN)))),
  (["_law_box_here", "_law_one", "_law_no"], xCall p_fewest_clicks (aC (xV 0) (aC (xV 1) (aC (xV 2) (aN))))),
  (["_law_box_here", "_law_one", "_law_no"], xCall p_nearest_right (aC (xV 0) (aC (xV 1) (aC (xV 2) (aN))))),
  (["_law_box_here", "_law_no"], xCall p_farthest (aC (xV 0) (aC (xV 1) (aN)))),
  (["_law_box_here", "_law_no"], xCall p_shift_groups (aC (xV 0) (aC (xV 1) (aN))))]
theorem sc_lit : FnScope ["_law_box_here", "_law_one", "_law_no", "_law_calls"] ["_law_box_here", "_law_one", "_law_no"] (defScope S__law_lit) := ⟨rfl, rfl, rfl, by decide +kernel, rfl, by decide +kernel, by decide +kernel⟩
theorem mk_lit (kw : Kw K mg) {T : List (Addr × Str)} (tab : HasTab K mg base T "_law_lit") : ∃ fd, FnOk P w K mg base (L2.CX P w) 2 (He.ga K "_law_lit") fd ["_law_box_here", "_law_one", "_law_no"] (spMk P w K mg base T ["_law_box_here", "_law_one", "_law_no"] sp_lit) ∧ Binds K fd ["_law_box_here", "_law_one", "_law_no"] [] ∧ PySem.W.keepIn K (.ref (He.ga K "_law_lit")) = true := by
  obtain ⟨fd, F⟩ := fu__law_lit kw
  have nd := sc_lit.nd
  refine ⟨fd, maker_fn (k := 1) F sc_lit rfl (by decide +kernel) rfl tab (by decide) (fun cdv A outer s H E TX => ?_), F.bindsN fun _ _ _ _ _ _ us hl => match us, hl with | [_, _, _], _ => rfl, F.kp⟩
  refine ⟨_, _, _, ?p, ?pos, rfl, ps_lam1 TX nd (hfree := lf), (lok (N := ["_law_box_here", "_law_one", "_law_no"]) (fe := xCall p_error (aC (xV 0) (aC (xV 1) (aC (xV 2) (aN))))) fun q f c' clo A outer s H E hr => by have hu := hu65 hr; exact cl (d_error kw) hr (vc (nv 0) (vc (nv 1) (vc (nv 2) (vn))))), ?last⟩
  case last =>
    refine .cons (ps_lamN TX (hfree := lf)) (lok (N := ["_law_box_here", "_law_no"]) (fe := xCall p_right_settings (aC (xV 0) (aC (xV 1) (aN)))) fun q f c' clo A outer s H E hr => by have hu := hu65 hr; exact cl (d_right_settings kw) hr (vc (nv 0) (vc (nv 1) (vn)))) ?_
    refine .cons (ps_lamN TX (hfree := lf)) (lok (N := ["_law_box_here", "_law_no"]) (fe := xCall p_count_right (aC (xV 0) (aC (xV 1) (aN)))) fun q f c' clo A outer s H E hr => by have hu := hu65 hr; exact cl (d_count_right kw) hr (vc (nv 0) (vc (nv 1) (vn)))) ?_
    refine .cons (ps_lamN TX (hfree := lf)) (lok (N := ["_law_box_here", "_law_no"]) (fe := xCall p_least_error (aC (xV 0) (aC (xV 1) (aN)))) fun q f c' clo A outer s H E hr => by have hu := hu65 hr; exact cl (d_least_error kw) hr (vc (nv 0) (vc (nv 1) (vn)))) ?_
    refine .cons (ps_lamN TX (hfree := lf)) (lok (N := ["_law_box_here", "_law_no"]) (fe := xCall p_nearest_settings (aC (xV 0) (aC (xV 1) (aN)))) fun q f c' clo A outer s H E hr => by have hu := hu65 hr; exact cl (d_nearest_settings kw) hr (vc (nv 0) (vc (nv 1) (vn)))) ?_
    refine .cons (ps_lamN TX (hfree := lf)) (lok (N := ["_law_box_here", "_law_one", "_law_no"]) (fe := xCall p_fewest_clicks (aC (xV 0) (aC (xV 1) (aC (xV 2) (aN))))) fun q f c' clo A outer s H E hr => by have hu := hu65 hr; exact cl (d_fewest_clicks kw) hr (vc (nv 0) (vc (nv 1) (vc (nv 2) (vn))))) ?_
    refine .cons (ps_lamN TX (hfree := lf)) (lok (N := ["_law_box_here", "_law_one", "_law_no"]) (fe := xCall p_nearest_right (aC (xV 0) (aC (xV 1) (aC (xV 2) (aN))))) fun q f c' clo A outer s H E hr => by have hu := hu65 hr; exact cl (d_nearest_right kw) hr (vc (nv 0) (vc (nv 1) (vc (nv 2) (vn))))) ?_
    refine .cons (ps_lamN TX (hfree := lf)) (lok (N := ["_law_box_here", "_law_no"]) (fe := xCall p_farthest (aC (xV 0) (aC (xV 1) (aN)))) fun q f c' clo A outer s H E hr => by have hu := hu65 hr; exact cl (d_farthest kw) hr (vc (nv 0) (vc (nv 1) (vn)))) ?_
    refine .cons (ps_lamN TX (hfree := lf)) (lok (N := ["_law_box_here", "_law_no"]) (fe := xCall p_shift_groups (aC (xV 0) (aC (xV 1) (aN)))) fun q f c' clo A outer s H E hr => by have hu := hu65 hr; exact cl (d_shift_groups kw) hr (vc (nv 0) (vc (nv 1) (vn)))) ?_
    exact .nil
end
end Bv.K26
set_option Elab.async false
set_option linter.all false
set_option maxRecDepth 100000
set_option maxHeartbeats 1000000
namespace Bv.K26
open PySem PySem.Spec PyProof.Rows L2 Bv LamX
section
variable {P : Program} {w : World} {K : PySem.W.Frag} {mg : Str → Option Value} {base : Heap} {T : List (Addr × Str)}
/-- the law's slots by value, beside the tables -/
structure LawSt (K : PySem.W.Frag) (T : List (Addr × Str)) (ρ : Rho) (σ : L2.St) (G H : Hp) : Prop where
  rl : ∃ al, Rl K [] ρ σ G H al
  tb : Tabs T H
  gt : ∀ p ∈ T, G p.1 = none
theorem LawSt.sub {ρ : Rho} {σ : L2.St} {G H : Hp} (h : LawSt K T ρ σ G H) : Same G H := by obtain ⟨al, rl⟩ := h.rl; exact rl.sub
theorem LawSt.at {ρ : Rho} {σ : L2.St} {G H : Hp} (h : LawSt K T ρ σ G H) {i : Nat} {d : PyData} (e : ρ[i]? = some (some d)) : ∃ v, σ[i]? = some (some v) ∧ DR K G v d := by
  obtain ⟨al, rl⟩ := h.rl
  exact rl.sh i d e List.not_mem_nil
theorem LawSt.ex2 {ρ : Rho} {σ : L2.St} {G H G1 H1 : Hp} (h : LawSt K T ρ σ G H) (x : Ex2 G H G1 H1) : LawSt K T ρ σ G1 H1 := by
  obtain ⟨al, rl⟩ := h.rl
  refine ⟨⟨al, rl.mono x⟩, h.tb.ext x.h, fun p hp => ?_⟩
  obtain ⟨ps, e, _⟩ := h.tb p hp
  exact x.f p.1 _ e rfl (h.gt p hp)
theorem LawSt.extT {ρ : Rho} {σ : L2.St} {G H H1 : Hp} (h : LawSt K T ρ σ G H) (x : ExtT T H H1) (t : Tabs T H1) : LawSt K T ρ σ G H1 := by
  obtain ⟨al, rl⟩ := h.rl
  refine ⟨⟨al, ⟨fun b o e => x b o (rl.sub _ _ e) (fun p hp z => by (rw [← z, h.gt p hp] at e); cases e), rl.len, rl.sh, fun i d e hi => absurd hi List.not_mem_nil, fun i j d e hi => absurd hi List.not_mem_nil⟩⟩, t, h.gt⟩
theorem LawSt.same {ρ : Rho} {σ : L2.St} {G H H1 : Hp} (h : LawSt K T ρ σ G H) (x : Same H H1) : LawSt K T ρ σ G H1 := h.extT (fun b o e _ => x b o e) (h.tb.ext x)
theorem LawSt.skip {ρ : Rho} {σ : L2.St} {G H : Hp} (h : LawSt K T ρ σ G H) {j : Nat} {v : V} (e : ∀ d, ρ[j]? ≠ some (some d)) : LawSt K T ρ (σ.set j (some v)) G H := by
  obtain ⟨al, rl⟩ := h.rl
  refine ⟨⟨al, ⟨rl.sub, by rw [List.length_set]; exact rl.len, fun i d e' hi => ?_, fun i d e hi => absurd hi List.not_mem_nil, fun i j d e hi => absurd hi List.not_mem_nil⟩⟩, h.tb, h.gt⟩
  have : j ≠ i := fun z => e d (by rw [z]; exact e')
  rw [List.getElem?_set_ne this]
  exact rl.sh i d e' hi
theorem LawSt.put {ρ : Rho} {σ : L2.St} {G H : Hp} (h : LawSt K T ρ σ G H) {j : Nat} {v : V} {d : PyData} (q : DR K G v d) : LawSt K T (ρ.set j (some d)) (σ.set j (some v)) G H := by
  obtain ⟨al, rl⟩ := h.rl
  exact ⟨⟨al, rl.set List.not_mem_nil q⟩, h.tb, h.gt⟩
/-- a statement read by value -/
theorem law_sv {Pq : Pm} {f : FS} {u : TS} {D : Ends} {ρ ρ1 : Rho} {σ : L2.St} {G H : Hp} (h : LawSt K T ρ σ G H) (e : f ρ = .nx ρ1) (k : ∀ σ1 G1 H1, LawSt K T ρ1 σ1 G1 H1 → u D σ1 H1) : tSeq (tS K Pq [] [] f) u D σ H := by
  obtain ⟨al, rl⟩ := id h.rl
  refine ⟨ρ, G, al, G, H, ⟨rl, Ex2.refl rl.sub, fun i d e hi => absurd hi List.not_mem_nil⟩, ?_⟩
  rw [e]
  exact fun σ1 G1 H1 al1 r => k σ1 G1 H1 ⟨⟨al1, r.r⟩, (h.ex2 r.x).tb, (h.ex2 r.x).gt⟩
/-- _law_all(maker(..), c) -/
theorem pe_mkall (kw : Kw K mg) {X : Cx} {Pq : Pm} {mk : Str} {ps : List Str} {sp : LSp} {e : Expr} {es : List Expr} {fs : FA} {c : Str} {i : Nat} {p1 p2 p3 p4 p5 : Pos} (eP : X.prog = P) (ew : X.w = w) (eK : X.K = K) (em : X.mg = mg) (eb : X.base = base) (hr : Room 10 X.A) (M : ∃ fd, FnOk P w K mg base (L2.CX P w) 2 (He.ga K mk) fd ps (spMk P w K mg base T ps sp) ∧ Binds K fd ps [] ∧ PySem.W.keepIn K (.ref (He.ga K mk)) = true) (gm : mg mk = some (.ref (He.ga K mk)))
    (ha : AV X Pq [] (e :: es) fs) (hc : c ∈ excs_k26) (hl : sp.length ≤ 900) (hg : Gl X "_law_all") (hg2 : Gl X mk) (hdb : (mk == ("__debug__" : Str)) = false)
    (he : starEach (e :: es) X.env = (false, eval e X.env) :: starEach es X.env) (hpl : (backTo p3 (starEach es X.env)).any (·.1) = false) (he2 : starEach [.Call (.Name mk p2) (e :: es) [] p3, .Constant (.str c) i p4] X.env = (false, eval (.Call (.Name mk p2) (e :: es) [] p3) X.env) :: starEach [.Constant (.str c) i p4] X.env)
    (he3 : starEach [.Constant (.str c) i p4] X.env = (false, eval (.Constant (.str c) i p4) X.env) :: starEach [] X.env) (hpl2 : (backTo p5 (starEach [.Constant (.str c) i p4] X.env)).any (·.1) = false) :
    PE X (.Call (.Name "_law_all" p1) [.Call (.Name mk p2) (e :: es) [] p3, .Constant (.str c) i p4] [] p5)
      (fun σ H Q => ∃ ρ G ds, LawSt K T ρ σ G H ∧ fs ρ = .ok ds ∧ ds.length = ps.length ∧ (∀ x ∈ sp, (∀ n ∈ x.1, n ∈ ps) ∧ x.2 (x.1.map fun n => (ps.zip ds).lookup n) = .exc c) ∧ ∀ G1 H1, LawSt K T ρ σ G1 H1 → Q (.bl true) H1) := by
  subst eP ew eK em eb
  obtain ⟨fd, F, hbi, kp⟩ := M
  obtain ⟨fda, Fa, hba, kpa⟩ := all_ok (P := X.prog) (w := X.w) (base := X.base) kw
  refine PE.weak (pe_callS (E := WE fun _ _ _ _ => False) Fa hr hg (g__law_all kw) kpa hba (fun σ => passAt L2.takes0 σ) (pa_cons (pe_callS (E := WE fun _ _ _ _ => False) F (hr.mono (by decide)) hg2 gm kp hbi (fun σ => passAt L2.takes0 σ) ha hdb he hpl) (pa_cons pe_str pa_nil he3) he2) (by decide) he2 hpl2) fun σ H Q h => ?_
  obtain ⟨ρ, G, ds, st, e1, e2, hsp, hQ⟩ := h
  obtain ⟨al, rl⟩ := id st.rl
  refine ⟨ρ, G, al, rl, ?_⟩
  rw [e1]
  intro vs G1 H1 x hv
  have st1 := st.ex2 x
  refine ⟨ds, G1, c, hv, e2, st1.sub, st1.gt, st1.tb, hsp, fun l gs H3 nl eT t3 e3 hl3 cl => ?_⟩
  have st3 := st1.extT eT t3
  exact ⟨l, gs, c, rfl, e3, by omega, hc, cl, fun H4 sm => hQ G1 H4 (st3.same sm)⟩
/-- _law_all(calls, c), the closures made here -/
theorem pe_live (kw : Kw K mg) {N : List Str} {qual : Str} {scope : Scope} {f : Addr} {cdv : Value} {A : Around} {outer : List Env} {s0 : Shared} {H0 : Hp} {E : XK} {j i : Nat} {x c : Str} {q : Str} {p1 p2 p3 p4 : Pos} (hr : Room 10 (cxOf (L2.CX P w) P w K mg base N qual scope f cdv A outer s0 H0 E).A)
    (hN : N[j]? = some x) (hv : Vis scope x) (hd : (x == ("__debug__" : Str)) = false) (hcd : (x == ("__classdict__" : Str)) = false) (hg : Gl (cxOf (L2.CX P w) P w K mg base N qual scope f cdv A outer s0 H0 E) "_law_all") (hc : c ∈ excs_k26)
    (he : starEach [.Name x p2, .Constant (.str c) i p3] (cxOf (L2.CX P w) P w K mg base N qual scope f cdv A outer s0 H0 E).env = (false, eval (.Name x p2) (cxOf (L2.CX P w) P w K mg base N qual scope f cdv A outer s0 H0 E).env) :: starEach [.Constant (.str c) i p3] (cxOf (L2.CX P w) P w K mg base N qual scope f cdv A outer s0 H0 E).env)
    (he3 : starEach [.Constant (.str c) i p3] (cxOf (L2.CX P w) P w K mg base N qual scope f cdv A outer s0 H0 E).env = (false, eval (.Constant (.str c) i p3) (cxOf (L2.CX P w) P w K mg base N qual scope f cdv A outer s0 H0 E).env) :: starEach [] (cxOf (L2.CX P w) P w K mg base N qual scope f cdv A outer s0 H0 E).env) (hpl : (backTo p4 (starEach [.Constant (.str c) i p3] (cxOf (L2.CX P w) P w K mg base N qual scope f cdv A outer s0 H0 E).env)).any (·.1) = false) :
    PE (cxOf (L2.CX P w) P w K mg base N qual scope f cdv A outer s0 H0 E) (.Call (.Name "_law_all" p1) [.Name x p2, .Constant (.str c) i p3] [] p4)
      (fun σ H Q => ∃ (l : Addr) (Hb : Hp) (sp : LSp) (G : Hp) (ev : List (Str × PyData)), σ[j]? = some (some (.ref l)) ∧ LamG P w K mg base T q (cxOf (L2.CX P w) P w K mg base N qual scope f cdv A outer s0 H0 E).env.cells Hb H l sp ∧ sp.length ≤ 900 ∧ Same G H ∧
        (∀ y d, ev.lookup y = some d → ∃ (i : Nat) (v : V), N[i]? = some y ∧ σ[i]? = some (some v) ∧ scope.names.lookup y = some .cell ∧ DR K G v d) ∧ (∀ z ∈ sp, (∀ n ∈ z.1, (ev.lookup n).isSome = true) ∧ z.2 (z.1.map fun n => ev.lookup n) = .exc c) ∧ ∀ H1, Same H H1 → Q (.bl true) H1) := by
  refine ⟨fun pins s σ H Q I h => ?_⟩
  obtain ⟨l, Hb, sp, G, ev, hσ, g, hlen, sG, hev, hsp, hQ⟩ := h
  obtain ⟨fda, Fa, hba, kpa⟩ := all_ok (P := P) (w := w) (base := base) kw
  refine wpAny_Call_Name_kw (ld_glob I hg (g__law_all kw) ?_ (by decide))
  refine PySem.W.callWith_K (h₀ := base) I.ok.mod.kin kpa (thn ((pa_cons (pe_var (pos := p2) (i := j) hN hv hd hcd) (pa_cons pe_str pa_nil he3) he).run p4 pins s σ H (fun vs H1 => vs = [.ref l, .str c] ∧ H1 = H) I ⟨.ref l, hσ, rfl, rfl⟩) fun us s1 ⟨vs, H1, I1, r, q1⟩ => ⟨I1.kIn, ?_⟩) he hpl
  obtain ⟨rfl, rfl⟩ := q1
  obtain ⟨L, hLd⟩ : ∃ L, L = cellPins (cxOf (L2.CX P w) P w K mg base N qual scope f cdv A outer s0 H0 E).env.cells s1.heap := ⟨_, rfl⟩
  have hL : ∀ b o, L b = some o → H1 b = none ∧ s1.heap.get? b = some o ∧ s0.heap.objs.size ≤ b ∧ ∃ y, (cxOf (L2.CX P w) P w K mg base N qual scope f cdv A outer s0 H0 E).env.cells.lookup y = some b := fun b o e => by
    rw [hLd] at e
    obtain ⟨⟨y, hy⟩, ho⟩ := cellPins_of e
    exact ⟨I1.freeC y b hy, ho, I1.ok.cab y b rfl hy, y, hy⟩
  have lN : ∀ {b : Addr} {u : HO}, H1 b = some u → L b = none := fun {b u} e => by
    cases z : L b with
    | none => rfl
    | some o => rw [(hL b o z).1] at e; cases e
  have sm : Same H1 (addP H1 L) := fun b u e => by rw [add_at (lN e)]; exact e
  have C : CellsIn (K := K) (cxOf (L2.CX P w) P w K mg base N qual scope f cdv A outer s0 H0 E).env.cells L G ev := by
    rw [hLd]
    exact cells_in I1 hev
  have e0 := I1.env0
  have e1 : Env0 P w K mg base (cxOf (L2.CX P w) P w K mg base N qual scope f cdv A outer s0 H0 E).A (cxOf (L2.CX P w) P w K mg base N qual scope f cdv A outer s0 H0 E).stack s1 (addP H1 L) := by
    refine ⟨e0.frames, e0.mod, fun b o e => ⟨(e0.bs b o e).1, ?_⟩, e0.bsz, e0.funs, fun b hb => ?_, hok_add e0.hok fun b o e => ⟨(hL b o e).2.1, (hL b o e).1⟩, e0.bare⟩
    · have : L b = none := by
        cases z : L b with
        | none => rfl
        | some o' => exact absurd (Nat.lt_of_lt_of_le (Heap.lt_size (I1.ok.bs b o e).1) (hL b o' z).2.2.1) (Nat.lt_irrefl _)
      rw [add_at this]
      exact (e0.bs b o e).2
    · have : L b = none := by
        cases z : L b with
        | none => rfl
        | some o' =>
          obtain ⟨_, _, h3, y, hy⟩ := hL b o' z
          rcases List.mem_cons.mp (I1.stkSub b hb) with e | e
          · exact absurd e (I1.cne y b hy)
          · obtain ⟨_, o, ho, _⟩ := I1.ok.funs.mem e
            exact absurd (Nat.lt_of_lt_of_le (Heap.lt_size ho) h3) (Nat.lt_irrefl _)
      rw [add_at this]
      exact e0.frf b hb
  obtain ⟨fs0, ef, pr⟩ := g.at_
  obtain ⟨fs, rfl, e2, cl⟩ := paired_refs (H3 := addP H1 L) add_pins C (sG.trans sm) (fun b o e => sG.free (hL b o e).1) (fun b φ e => sm _ _ e) pr hsp
  have hl2 : us.length = 2 := by rw [← r.length]; rfl
  have bd := hba s1 us I1.kIn (by rw [List.append_nil]; exact hl2)
  rw [List.append_nil] at bd
  refine wpAny_call (codeAny_mono (Fa.run _ _ s1 (addP H1 L) ⟨us, []⟩ us [.ref l, .str c] (fun v H2 => v = .bl true ∧ Same (addP H1 L) H2) (fun _ _ _ => False) hr e1 bd r ⟨l, fs, c, rfl, sm _ _ ef, by omega, hc, cl, fun H2 s2 => ⟨rfl, s2⟩⟩) fun r' s' hq => ?_)
  cases r' with
  | error e => obtain ⟨_, _, _, _, _, _, _, _, _, _, _, _, z⟩ := hq; exact z.elim
  | ok fl =>
    cases fl with
    | ret u =>
      obtain ⟨v, H2, os, bare, un, ok2, rv, ev2, s2⟩ := hq
      subst ev2
      obtain ⟨un3, ok3⟩ := un_del (fun b o e => ⟨(hL b o e).1, (hL b o e).2.1⟩) un (add_pins.same s2) ok2
      exact I1.after ⟨.bl true, delP H2 L, os, bare, un3, ok3, rv, hQ _ fun b u e => by
        rw [del_at (lN e)]
        exact s2 _ _ (sm _ _ e)⟩
    | next => exact False.elim hq
    | brk => exact False.elim hq
    | cont => exact False.elim hq
/-- appends, then rest -/
theorem LamSts.pss {X : Cx} {i : Nat} {u : TS} : ∀ {sts rest : List Stmt} {sp : LSp}, LamSts P w K mg base X T i sts sp rest → PSs X rest u → ∃ t, PSs X sts t ∧ ∀ (σ : L2.St) (l : Addr) (Hb H : Hp) (done : LSp) (D : Ends), σ[i]? = some (some (.ref l)) → LamG P w K mg base T (X.env.qual ++ "<lambda>") X.env.cells Hb H l done → done.length + sp.length < 1000 →
    (∀ H', LamG P w K mg base T (X.env.qual ++ "<lambda>") X.env.cells Hb H' l (done ++ sp) → u D σ H') → t D σ H
  | _, _, _, .nil, hr => ⟨u, hr, fun σ l Hb H done D _ g _ k => k H (by rw [List.append_nil]; exact g)⟩
  | _, _, _, .cons (N := N) (fe := fe) h1 ok t, hr => by
    obtain ⟨t', ht, ht2⟩ := LamSts.pss t hr
    refine ⟨_, pss_cons h1 ht, fun σ l Hb H done D hσ g hl k => ?_⟩
    obtain ⟨fs, e1, e2⟩ := g.at_
    refine ⟨l, fs, hσ, e1, by rw [← paired_len e2]; simp at hl; omega, g.tb, fun f H' x T1 e3 hl' => ?_⟩
    exact ht2 σ l Hb H' (done ++ [(N, fe)]) D hσ (g.more e1 x T1 e3 hl' ok) (by simp at hl ⊢; omega) fun H2 g2 => k H2 (by rw [List.append_assoc] at g2; exact g2)
end
end Bv.K26
set_option Elab.async false
set_option linter.all false
set_option maxRecDepth 100000
set_option maxHeartbeats 1000000
namespace Bv.K26
open PySem PySem.Spec L2 Bv
theorem at_ {fe : FE} {l ρ : Rho} {r : Res PyData} (e : l = ρ) (h : fe ρ = r) : fe l = r := by rw [e]; exact h
noncomputable def sp_name : LSp := [(["_law_box_here", "_law_name"], xCall p_values (aC (xV 0) (aC (xV 1) (aN)))), (["_law_box_here", "_law_one", "_law_name"], xCall p_bracket (aC (xV 0) (aC (xV 1) (aC (xV 2) (aC (xK (.int 0)) (aC (xK (.int 0)) (aN))))))), (["_law_box_here", "_law_one", "_law_name"], xCall p_widest (aC (xV 0) (aC (xV 1) (aC (xV 2) (aC (xK (.int 0)) (aN))))))]
noncomputable def sp_num : LSp := [(["_law_box_here", "_law_one"], xCall p_bracket (aC (xV 0) (aC (xV 1) (aC (xK (.str "time")) (aC (xK (.int 0)) (aC (xK (.int 0)) (aN))))))), (["_law_box_here", "_law_one"], xCall p_bracket (aC (xV 0) (aC (xV 1) (aC (xK (.str "time")) (aC (xK (.int 5)) (aC (xK (.int 1)) (aN))))))), (["_law_box_here", "_law_one"], xCall p_bracket (aC (xV 0) (aC (xV 1) (aC (xK (.str "time")) (aC (xK (.int 1)) (aC (xK (.int 13)) (aN))))))), (["_law_box_here", "_law_one"], xCall p_bracket (aC (xV 0) (aC (xV 1) (aC (xK (.str "time")) (aC (xK (.int 1)) (aC (xK (.bool true)) (aN))))))), (["_law_box_here", "_law_one"], xCall p_wheels_for (aC (xV 0) (aC (xV 1) (aC (xK (.int 1)) (aC (xK (.int 0)) (aN)))))), (["_law_box_here", "_law_one"], xCall p_wheels_for (aC (xV 0) (aC (xV 1) (aC (xK (.int 5)) (aC (xK (.int 1)) (aN)))))), (["_law_box_here", "_law_one"], xCall p_widest (aC (xV 0) (aC (xV 1) (aC (xK (.str "aperture")) (aC (xK (.int 0)) (aN)))))), (["_law_box_here", "_law_one"], xCall p_widest (aC (xV 0) (aC (xV 1) (aC (xK (.str "aperture")) (aC (xK .none) (aN))))))]
theorem cams_exc {d : PyData} (h : p_check_camera [d] = .exc "InvalidCamera") : ∀ x ∈ sp_cameras, (∀ n ∈ x.1, n ∈ (["_law_no"] : List Str)) ∧ x.2 (x.1.map fun n => ((["_law_no"] : List Str).zip [d]).lookup n) = .exc "InvalidCamera" := by
  intro x hx
  simp only [sp_cameras, List.mem_cons, List.not_mem_nil, or_false] at hx
  rcases hx with rfl | rfl | rfl | rfl | rfl | rfl | rfl | rfl | rfl | rfl | rfl | rfl | rfl | rfl | rfl | rfl | rfl | rfl | rfl | rfl | rfl | rfl | rfl | rfl
  all_goals
    refine ⟨by decide +kernel, ?_⟩
    first
      | refine at_ (ρ := [some (d)]) rfl ?_
    simp [runD, h, p_is_setting, f_is_setting, p_values, f_values, p_count_settings, f_count_settings, p_exposure, f_exposure, p_error, f_error, p_right_settings, f_right_settings, p_count_right, f_count_right, p_reach, f_reach, p_reachable, f_reachable, p_commonest, f_commonest, p_gaps, f_gaps, p_least_error, f_least_error, p_nearest_settings, f_nearest_settings, p_worst_brightness, f_worst_brightness, p_clicks, f_clicks, p_fewest_clicks, f_fewest_clicks, p_nearest_right, f_nearest_right, p_find_nearest, f_find_nearest, p_farthest, f_farthest, p_shifts, f_shifts, p_fewest_shifts, f_fewest_shifts, p_shift_groups, f_shift_groups, p_bracket, f_bracket, p_wheels_for, f_wheels_for, p_widest, f_widest, p_check_both, f_check_both, p_check_three_k20, f_check_three_k20]
theorem sets_exc {C : List W3} (h : OkC C) {s : List Int} (hs : s ∈ sets C) {d : PyData} (h2 : p_check_setting [cD C, d] = .exc "InvalidSetting") : ∀ x ∈ sp_set, (∀ n ∈ x.1, n ∈ (["_law_box_here", "_law_one", "_law_no"] : List Str)) ∧ x.2 (x.1.map fun n => ((["_law_box_here", "_law_one", "_law_no"] : List Str).zip [cD C, eS s, d]).lookup n) = .exc "InvalidSetting" := by
  intro x hx
  simp only [sp_set, List.mem_cons, List.not_mem_nil, or_false] at hx
  rcases hx with rfl | rfl | rfl | rfl | rfl | rfl | rfl | rfl | rfl | rfl | rfl | rfl
  all_goals
    refine ⟨by decide +kernel, ?_⟩
    first
      | refine at_ (ρ := [some (cD C), some (eS s), some (d)]) rfl ?_
      | refine at_ (ρ := [some (cD C), some (d)]) rfl ?_
      | refine at_ (ρ := [some (cD C), some (eS s)]) rfl ?_
    simp [runD, check_camera_c h, check_setting_s h hs, h2, p_is_setting, f_is_setting, p_values, f_values, p_count_settings, f_count_settings, p_exposure, f_exposure, p_error, f_error, p_right_settings, f_right_settings, p_count_right, f_count_right, p_reach, f_reach, p_reachable, f_reachable, p_commonest, f_commonest, p_gaps, f_gaps, p_least_error, f_least_error, p_nearest_settings, f_nearest_settings, p_worst_brightness, f_worst_brightness, p_clicks, f_clicks, p_fewest_clicks, f_fewest_clicks, p_nearest_right, f_nearest_right, p_find_nearest, f_find_nearest, p_farthest, f_farthest, p_shifts, f_shifts, p_fewest_shifts, f_fewest_shifts, p_shift_groups, f_shift_groups, p_bracket, f_bracket, p_wheels_for, f_wheels_for, p_widest, f_widest, p_check_both, f_check_both, p_check_three_k20, f_check_three_k20]
theorem lits_exc {C : List W3} (h : OkC C) {s : List Int} (hs : s ∈ sets C) {d : PyData} (h2 : p_check_light [d] = .exc "InvalidBrightness") : ∀ x ∈ sp_lit, (∀ n ∈ x.1, n ∈ (["_law_box_here", "_law_one", "_law_no"] : List Str)) ∧ x.2 (x.1.map fun n => ((["_law_box_here", "_law_one", "_law_no"] : List Str).zip [cD C, eS s, d]).lookup n) = .exc "InvalidBrightness" := by
  intro x hx
  simp only [sp_lit, List.mem_cons, List.not_mem_nil, or_false] at hx
  rcases hx with rfl | rfl | rfl | rfl | rfl | rfl | rfl | rfl | rfl
  all_goals
    refine ⟨by decide +kernel, ?_⟩
    first
      | refine at_ (ρ := [some (cD C), some (eS s), some (d)]) rfl ?_
      | refine at_ (ρ := [some (cD C), some (d)]) rfl ?_
      | refine at_ (ρ := [some (cD C), some (eS s)]) rfl ?_
    simp [runD, check_camera_c h, check_setting_s h hs, h2, p_is_setting, f_is_setting, p_values, f_values, p_count_settings, f_count_settings, p_exposure, f_exposure, p_error, f_error, p_right_settings, f_right_settings, p_count_right, f_count_right, p_reach, f_reach, p_reachable, f_reachable, p_commonest, f_commonest, p_gaps, f_gaps, p_least_error, f_least_error, p_nearest_settings, f_nearest_settings, p_worst_brightness, f_worst_brightness, p_clicks, f_clicks, p_fewest_clicks, f_fewest_clicks, p_nearest_right, f_nearest_right, p_find_nearest, f_find_nearest, p_farthest, f_farthest, p_shifts, f_shifts, p_fewest_shifts, f_fewest_shifts, p_shift_groups, f_shift_groups, p_bracket, f_bracket, p_wheels_for, f_wheels_for, p_widest, f_widest, p_check_both, f_check_both, p_check_three_k20, f_check_three_k20]
theorem names_exc {C : List W3} (h : OkC C) {s : List Int} (hs : s ∈ sets C) {d : PyData} (h2 : p_find_wheel [d] = .exc "InvalidWheel") : ∀ x ∈ sp_name, (∀ n ∈ x.1, n ∈ (["_law_box_here", "_law_one", "_law_name"] : List Str)) ∧ x.2 (x.1.map fun n => ((["_law_box_here", "_law_one", "_law_name"] : List Str).zip [cD C, eS s, d]).lookup n) = .exc "InvalidWheel" := by
  intro x hx
  simp only [sp_name, List.mem_cons, List.not_mem_nil, or_false] at hx
  rcases hx with rfl | rfl | rfl
  all_goals
    refine ⟨by decide +kernel, ?_⟩
    first
      | refine at_ (ρ := [some (cD C), some (eS s), some (d)]) rfl ?_
      | refine at_ (ρ := [some (cD C), some (d)]) rfl ?_
      | refine at_ (ρ := [some (cD C), some (eS s)]) rfl ?_
    simp [runD, check_camera_c h, check_setting_s h hs, h2, p_is_setting, f_is_setting, p_values, f_values, p_count_settings, f_count_settings, p_exposure, f_exposure, p_error, f_error, p_right_settings, f_right_settings, p_count_right, f_count_right, p_reach, f_reach, p_reachable, f_reachable, p_commonest, f_commonest, p_gaps, f_gaps, p_least_error, f_least_error, p_nearest_settings, f_nearest_settings, p_worst_brightness, f_worst_brightness, p_clicks, f_clicks, p_fewest_clicks, f_fewest_clicks, p_nearest_right, f_nearest_right, p_find_nearest, f_find_nearest, p_farthest, f_farthest, p_shifts, f_shifts, p_fewest_shifts, f_fewest_shifts, p_shift_groups, f_shift_groups, p_bracket, f_bracket, p_wheels_for, f_wheels_for, p_widest, f_widest, p_check_both, f_check_both, p_check_three_k20, f_check_three_k20]
theorem fw_time : p_find_wheel [.str "time"] = .ok (.int 1) := by kernel_rfl
theorem fw_ap : p_find_wheel [.str "aperture"] = .ok (.int 0) := by kernel_rfl
theorem cn_0 (m : Int) (hm : m = 4 ∨ m = 12) : p_check_number [.int 0, .int m] = .exc "InvalidNumber" := by rcases hm with rfl | rfl <;> kernel_rfl
theorem cn_5 : p_check_number [.int 5, .int 4] = .exc "InvalidNumber" := by kernel_rfl
theorem cn_1 : p_check_number [.int 1, .int 4] = .ok .none := by kernel_rfl
theorem cn_13 : p_check_number [.int 13, .int 12] = .exc "InvalidNumber" := by kernel_rfl
theorem cn_T : p_check_number [.bool true, .int 12] = .exc "InvalidNumber" := by kernel_rfl
theorem cn_N : p_check_number [.none, .int 4] = .exc "InvalidNumber" := by kernel_rfl
theorem cn_04 : p_check_number [.int 0, .int 4] = .exc "InvalidNumber" := by kernel_rfl
theorem cn_012 : p_check_number [.int 0, .int 12] = .exc "InvalidNumber" := by kernel_rfl
theorem nums_exc {C : List W3} (h : OkC C) {s : List Int} (hs : s ∈ sets C) : ∀ x ∈ sp_num, (∀ n ∈ x.1, n ∈ (["_law_box_here", "_law_one"] : List Str)) ∧ x.2 (x.1.map fun n => ((["_law_box_here", "_law_one"] : List Str).zip [cD C, eS s]).lookup n) = .exc "InvalidNumber" := by
  intro x hx
  simp only [sp_num, List.mem_cons, List.not_mem_nil, or_false] at hx
  rcases hx with rfl | rfl | rfl | rfl | rfl | rfl | rfl | rfl
  all_goals
    refine ⟨by decide +kernel, ?_⟩
    first
      | refine at_ (ρ := [some (cD C), some (eS s)]) rfl ?_
    simp [runD, check_camera_c h, check_setting_s h hs, fw_time, fw_ap, cn_5, cn_1, cn_13, cn_T, cn_N, cn_04, cn_012, p_is_setting, f_is_setting, p_values, f_values, p_count_settings, f_count_settings, p_exposure, f_exposure, p_error, f_error, p_right_settings, f_right_settings, p_count_right, f_count_right, p_reach, f_reach, p_reachable, f_reachable, p_commonest, f_commonest, p_gaps, f_gaps, p_least_error, f_least_error, p_nearest_settings, f_nearest_settings, p_worst_brightness, f_worst_brightness, p_clicks, f_clicks, p_fewest_clicks, f_fewest_clicks, p_nearest_right, f_nearest_right, p_find_nearest, f_find_nearest, p_farthest, f_farthest, p_shifts, f_shifts, p_fewest_shifts, f_fewest_shifts, p_shift_groups, f_shift_groups, p_bracket, f_bracket, p_wheels_for, f_wheels_for, p_widest, f_widest, p_check_both, f_check_both, p_check_three_k20, f_check_three_k20]
end Bv.K26
set_option Elab.async false
set_option linter.all false
set_option maxRecDepth 100000
set_option maxHeartbeats 1000000
namespace Bv.K26
open PySem PySem.Spec L2 Bv
noncomputable section
def g1 : FS := sUnp (.tp [1, 2]) (xTup (aC (xCall p__law_box (aC (xV 0) (aC (xK (.int 0)) (aC (xK (.int 4)) (aN))))) (aC (xCall p__law_pick (aC (xV 0) (aC (xK (.int 20)) (aC (xK (.int 8)) (aN))))) (aN))))
def g2 : FS := sUnp (.tp [3, 4]) (xTup (aC (xIdx (xCall p__law_every (aC (xV 1) (aN))) (xK (.int 0))) (aC (xTup (aC (xK (.int 0)) (aC (xK (.int 0)) (aC (xK (.int 1)) (aN))))) (aN))))
def g3 : FS := sSet 5 (xTup (aC (xTup (aC (xK (.int 41)) (aC (xK (.int 41)) (aC (xK (.int 1)) (aN))))) (aC (xV 4) (aC (xV 4) (aN)))))
def g4 : FS := sSet 6 (xIdx (xTup (aC (xK .none) (aC (xK (.int 5)) (aC (xTup (aC (xV 4) (aC (xV 4) (aN)))) (aC (xTup (aC (xTup (aC (xK (.int 0)) (aC (xK (.int 13)) (aC (xK (.int 1)) (aN))))) (aC (xV 4) (aC (xV 4) (aN))))) (aC (xV 5) (aC (xBin .Mult (xLst (aC (xV 4) (aN))) (xK (.int 3))) (aC (xTup (aC (xTup (aC (xK (.int 0)) (aC (xK (.int 0)) (aC (xK (.int 4)) (aN))))) (aC (xV 4) (aC (xV 4) (aN))))) (aC (xTup (aN)) (aN)))))))))) (xV 2))
def g5 : FS := sSet 7 (xTup (aC (xNeg (xK (.int 1))) (aC (xIdx (xV 3) (xK (.int 1))) (aC (xIdx (xV 3) (xK (.int 2))) (aN)))))
def g6 : FS := sSet 8 (xIdx (xTup (aC (xK .none) (aC (xK (.int 5)) (aC (xSli (xV 3) oN (oS (xK (.int 2)))) (aC (xBi .list (aC (xV 3) (aN))) (aC (xTup (aC (xK (.int 99)) (aC (xIdx (xV 3) (xK (.int 1))) (aC (xIdx (xV 3) (xK (.int 2))) (aN))))) (aC (xTup (aC (xIdx (xV 3) (xK (.int 0))) (aC (xK .none) (aC (xIdx (xV 3) (xK (.int 2))) (aN))))) (aC (xBin .Add (xV 3) (xTup (aC (xK (.int 0)) (aN)))) (aC (xV 7) (aN)))))))))) (xV 2))
def g7 : FS := sSet 9 (xIdx (xTup (aC (xK .none) (aC (xNeg (xK (.int 61))) (aC (xK (.int 121)) (aC (xK (.bool true)) (aC (xK (.str "5")) (aC (xTup (aC (xK (.int 5)) (aN))) (aC (xLst (aC (xK (.int 5)) (aN))) (aC (xNeg (xK (.int 99))) (aN)))))))))) (xV 2))
end
abbrev flat : PyData := .tuple [.int 0, .int 0, .int 1]
abbrev late : PyData := .tuple [.tuple [.int 41, .int 41, .int 1], flat, flat]
def nosL : List PyData := [.none, .int 5, .tuple [flat, flat], .tuple [.tuple [.int 0, .int 13, .int 1], flat, flat], late, .list [flat, flat, flat], .tuple [.tuple [.int 0, .int 0, .int 4], flat, flat], .tuple []]
theorem nos_exc : ∀ d ∈ nosL, p_check_camera [d] = .exc "InvalidCamera" := by
  intro d hd
  simp only [nosL, List.mem_cons, List.not_mem_nil, or_false] at hd
  rcases hd with rfl | rfl | rfl | rfl | rfl | rfl | rfl | rfl <;> kernel_rfl
def litsL : List PyData := [.none, .int (-61), .int 121, .bool true, .str "5", .tuple [.int 5], .list [.int 5], .int (-99)]
theorem lits_bad : ∀ d ∈ litsL, p_check_light [d] = .exc "InvalidBrightness" := by
  intro d hd
  simp only [litsL, List.mem_cons, List.not_mem_nil, or_false] at hd
  rcases hd with rfl | rfl | rfl | rfl | rfl | rfl | rfl | rfl <;> kernel_rfl
def badsL (a b c : Int) : List PyData := [.none, .int 5, .tuple [.int a, .int b], .list [.int a, .int b, .int c], .tuple [.int 99, .int b, .int c], .tuple [.int a, .none, .int c], .tuple [.int a, .int b, .int c, .int 0], .tuple [.int (-1), .int b, .int c]]
theorem bads_exc {C : List W3} (h : OkC C) (a b c : Int) : ∀ d ∈ badsL a b c, p_check_setting [cD C, d] = .exc "InvalidSetting" := by
  obtain ⟨w1, w2, w3, rfl⟩ := three h
  have o1 := h.ok w1 (by simp)
  have g3 : ∀ x y z : PyData, okI x = true → okI y = true → okI z = true → (itm x w1 = false ∨ itm y w2 = false) → p_has_setting [cD [w1, w2, w3], .tuple [x, y, z]] = .ok (.bool false) := fun x y z hx hy hz hi => by
    rw [has_setting_g h (ds := [x, y, z]) rfl fun d hd => by
      simp at hd
      rcases hd with rfl | rfl | rfl <;> assumption]
    rcases hi with hi | hi <;> simp [hi]
  have out : ∀ v : Int, (v < 0 ∨ 60 < v) → itm (.int v) w1 = false := fun v hv => by
    have : ¬ v ∈ vals w1 := fun z => by
      have := vals_60 o1 z
      omega
    simp [itm, this]
  intro d hd
  simp only [badsL, List.mem_cons, List.not_mem_nil, or_false] at hd
  rcases hd with rfl | rfl | rfl | rfl | rfl | rfl | rfl | rfl
  · exact check_setting_f has_setting_none
  · exact check_setting_f (by simp [p_has_setting, runD, f_has_setting, isiD])
  · exact check_setting_f (has_setting_n (by simp))
  · exact check_setting_f has_setting_list
  · exact check_setting_f (g3 _ _ _ rfl rfl rfl (.inl (out _ (by omega))))
  · exact check_setting_f (g3 _ _ _ rfl rfl rfl (.inr rfl))
  · exact check_setting_f (has_setting_n (by simp))
  · exact check_setting_f (g3 _ _ _ rfl rfl rfl (.inl (out _ (by omega))))
theorem idx_someT {l : List PyData} {j : Int} (h0 : 0 ≤ j) (h1 : j < l.length) : ∃ d ∈ l, idxD (.tuple l) (.int j) = .ok d := by
  obtain ⟨n, rfl⟩ := Int.eq_ofNat_of_zero_le h0
  have hn : n < l.length := by omega
  exact ⟨l[n], List.getElem_mem hn, idx_tup (List.getElem?_eq_getElem hn)⟩
structure Pre (S : PyData) (C : List W3) (s : List Int) (at_ no low bad light : PyData) : Prop where
  ok : OkC C
  ob : ∀ w ∈ C, OkB 4 w
  ms : s ∈ sets C
  hno : p_check_camera [no] = .exc "InvalidCamera"
  hbad : p_check_setting [cD C, bad] = .exc "InvalidSetting"
  hlight : p_check_light [light] = .exc "InvalidBrightness"
  e1 : g1 [some S, none, none, none, none, none, none, none, none, none, none, none, none] = .nx [some S, some (cD C), some at_, none, none, none, none, none, none, none, none, none, none]
  e2 : g2 [some S, some (cD C), some at_, none, none, none, none, none, none, none, none, none, none] = .nx [some S, some (cD C), some at_, some (eS s), some flat, none, none, none, none, none, none, none, none]
  e3 : g3 [some S, some (cD C), some at_, some (eS s), some flat, none, none, none, none, none, none, none, none] = .nx [some S, some (cD C), some at_, some (eS s), some flat, some late, none, none, none, none, none, none, none]
  e4 : g4 [some S, some (cD C), some at_, some (eS s), some flat, some late, none, none, none, none, none, none, none] = .nx [some S, some (cD C), some at_, some (eS s), some flat, some late, some no, none, none, none, none, none, none]
  e5 : g5 [some S, some (cD C), some at_, some (eS s), some flat, some late, some no, none, none, none, none, none, none] = .nx [some S, some (cD C), some at_, some (eS s), some flat, some late, some no, some low, none, none, none, none, none]
  e6 : g6 [some S, some (cD C), some at_, some (eS s), some flat, some late, some no, some low, none, none, none, none, none] = .nx [some S, some (cD C), some at_, some (eS s), some flat, some late, some no, some low, some bad, none, none, none, none]
  e7 : g7 [some S, some (cD C), some at_, some (eS s), some flat, some late, some no, some low, some bad, none, none, none, none] = .nx [some S, some (cD C), some at_, some (eS s), some flat, some late, some no, some low, some bad, some light, none, none, none]
theorem prelude {ns : List Int} (hn : ns.length ≤ 63) : ∃ C s at_ no low bad light, Pre (scrD (ns.map .int)) C s at_ no low bad light := by
  obtain ⟨C, hl, hw, eb⟩ := box_ok hn (at_ := 0) (m := 4) (by omega) (by omega) (by omega)
  have h := okC_of hl hw
  obtain ⟨j, j0, j1, ej⟩ := pick_ok hn (k := 20) (many := 8) (by omega) (by omega)
  obtain ⟨S, hS⟩ : ∃ S, S = scrD (ns.map .int) := ⟨_, rfl⟩
  rw [← hS] at eb ej ⊢
  have ev := every_c h
  obtain ⟨o, O, hO⟩ : ∃ o O, sets C = o :: O := by
    have := sets_pos h
    cases q : sets C with
    | nil => rw [q] at this; cases this
    | cons o O => exact ⟨o, O, rfl⟩
  have ho : o ∈ sets C := by rw [hO]; simp
  have i0 : idxD (.list ((sets C).map eS)) (.int 0) = .ok (eS o) := by
    rw [hO]; exact idx_list (i := 0) rfl
  obtain ⟨a, b, c, rfl⟩ := set3 h ho
  obtain ⟨no, m1, x1⟩ := idx_someT (l := nosL) j0 (by simpa [nosL] using j1)
  obtain ⟨bad, m2, x2⟩ := idx_someT (l := badsL a b c) j0 (by simpa [badsL] using j1)
  obtain ⟨light, m3, x3⟩ := idx_someT (l := litsL) j0 (by simpa [litsL] using j1)
  obtain ⟨cd, hcd⟩ : ∃ cd, cd = cD C := ⟨_, rfl⟩
  refine ⟨C, [a, b, c], .int j, no, .tuple [.int (-1), .int b, .int c], bad, light, h, hw, ho, nos_exc no m1, bads_exc h a b c bad m2, lits_bad light m3, ?_, ?_, ?_, ?_, ?_, ?_, ?_⟩
  · have t : tupM [cD C, .int j] = .ok (.tuple [cD C, .int j]) := rfl
    simp [g1, eb, ej, t]
  · have t : tupM [.int 0, .int 0, .int 1] = .ok flat := rfl
    have t2 : tupM [eS [a, b, c], flat] = .ok (.tuple [eS [a, b, c], flat]) := rfl
    simp [g2, ev, i0, t, t2]
  · rw [← hcd]
    exact sSet_ok (by kernel_rfl)
  · rw [← hcd]
    refine sSet_ok ?_
    have t : ∀ x y : PyData, (xTup (aC (xK .none) (aC (xK (.int 5)) (aC (xTup (aC (xV 4) (aC (xV 4) (aN)))) (aC (xTup (aC (xTup (aC (xK (.int 0)) (aC (xK (.int 13)) (aC (xK (.int 1)) (aN))))) (aC (xV 4) (aC (xV 4) (aN))))) (aC (xV 5) (aC (xBin .Mult (xLst (aC (xV 4) (aN))) (xK (.int 3))) (aC (xTup (aC (xTup (aC (xK (.int 0)) (aC (xK (.int 0)) (aC (xK (.int 4)) (aN))))) (aC (xV 4) (aC (xV 4) (aN))))) (aC (xTup (aN)) (aN)))))))))) [some S, some cd, some (.int j), some (eS [a, b, c]), some flat, some late, none, none, none, none, none, none, none] = .ok (.tuple nosL) := fun _ _ => by kernel_rfl
    rw [xIdx_ap, t .none .none, Res.ok_bind]
    exact x1
  · rw [← hcd]
    exact sSet_ok (by kernel_rfl)
  · rw [← hcd]
    refine sSet_ok ?_
    have t : ∀ x y : PyData, (xTup (aC (xK .none) (aC (xK (.int 5)) (aC (xSli (xV 3) oN (oS (xK (.int 2)))) (aC (xBi .list (aC (xV 3) (aN))) (aC (xTup (aC (xK (.int 99)) (aC (xIdx (xV 3) (xK (.int 1))) (aC (xIdx (xV 3) (xK (.int 2))) (aN))))) (aC (xTup (aC (xIdx (xV 3) (xK (.int 0))) (aC (xK .none) (aC (xIdx (xV 3) (xK (.int 2))) (aN))))) (aC (xBin .Add (xV 3) (xTup (aC (xK (.int 0)) (aN)))) (aC (xV 7) (aN)))))))))) [some S, some cd, some (.int j), some (eS [a, b, c]), some flat, some late, some no, some (.tuple [.int (-1), .int b, .int c]), none, none, none, none, none] = .ok (.tuple (badsL a b c)) := fun _ _ => by kernel_rfl
    rw [xIdx_ap, t .none .none, Res.ok_bind]
    exact x2
  · rw [← hcd]
    refine sSet_ok ?_
    have t : ∀ x y : PyData, (xTup (aC (xK .none) (aC (xNeg (xK (.int 61))) (aC (xK (.int 121)) (aC (xK (.bool true)) (aC (xK (.str "5")) (aC (xTup (aC (xK (.int 5)) (aN))) (aC (xLst (aC (xK (.int 5)) (aN))) (aC (xNeg (xK (.int 99))) (aN)))))))))) [some S, some cd, some (.int j), some (eS [a, b, c]), some flat, some late, some no, some (.tuple [.int (-1), .int b, .int c]), some bad, none, none, none, none] = .ok (.tuple litsL) := fun _ _ => by kernel_rfl
    rw [xIdx_ap, t .none .none, Res.ok_bind]
    exact x3
/-- no row so wide -/
theorem no_row {C : List W3} (h : OkC C) (hw : ∀ w ∈ C, OkB 4 w) {s : List Int} (hs : s ∈ sets C) : p_bracket [cD C, eS s, .str "time", .int 4, .int 12] = .ok .none := by
  obtain ⟨w, v, A⟩ := at_of h hs (p := 1) (by omega)
  have e := A.bracket (m := 4) (z := 12) (by omega) (by omega) (by omega) (by omega)
  have nb : brk s 1 w v 4 12 = none := by
    unfold brk
    refine if_neg fun z => ?_
    have k1 := List.all_eq_true.mp z 4 (mem_rg.mpr ⟨by omega, by omega⟩)
    have k2 := List.all_eq_true.mp z (-4) (mem_rg.mpr ⟨by omega, by omega⟩)
    rw [decide_eq_true_iff] at k1 k2
    have ow := A.ow
    have u1 := vals_60 ow k1
    have u2 := vals_60 ow k2
    have : sg 1 = 1 ∨ sg 1 = -1 := by unfold sg; simp
    rcases this with q | q <;> rw [q] at u1 u2 <;> omega
  rw [nb] at e
  exact e
end Bv.K26
set_option Elab.async false
set_option linter.all false
set_option maxRecDepth 100000
set_option maxHeartbeats 0
namespace Bv.K26
open PySem PySem.Spec L2 Bv
def forBody : Stmt → List Stmt
  | .For _ _ b _ _ => b
  | _ => []
abbrev lawNs : List Str := ["_law_script", "_law_box_here", "_law_at", "_law_one", "_law_flat", "_law_late", "_law_no", "_law_low", "_law_bad", "_law_light", "_law_name", "_law_calls", "_law_numbers"]
abbrev loopSts : List Stmt := forBody ((defBody S_law).getD 9 (.Pass ⟨0, 0, 0, 0⟩))
theorem sc_law : FnScope lawNs ["_law_script"] (defScope S_law) := ⟨rfl, rfl, rfl, by decide +kernel, rfl, by decide +kernel, by decide +kernel⟩
section
variable {P : Program} {w : World} {K : PySem.W.Frag} {mg : Str → Option Value} {base : Heap} {T : List (Addr × Str)}
def spLaw (K : PySem.W.Frag) (T : List (Addr × Str)) : Sp := fun vs H Q _ => ∃ (a : Addr) (ns : List Int), vs = [.ref a] ∧ ns.length ≤ 63 ∧ SqL K H a (ns.map V.int) ∧ LamX.Tabs T H ∧ ∀ H', Q (.bl true) H'
abbrev lawX (P : Program) (w : World) (K : PySem.W.Frag) (mg : Str → Option Value) (base : Heap) (cdv : Value) (A : Around) (outer : List Env) (s : Shared) (H : Hp) (E : XK) : Cx := cxOf (L2.CX P w) P w K mg base lawNs "law" (defScope S_law) (He.ga K "law") cdv A outer s H E
theorem ite_no {a b : Prop} (h : b) : if (!true) = true then a else b := h
theorem ite_yes {a b : Prop} (h : a) : if (true : Bool) = true then a else b := h
def namesL : List PyData := [.none, .str "", .str "Time", .str "speed", .list [.str "time"], .int 1]
theorem names_bad : ∀ d ∈ namesL, p_find_wheel [d] = .exc "InvalidWheel" := by
  intro d hd
  simp only [namesL, List.mem_cons, List.not_mem_nil, or_false] at hd
  rcases hd with rfl | rfl | rfl | rfl | rfl | rfl <;> kernel_rfl
theorem names_fi {ρ : Rho} : (iSq' (xTup (aC (xK .none) (aC (xK (.str "")) (aC (xK (.str "Time")) (aC (xK (.str "speed")) (aC (xLst (aC (xK (.str "time")) (aN))) (aC (xK (.int 1)) (aN))))))))) ρ = .ok namesL := by kernel_rfl
theorem script_g {H : Hp} {a : Addr} {xs : List V} (hT : LamX.Tabs T H) (hS : SqL K H a xs) : ∃ G, Same G H ∧ SqL K G a xs ∧ ∀ p ∈ T, G p.1 = none := by
  have one : ∀ o, H a = some o → (∀ ps, o ≠ .tbl ps) → Same (fun b => if b = a then some o else none) H ∧ ∀ p ∈ T, (if p.1 = a then some o else none) = none := fun o e n => by
    refine ⟨fun b u z => ?_, fun p hp => ?_⟩
    · by_cases hb : b = a
      · have z' := (if_pos hb).symm.trans z
        rw [hb, e]; exact z'
      · have z' := (if_neg hb).symm.trans z
        cases z'
    · exact if_neg (tabs_ne hT e n p hp)
  rcases hS with (h | ⟨o, h⟩) | h
  · obtain ⟨h1, h2⟩ := one _ h fun ps z => by cases z
    exact ⟨_, h1, .inl (.inl (if_pos rfl)), h2⟩
  · obtain ⟨h1, h2⟩ := one _ h fun ps z => by cases z
    exact ⟨_, h1, .inl (.inr ⟨o, if_pos rfl⟩), h2⟩
  · exact ⟨fun _ => none, fun _ _ z => (nomatch z), .inr h, fun _ _ => rfl⟩
theorem LawSt.weak {ρ ρ' : Rho} {σ : L2.St} {G H : Hp} (h : LawSt K T ρ σ G H) (hl : ρ'.length = ρ.length) (k : ∀ (i : Nat) (d : PyData), ρ'[i]? = some (some d) → ρ[i]? = some (some d)) : LawSt K T ρ' σ G H := by
  obtain ⟨al, rl⟩ := h.rl
  exact ⟨⟨al, ⟨rl.sub, hl.trans rl.len, fun i d e hi => rl.sh i d (k i d e) hi, fun i d e hi => absurd hi List.not_mem_nil, fun i j d e hi => absurd hi List.not_mem_nil⟩⟩, h.tb, h.gt⟩
theorem loop_sts (kw : Kw K mg) {cdv : Value} {A : Around} {outer : List Env} {s : Shared} {H : Hp} {E : XK} (TX : TabX (lawX P w K mg base cdv A outer s H E) T) : LamSts P w K mg base (lawX P w K mg base cdv A outer s H E) T 11 (loopSts.drop 1) [(["_law_box_here", "_law_one", "_law_name"], xCall p_bracket (aC (xV 0) (aC (xV 1) (aC (xV 2) (aC (xK (.int 0)) (aC (xK (.int 0)) (aN))))))), (["_law_box_here", "_law_one", "_law_name"], xCall p_widest (aC (xV 0) (aC (xV 1) (aC (xV 2) (aC (xK (.int 0)) (aN))))))] (loopSts.drop 3) := by
  refine .cons (ps_lamN TX (hfree := lf)) (lok (N := ["_law_box_here", "_law_one", "_law_name"]) (fe := xCall p_bracket (aC (xV 0) (aC (xV 1) (aC (xV 2) (aC (xK (.int 0)) (aC (xK (.int 0)) (aN))))))) fun q f c' clo A outer s H E hr => by have hu := hu65 hr; exact cl (d_bracket kw) hr (vc (nv 0) (vc (nv 1) (vc (nv 2) (vc (ki) (vc (ki) (vn))))))) ?_
  refine .cons (ps_lamN TX (hfree := lf)) (lok (N := ["_law_box_here", "_law_one", "_law_name"]) (fe := xCall p_widest (aC (xV 0) (aC (xV 1) (aC (xV 2) (aC (xK (.int 0)) (aN)))))) fun q f c' clo A outer s H E hr => by have hu := hu65 hr; exact cl (d_widest kw) hr (vc (nv 0) (vc (nv 1) (vc (nv 2) (vc (ki) (vn)))))) ?_
  exact .nil
theorem num_sts (kw : Kw K mg) {cdv : Value} {A : Around} {outer : List Env} {s : Shared} {H : Hp} {E : XK} (TX : TabX (lawX P w K mg base cdv A outer s H E) T) : LamSts P w K mg base (lawX P w K mg base cdv A outer s H E) T 12 ((defBody S_law).drop 11) [(["_law_box_here", "_law_one"], xCall p_bracket (aC (xV 0) (aC (xV 1) (aC (xK (.str "time")) (aC (xK (.int 5)) (aC (xK (.int 1)) (aN))))))), (["_law_box_here", "_law_one"], xCall p_bracket (aC (xV 0) (aC (xV 1) (aC (xK (.str "time")) (aC (xK (.int 1)) (aC (xK (.int 13)) (aN))))))), (["_law_box_here", "_law_one"], xCall p_bracket (aC (xV 0) (aC (xV 1) (aC (xK (.str "time")) (aC (xK (.int 1)) (aC (xK (.bool true)) (aN))))))), (["_law_box_here", "_law_one"], xCall p_wheels_for (aC (xV 0) (aC (xV 1) (aC (xK (.int 1)) (aC (xK (.int 0)) (aN)))))), (["_law_box_here", "_law_one"], xCall p_wheels_for (aC (xV 0) (aC (xV 1) (aC (xK (.int 5)) (aC (xK (.int 1)) (aN)))))), (["_law_box_here", "_law_one"], xCall p_widest (aC (xV 0) (aC (xV 1) (aC (xK (.str "aperture")) (aC (xK (.int 0)) (aN)))))), (["_law_box_here", "_law_one"], xCall p_widest (aC (xV 0) (aC (xV 1) (aC (xK (.str "aperture")) (aC (xK .none) (aN))))))] ((defBody S_law).drop 18) := by
  refine .cons (ps_lamN TX (hfree := lf)) (lok (N := ["_law_box_here", "_law_one"]) (fe := xCall p_bracket (aC (xV 0) (aC (xV 1) (aC (xK (.str "time")) (aC (xK (.int 5)) (aC (xK (.int 1)) (aN))))))) fun q f c' clo A outer s H E hr => by have hu := hu65 hr; exact cl (d_bracket kw) hr (vc (nv 0) (vc (nv 1) (vc (ks) (vc (ki) (vc (ki) (vn))))))) ?_
  refine .cons (ps_lamN TX (hfree := lf)) (lok (N := ["_law_box_here", "_law_one"]) (fe := xCall p_bracket (aC (xV 0) (aC (xV 1) (aC (xK (.str "time")) (aC (xK (.int 1)) (aC (xK (.int 13)) (aN))))))) fun q f c' clo A outer s H E hr => by have hu := hu65 hr; exact cl (d_bracket kw) hr (vc (nv 0) (vc (nv 1) (vc (ks) (vc (ki) (vc (ki) (vn))))))) ?_
  refine .cons (ps_lamN TX (hfree := lf)) (lok (N := ["_law_box_here", "_law_one"]) (fe := xCall p_bracket (aC (xV 0) (aC (xV 1) (aC (xK (.str "time")) (aC (xK (.int 1)) (aC (xK (.bool true)) (aN))))))) fun q f c' clo A outer s H E hr => by have hu := hu65 hr; exact cl (d_bracket kw) hr (vc (nv 0) (vc (nv 1) (vc (ks) (vc (ki) (vc (kb) (vn))))))) ?_
  refine .cons (ps_lamN TX (hfree := lf)) (lok (N := ["_law_box_here", "_law_one"]) (fe := xCall p_wheels_for (aC (xV 0) (aC (xV 1) (aC (xK (.int 1)) (aC (xK (.int 0)) (aN)))))) fun q f c' clo A outer s H E hr => by have hu := hu65 hr; exact cl (d_wheels_for kw) hr (vc (nv 0) (vc (nv 1) (vc (ki) (vc (ki) (vn)))))) ?_
  refine .cons (ps_lamN TX (hfree := lf)) (lok (N := ["_law_box_here", "_law_one"]) (fe := xCall p_wheels_for (aC (xV 0) (aC (xV 1) (aC (xK (.int 5)) (aC (xK (.int 1)) (aN)))))) fun q f c' clo A outer s H E hr => by have hu := hu65 hr; exact cl (d_wheels_for kw) hr (vc (nv 0) (vc (nv 1) (vc (ki) (vc (ki) (vn)))))) ?_
  refine .cons (ps_lamN TX (hfree := lf)) (lok (N := ["_law_box_here", "_law_one"]) (fe := xCall p_widest (aC (xV 0) (aC (xV 1) (aC (xK (.str "aperture")) (aC (xK (.int 0)) (aN)))))) fun q f c' clo A outer s H E hr => by have hu := hu65 hr; exact cl (d_widest kw) hr (vc (nv 0) (vc (nv 1) (vc (ks) (vc (ki) (vn)))))) ?_
  refine .cons (ps_lamN TX (hfree := lf)) (lok (N := ["_law_box_here", "_law_one"]) (fe := xCall p_widest (aC (xV 0) (aC (xV 1) (aC (xK (.str "aperture")) (aC (xK .none) (aN)))))) fun q f c' clo A outer s H E hr => by have hu := hu65 hr; exact cl (d_widest kw) hr (vc (nv 0) (vc (nv 1) (vc (ks) (vc (kn) (vn)))))) ?_
  exact .nil
theorem h_law (kw : Kw K mg) (t0 : HasTab K mg base T "law") (t1 : HasTab K mg base T "_law_cameras") (t2 : HasTab K mg base T "_law_set") (t3 : HasTab K mg base T "_law_lit") {fd : FuncData} (F : FunD K "law" "law" (defArgs S_law) (defBody S_law) (defScope S_law) [] [] (He.ga K "law") fd) : FnOk P w K mg base (L2.CX P w) 11 (He.ga K "law") fd ["_law_script"] (spLaw K T) := by
  obtain ⟨oc, od, dV, kV, doc, pm, an, cdv, ct, osl, rfl, lk, hcd, _, _⟩ := F.ex
  refine fn_of lk hcd sc_law (fun vs H Q E h => ?_) (fun A outer s H vs Q E hr h => ?_)
  · obtain ⟨a, ns, rfl, _⟩ := h; rfl
  obtain ⟨a, ns, rfl, hn, hS, hT, hQ⟩ := h
  have nd := sc_law.nd
  have hu := hu65 hr
  have TX : TabX (lawX P w K mg base cdv A outer s H E) T := tabX_of t0 lk rfl
  obtain ⟨t10, h10, k10⟩ := LamSts.pss (loop_sts (P := P) (w := w) (base := base) (A := A) (outer := outer) (s := s) (H := H) (E := E) kw TX) (pss_one (ps_if (pt_not (pt_val (pe_live (T := T) (j := 11) (q := "law" ++ ".<locals>." ++ "<lambda>") kw hr rfl (.inl rfl) (by decide) (by decide) rfl (by decide +kernel) rfl rfl rfl))) (pss_one (ps_ret pe_bl)) pss_nil))
  obtain ⟨t11, h11, k11⟩ := LamSts.pss (num_sts (P := P) (w := w) (base := base) (A := A) (outer := outer) (s := s) (H := H) (E := E) kw TX) (pss_one (ps_ret (pe_and (pe_live (T := T) (j := 12) (q := "law" ++ ".<locals>." ++ "<lambda>") kw hr rfl (.inl rfl) (by decide) (by decide) rfl (by decide +kernel) rfl rfl rfl) (pe_one (show EV (lawX P w K mg base cdv A outer s H E) (PmE K E) [] _ (xCmp .Is (xCall p_bracket (aC (xV 1) (aC (xV 3) (aC (xK (.str "time")) (aC (xK (.int 4)) (aC (xK (.int 12)) (aN))))))) (xK .none)) from cm hu (EV.x (cl (d_bracket kw) hr (vc (nv 1) (vc (nv 3) (vc (ks) (vc (ki) (vc (ki) (vn)))))))) (EV.x (kn)))))))
  refine ⟨_, (pss_cons (su [] (tu (vc (cl (d__law_box kw) hr (vc (nv 0) (vc (ki) (vc (ki) (vn))))) (vc (cl (d__law_pick kw) hr (vc (nv 0) (vc (ki) (vc (ki) (vn))))) (vn)))) (gt (gc 1 nd (gc 2 nd (gn)))) : SV (lawX P w K mg base cdv A outer s H E) (PmE K E) [] [] _ g1) (pss_cons (su [] (tu (vc (ix hu (EV.x (cl (d__law_every kw) hr (vc (nv 1) (vn)))) (EV.x (ki))) (vc (tu (vc (ki) (vc (ki) (vc (ki) (vn))))) (vn)))) (gt (gc 3 nd (gc 4 nd (gn)))) : SV (lawX P w K mg base cdv A outer s H E) (PmE K E) [] [] _ g2) (pss_cons (st 5 [] nd (tu (vc (tu (vc (ki) (vc (ki) (vc (ki) (vn))))) (vc (nv 4) (vc (nv 4) (vn))))) : SV (lawX P w K mg base cdv A outer s H E) (PmE K E) [] [] _ g3) (pss_cons (st 6 [] nd (ix hu (EV.x (tu (vc (kn) (vc (ki) (vc (tu (vc (nv 4) (vc (nv 4) (vn)))) (vc (tu (vc (tu (vc (ki) (vc (ki) (vc (ki) (vn))))) (vc (nv 4) (vc (nv 4) (vn))))) (vc (nv 5) (vc (bn (EV.x (ls (vc (nv 4) (vn)))) (EV.x (ki))) (vc (tu (vc (tu (vc (ki) (vc (ki) (vc (ki) (vn))))) (vc (nv 4) (vc (nv 4) (vn))))) (vc (tu (vn)) (vn))))))))))) (nx 2)) : SV (lawX P w K mg base cdv A outer s H E) (PmE K E) [] [] _ g4) (pss_cons (st 7 [] nd (tu (vc (ng (EV.x (ki))) (vc (ix hu (nx 3) (EV.x (ki))) (vc (ix hu (nx 3) (EV.x (ki))) (vn))))) : SV (lawX P w K mg base cdv A outer s H E) (PmE K E) [] [] _ g5) (pss_cons (st 8 [] nd (ix hu (EV.x (tu (vc (kn) (vc (ki) (vc (sl (nx 3) o0 (o1 (EV.x (ki)))) (vc (bi .list hu (b_list kw) (uc (nx 3) (un))) (vc (tu (vc (ki) (vc (ix hu (nx 3) (EV.x (ki))) (vc (ix hu (nx 3) (EV.x (ki))) (vn))))) (vc (tu (vc (ix hu (nx 3) (EV.x (ki))) (vc (kn) (vc (ix hu (nx 3) (EV.x (ki))) (vn))))) (vc (bn (nx 3) (EV.x (tu (vc (ki) (vn))))) (vc (nv 7) (vn))))))))))) (nx 2)) : SV (lawX P w K mg base cdv A outer s H E) (PmE K E) [] [] _ g6) (pss_cons (st 9 [] nd (ix hu (EV.x (tu (vc (kn) (vc (ng (EV.x (ki))) (vc (ki) (vc (kb) (vc (ks) (vc (tu (vc (ki) (vn))) (vc (ls (vc (ki) (vn))) (vc (ng (EV.x (ki))) (vn))))))))))) (nx 2)) : SV (lawX P w K mg base cdv A outer s H E) (PmE K E) [] [] _ g7)
    (pss_cons (ps_if (PW.pt (pw_or (pt_not (pt_val (pe_mkall (P := P) (w := w) (K := K) (mg := mg) (base := base) (T := T) (X := (lawX P w K mg base cdv A outer s H E)) (Pq := PmE K E) kw rfl rfl rfl rfl rfl hr (mk_cameras kw t1) (g__law_cameras kw) (vc (nv 6) (vn)) (by decide +kernel) (by decide) rfl rfl (by decide) rfl rfl rfl rfl rfl))) (pw_or1 (pt_not (pt_val (pe_mkall (P := P) (w := w) (K := K) (mg := mg) (base := base) (T := T) (X := (lawX P w K mg base cdv A outer s H E)) (Pq := PmE K E) kw rfl rfl rfl rfl rfl hr (mk_set kw t2) (g__law_set kw) (vc (nv 1) (vc (nv 3) (vc (nv 8) (vn)))) (by decide +kernel) (by decide) rfl rfl (by decide) rfl rfl rfl rfl rfl)))))) (pss_one (ps_ret pe_bl)) pss_nil)
    (pss_cons (ps_if (pt_not (pt_val (pe_mkall (P := P) (w := w) (K := K) (mg := mg) (base := base) (T := T) (X := (lawX P w K mg base cdv A outer s H E)) (Pq := PmE K E) kw rfl rfl rfl rfl rfl hr (mk_lit kw t3) (g__law_lit kw) (vc (nv 1) (vc (nv 3) (vc (nv 9) (vn)))) (by decide +kernel) (by decide) rfl rfl (by decide) rfl rfl rfl rfl rfl))) (pss_one (ps_ret pe_bl)) pss_nil)
    (pss_cons (ps_for (L2.passes_of rfl) rfl (show IV (lawX P w K mg base cdv A outer s H E) (PmE K E) [] _ _ (iSq' (xTup (aC (xK .none) (aC (xK (.str "")) (aC (xK (.str "Time")) (aC (xK (.str "speed")) (aC (xLst (aC (xK (.str "time")) (aN))) (aC (xK (.int 1)) (aN))))))))) from isq (tu (vc (kn) (vc (ks) (vc (ks) (vc (ks) (vc (ls (vc (ks) (vn))) (vc (ki) (vn))))))))) (gt1 10 nd) (pss_cons (ps_lam1 (i := 11) TX nd (hfree := lf)) h10))
    (pss_cons (ps_lam1 (i := 12) TX nd (hfree := lf)) h11))))))))))), ?_⟩
  obtain ⟨C, s0, at_, no, low, bad, light, pr⟩ := prelude hn
  obtain ⟨G0, sG0, hS0, gT0⟩ := script_g (K := K) hT hS
  obtain ⟨S, hSd⟩ : ∃ S, S = scrD (ns.map .int) := ⟨_, rfl⟩
  rw [← hSd] at pr
  have st0 : LawSt K T [some S, none, none, none, none, none, none, none, none, none, none, none, none] (L2.start lawNs [.ref a]) G0 H := ⟨⟨_, by rw [hSd]; exact (start_rl (ds := [scrD (ns.map .int)]) (n := 1) (m := 12) sG0 (.cons (.scr hS0) .nil) rfl rfl).r⟩, hT, gT0⟩
  refine law_sv st0 pr.e1 fun σ1 G1 H1 s1 => law_sv s1 pr.e2 fun σ2 G2 H2 s2 => law_sv s2 pr.e3 fun σ3 G3 H3 s3 => law_sv s3 pr.e4 fun σ4 G4 H4 s4 => law_sv s4 pr.e5 fun σ5 G5 H5 s5 => law_sv s5 pr.e6 fun σ6 G6 H6 s6 => law_sv s6 pr.e7 fun σ7 G7 H7 s7 => ?_
  obtain ⟨ρ7, hρ⟩ : ∃ ρ7 : Rho, ρ7 = [some S, some (cD C), some at_, some (eS s0), some flat, some late, some no, some low, some bad, some light, none, none, none] := ⟨_, rfl⟩
  rw [← hρ] at s7
  refine ⟨ρ7, G7, [no], s7, by rw [hρ]; rfl, rfl, cams_exc pr.hno, fun G8 H8 s8 => ⟨true, rfl, ?_⟩⟩
  refine ite_no ?_
  refine ⟨ρ7, G8, [cD C, eS s0, bad], s8, by rw [hρ]; rfl, rfl, sets_exc pr.ok pr.ms pr.hbad, fun G9 H9 s9 => ⟨true, rfl, ?_⟩⟩
  refine ite_no ?_
  refine ⟨ρ7, G9, [cD C, eS s0, light], s9, by rw [hρ]; rfl, rfl, lits_exc pr.ok pr.ms pr.hlight, fun G10 H10 s10 => ⟨true, rfl, ?_⟩⟩
  refine ite_no ?_
  obtain ⟨al, rl⟩ := s10.rl
  refine ⟨ρ7, G10, al, rl, ?_⟩
  rw [names_fi]
  intro J Gx Hx x ⟨wk, hlen⟩
  refine ⟨fun i m σ H => m = 6 - i ∧ i ≤ 6 ∧ ∃ G, Same Gx G ∧ LawSt K T ρ7 σ G H, ⟨6, rfl, Nat.zero_le _, Gx, Same.refl _, s10.ex2 x⟩, ?_⟩
  rintro i m σ Hi ⟨rfl, hi, G, sG, si⟩
  obtain ⟨w1, w2⟩ := wk i G Hi sG si.sub
  by_cases hlt : i < 6
  · obtain ⟨d, hd, hdm⟩ : ∃ d, namesL[i]? = some d ∧ d ∈ namesL := ⟨_, List.getElem?_eq_getElem hlt, List.getElem_mem hlt⟩
    obtain ⟨go, yl⟩ := w1 d hd
    refine .inr ⟨go, fun σ' H' => ∃ G', Same Gx G' ∧ LawSt K T ρ7 σ' G' H', fun σ' H' h => ⟨6 - (i + 1), by omega, rfl, by omega, h⟩, fun xv Hy hy => ?_⟩
    obtain ⟨G2, x2, q2⟩ := yl xv Hy hy
    have sy := (si.ex2 x2).put (j := 10) q2
    unfold tgG gName
    refine ⟨sy.tb, fun l f H3 nl eT T1 e1 hl1 => ?_⟩
    have lenσ : (σ.set 10 (some xv)).length = 13 := by
      obtain ⟨al, rl⟩ := sy.rl
      rw [← rl.len, List.length_set, hρ]
      rfl
    have hσ : ((σ.set 10 (some xv)).set 11 (some (.ref l)))[11]? = some (some (.ref l)) := List.getElem?_set_self (by rw [lenσ]; omega)
    refine k10 _ l Hy H3 [(["_law_box_here", "_law_name"], xCall p_values (aC (xV 0) (aC (xV 1) (aN))))] _ hσ (LamG.start nl eT T1 e1 hl1 (lok (N := ["_law_box_here", "_law_name"]) (fe := xCall p_values (aC (xV 0) (aC (xV 1) (aN)))) fun q f c' clo A outer s H E hr => by have hu := hu65 hr; exact cl (d_values kw) hr (vc (nv 0) (vc (nv 1) (vn))))) (by decide) fun H4 g4 => ?_
    have sk := (sy.extT g4.ex g4.tb).skip (j := 11) (v := .ref l) (fun d' => by rw [hρ]; intro z; cases z)
    refine ⟨l, Hy, sp_name, G2, (["_law_box_here", "_law_one", "_law_name"] : List Str).zip [cD C, eS s0, d], hσ, g4, by decide, sk.sub, fun y d' e => ?_, fun z hz => ?_, fun H5 sm => ⟨true, rfl, ?_⟩⟩
    · obtain ⟨k, e1, e2⟩ := (zip_look (β := PyData) (ps := ["_law_box_here", "_law_one", "_law_name"]) (ds := [cD C, eS s0, d]) rfl).2 y d' e
      have hk : k < 3 := (List.getElem?_eq_some_iff.mp e2).1
      have hk3 : k = 0 ∨ k = 1 ∨ k = 2 := by omega
      rcases hk3 with rfl | rfl | rfl
      · cases e1; cases e2
        obtain ⟨v, hv, q⟩ := sk.at (i := 1) (d := cD C) (by rw [hρ]; rfl)
        exact ⟨1, v, rfl, hv, by kernel_rfl, q⟩
      · cases e1; cases e2
        obtain ⟨v, hv, q⟩ := sk.at (i := 3) (d := eS s0) (by rw [hρ]; rfl)
        exact ⟨3, v, rfl, hv, by kernel_rfl, q⟩
      · cases e1; cases e2
        obtain ⟨v, hv, q⟩ := sk.at (i := 10) (d := d) (by rw [hρ]; rfl)
        exact ⟨10, v, rfl, hv, by kernel_rfl, q⟩
    · obtain ⟨z1, z2⟩ := names_exc pr.ok pr.ms (names_bad d hdm) z hz
      exact ⟨fun n hn => (zip_look (β := PyData) (ps := ["_law_box_here", "_law_one", "_law_name"]) (ds := [cD C, eS s0, d]) rfl).1 n (z1 n hn), z2⟩
    · refine ite_no ?_
      refine ⟨G2, sG.trans x2.g, (sk.same sm).weak (by rw [List.length_set]) fun k d' e => ?_⟩
      have : k ≠ 10 := fun z => by rw [z, hρ] at e; cases e
      rw [List.getElem?_set_ne (Ne.symm this)]
      exact e
  · have ei : i = 6 := by omega
    subst ei
    refine .inl ⟨w2 rfl, ?_⟩
    refine ⟨si.tb, fun l f H3 nl eT T1 e1 hl1 => ?_⟩
    have lenσ : σ.length = 13 := by
      obtain ⟨al, rl⟩ := si.rl
      rw [← rl.len, hρ]
      rfl
    have hσ : (σ.set 12 (some (.ref l)))[12]? = some (some (.ref l)) := List.getElem?_set_self (by rw [lenσ]; omega)
    refine k11 _ l Hi H3 [(["_law_box_here", "_law_one"], xCall p_bracket (aC (xV 0) (aC (xV 1) (aC (xK (.str "time")) (aC (xK (.int 0)) (aC (xK (.int 0)) (aN)))))))] _ hσ (LamG.start nl eT T1 e1 hl1 (lok (N := ["_law_box_here", "_law_one"]) (fe := xCall p_bracket (aC (xV 0) (aC (xV 1) (aC (xK (.str "time")) (aC (xK (.int 0)) (aC (xK (.int 0)) (aN))))))) fun q f c' clo A outer s H E hr => by have hu := hu65 hr; exact cl (d_bracket kw) hr (vc (nv 0) (vc (nv 1) (vc (ks) (vc (ki) (vc (ki) (vn)))))))) (by decide) fun H4 g4 => ?_
    have sk := (si.extT g4.ex g4.tb).skip (j := 12) (v := .ref l) (fun d' => by rw [hρ]; intro z; cases z)
    refine ⟨l, Hi, sp_num, G, (["_law_box_here", "_law_one"] : List Str).zip [cD C, eS s0], hσ, g4, by decide, sk.sub, fun y d' e => ?_, fun z hz => ?_, fun H5 sm => ⟨true, rfl, ?_⟩⟩
    · obtain ⟨k, e1, e2⟩ := (zip_look (β := PyData) (ps := ["_law_box_here", "_law_one"]) (ds := [cD C, eS s0]) rfl).2 y d' e
      have hk : k < 2 := (List.getElem?_eq_some_iff.mp e2).1
      have hk3 : k = 0 ∨ k = 1 := by omega
      rcases hk3 with rfl | rfl
      · cases e1; cases e2
        obtain ⟨v, hv, q⟩ := sk.at (i := 1) (d := cD C) (by rw [hρ]; rfl)
        exact ⟨1, v, rfl, hv, by kernel_rfl, q⟩
      · cases e1; cases e2
        obtain ⟨v, hv, q⟩ := sk.at (i := 3) (d := eS s0) (by rw [hρ]; rfl)
        exact ⟨3, v, rfl, hv, by kernel_rfl, q⟩
    · obtain ⟨z1, z2⟩ := nums_exc pr.ok pr.ms z hz
      exact ⟨fun n hn => (zip_look (β := PyData) (ps := ["_law_box_here", "_law_one"]) (ds := [cD C, eS s0]) rfl).1 n (z1 n hn), z2⟩
    · refine ite_yes ?_
      obtain ⟨al2, rl2⟩ := (sk.same sm).rl
      refine ⟨ρ7, G, al2, rl2, ?_⟩
      have nr := no_row pr.ok pr.ob pr.ms
      have ef : (xCmp .Is (xCall p_bracket (aC (xV 1) (aC (xV 3) (aC (xK (.str "time")) (aC (xK (.int 4)) (aC (xK (.int 12)) (aN))))))) (xK .none)) ρ7 = .ok (.bool true) := by
        rw [hρ]
        simp [nr]
      rw [ef]
      intro v G6 H6 x6 r6
      rw [dr_bl r6]
      exact hQ _
end
end Bv.K26
set_option Elab.async false
set_option linter.all false
set_option maxRecDepth 100000
set_option maxHeartbeats 1000000
namespace Bv
open PySem PySem.Spec PyProof.Rows L2 LamX
def isTabO (o : Obj) : Bool := match o with
  | ⟨.none, none, .fields ⟨[]⟩, ⟨[]⟩⟩ => true
  | _ => false
theorem isTabO_eq {o : Obj} (h : isTabO o = true) : o = { cls := .none, data := .fields #[] } := by
  unfold isTabO at h
  split at h
  · rfl
  · cases h
def cutT (K : PySem.W.Frag) : PySem.W.Frag := K.filter fun p => !isTabO p.2
theorem lookup_mem {α : Type} : ∀ {l : List (Addr × α)} {a : Addr} {o : α}, l.lookup a = some o → (a, o) ∈ l
  | (b, u) :: r, a, o, h => by
    rw [List.lookup_cons] at h
    cases q : a == b with
    | true =>
      rw [q] at h
      cases h
      rw [beq_iff_eq.mp q]
      exact List.mem_cons_self
    | false =>
      rw [q] at h
      exact List.mem_cons_of_mem _ (lookup_mem h)
theorem cutT_in {as : List Addr} {h : Heap} : (cutT (He.frG h.get? as)).In h := fun a o e => by
  have h1 := (List.mem_filter.mp (lookup_mem e)).1
  obtain ⟨b, _, hb⟩ := List.mem_filterMap.mp h1
  cases q : h.get? b with
  | none => rw [q] at hb; cases hb
  | some u =>
    rw [q] at hb
    have hb : (b, u) = (a, o) := Option.some.inj hb
    cases hb
    exact q
/-- a code object's table -/
def codeP (o : Obj) : Option Addr := match o with
  | ⟨.type t, _, .fields vs, _⟩ => if t == "code" then (match (vs[11]? : Option Value), vs.getD 11 .none, vs.getD 18 .none, vs.getD 7 .none, vs.getD 9 .none, vs.getD 10 .none with
    | some (.ref P), .ref P', .str _ _, .int _ _, .bool _, .int _ _ => if P = P' then some P else none
    | _, _, _, _, _, _ => none) else none
  | _ => none
theorem codeP_hd {h : Heap} {c P : Addr} {o : Obj} (e : h.get? c = some o) (hp : codeP o = some P) (ne : c ≠ P) : PySem.W.CodeHd h c P := by
  unfold codeP at hp
  split at hp
  · rename_i t od vs sl
    split at hp
    · rename_i ht
      split at hp
      · rename_i P1 P2 f1 f2 i1 i2 b1 i3 i4 h1 h2 h3 h4 h5 h6
        split at hp
        · rename_i hq
          cases hp
          exact ⟨_, vs, _, _, _, _, _, _, _, e, congrArg Value.type (beq_iff_eq.mp ht), rfl, h1, hq ▸ h2, h3, h4, h5, h6, ne⟩
        · cases hp
      · cases hp
    · cases hp
  · cases hp
def tabOf (K : PySem.W.Frag) (x : Str) : Option (Addr × Addr) := match K.lookup (He.ga K x) with
  | some ⟨_, _, .func fd, _⟩ => (match fd.code with
    | .ref c => (match K.lookup c with
      | some o => (codeP o).map fun P => (c, P)
      | none => none)
    | _ => none)
  | _ => none
abbrev lamQ (x : Str) : Str := (x ++ ".<locals>.") ++ "<lambda>"
def tabCs (K : PySem.W.Frag) (xs : List Str) : List (Addr × Addr) := xs.filterMap (tabOf K)
def tabTs (K : PySem.W.Frag) (xs : List Str) : List (Addr × Str) := xs.filterMap fun x => (tabOf K x).map fun p => (p.2, lamQ x)
def tabsB (K Kc : PySem.W.Frag) (xs : List Str) : Bool := xs.all fun x => match tabOf Kc x with
  | some (c, P) => !decide (c = P) && ((match K.lookup P with
    | some o => isTabO o
    | none => false) && ((Kc.lookup P).isNone && (tabTs Kc xs).all fun p => !decide (p.1 = P) || decide (p.2 = lamQ x)))
  | none => false
theorem tabOf_is {K : PySem.W.Frag} {x : Str} {c P : Addr} (h : tabOf K x = some (c, P)) : (∀ oc od fd osl, K.lookup (He.ga K x) = some ⟨oc, od, .func fd, osl⟩ → fd.code = .ref c) ∧ ∃ o, K.lookup c = some o ∧ codeP o = some P := by
  unfold tabOf at h
  split at h
  · rename_i oc od fd osl e
    split at h
    · rename_i c' ec
      split at h
      · rename_i o eo
        obtain ⟨P', e1, e2⟩ := Option.map_eq_some_iff.mp h
        cases e2
        exact ⟨fun oc2 od2 fd2 osl2 e3 => by
          rw [e] at e3
          cases e3
          exact ec, o, eo, e1⟩
      · cases h
    · cases h
  · cases h
section
variable {K Kc : PySem.W.Frag} {xs : List Str} {h : Heap}
theorem tabs_at (hb : tabsB K Kc xs = true) {x : Str} (hx : x ∈ xs) : ∃ c P, tabOf Kc x = some (c, P) ∧ c ≠ P ∧ (∃ o, K.lookup P = some o ∧ isTabO o = true) ∧ Kc.lookup P = none ∧ ∀ p ∈ tabTs Kc xs, p.1 = P → p.2 = lamQ x := by
  have := List.all_eq_true.mp hb x hx
  cases q : tabOf Kc x with
  | none => rw [q] at this; cases this
  | some r =>
    obtain ⟨c, P⟩ := r
    rw [q] at this
    simp only [Bool.and_eq_true, Bool.not_eq_true', decide_eq_false_iff_not] at this
    obtain ⟨h1, h2, h3, h4⟩ := this
    refine ⟨c, P, rfl, h1, ?_, by simpa using h3, fun p hp e => ?_⟩
    · cases z : K.lookup P with
      | none => rw [z] at h2; cases h2
      | some o => rw [z] at h2; exact ⟨o, rfl, h2⟩
    · have := List.all_eq_true.mp h4 p hp
      rw [Bool.or_eq_true] at this
      rcases this with z | z
      · simp [e] at z
      · exact of_decide_eq_true z
theorem tabs_cs (hb : tabsB K Kc xs = true) (KX : K.In h) (KcX : Kc.In h) : ∀ p ∈ tabCs Kc xs, h.get? p.2 = some { cls := .none, data := .fields #[] } ∧ Kc.lookup p.2 = none ∧ PySem.W.CodeHd h p.1 p.2 := fun p hp => by
  obtain ⟨x, hx, e⟩ := List.mem_filterMap.mp hp
  obtain ⟨c, P, e1, ne, ⟨o, e2, e3⟩, e4, _⟩ := tabs_at hb hx
  rw [e1] at e
  cases e
  obtain ⟨_, oc, e5, e6⟩ := tabOf_is e1
  exact ⟨by rw [KX _ _ e2, isTabO_eq e3], e4, codeP_hd (KcX _ _ e5) e6 ne⟩
theorem tabs_has {mg : Str → Option Value} {base : Heap} (hb : tabsB K Kc xs = true) (TB : ∀ p ∈ tabCs Kc xs, TabB base mg p.1 p.2) {x : Str} (hx : x ∈ xs) : HasTab Kc mg base (tabTs Kc xs) x := by
  obtain ⟨c, P, e1, ne, _, _, un⟩ := tabs_at hb hx
  exact ⟨c, P, TB (c, P) (List.mem_filterMap.mpr ⟨x, hx, e1⟩), (tabOf_is e1).1, List.mem_filterMap.mpr ⟨x, hx, by rw [e1]; rfl⟩, un⟩
theorem tabs_H {H : Hp} (hH : ∀ p ∈ tabCs Kc xs, H p.2 = some (.tbl #[])) : Tabs (tabTs Kc xs) H := fun p hp => by
  obtain ⟨x, hx, e⟩ := List.mem_filterMap.mp hp
  obtain ⟨r, e1, e2⟩ := Option.map_eq_some_iff.mp e
  cases e2
  exact TabS.nil (hH r (List.mem_filterMap.mpr ⟨x, hx, e1⟩))
end
abbrev AlE2 : Type := He.AlD × Bool
def obsT (n : Nat) (fa : List He.Fa) (fn : List He.DefD) (ex : PySem.W.Frag → Bool) (xs : List Str) (g : Addr → Option Obj) : AlE2 := (He.obsD fa fn (cutT (He.frG g (He.asD g n))), ex (cutT (He.frG g (He.asD g n))) && tabsB (He.frG g (He.asD g n)) (cutT (He.frG g (He.asD g n))) xs)
def hookT (n : Nat) (fa : List He.Fa) (fn : List He.DefD) (ex : PySem.W.Frag → Bool) (xs : List Str) : PySem.W.Hook where
  α := AlE2
  obs := fun s => obsT n fa fn ex xs s.heap.get?
  val := fun _ => (He.valD fn, true)
  says := fun _ h => ∃ K Kc : PySem.W.Frag, K.In h ∧ Kc.In h ∧ He.SaysD fa fn Kc ∧ ex Kc = true ∧ tabsB K Kc xs = true
  of := fun _ _ e => by
    have e2 := congrArg (fun z : AlE2 => z.2) e
    obtain ⟨h1, h2⟩ := He.ba e2
    exact ⟨_, _, He.frG_in, cutT_in, congrArg (fun z : AlE2 => z.1) e, h1, h2⟩
  keeps := fun _ _ _ ⟨K, Kc, hK, hKc, c⟩ k => ⟨K, Kc, PySem.W.Frag.In.keeps hK k, PySem.W.Frag.In.keeps hKc k, c⟩
theorem obsT_eq {n : Nat} {fa : List He.Fa} {fn : List He.DefD} {ex : PySem.W.Frag → Bool} {xs : List Str} {g : Addr → Option Obj} {s : Shared} (h : ∀ a, g a = s.heap.get? a) : obsT n fa fn ex xs g = (hookT n fa fn ex xs).obs s := by
  have e : g = s.heap.get? := funext h
  rw [e] <;> rfl
end Bv
set_option Elab.async false
set_option linter.all false
set_option maxRecDepth 100000
set_option maxHeartbeats 0
namespace Bv.K26
open PySem PySem.Spec L2 Bv
def loose0 : List PySem.Str := ["LightError", "InvalidCamera", "InvalidSetting", "InvalidWheel", "InvalidBrightness", "InvalidNumber", "MAX_LEAST", "MAX_MOST", "MAX_STEP", "MAX_VALUES", "MIN_LIGHT", "MAX_LIGHT", "NAMES", "SIGNS", "is_int", "is_wheel", "is_camera", "wheel_values", "has_setting", "check_camera", "check_setting", "check_light", "find_wheel", "is_setting", "values", "all_settings", "count_settings", "find_exposure", "exposure", "error"]
def loose1 : List PySem.Str := ["find_right", "check_both", "right_settings", "count_right", "find_numbers", "find_reach", "reach", "reachable", "commonest", "gaps", "find_size", "least_error", "nearest_settings", "worst_brightness", "MAX_MANY", "MAX_WIDTH", "check_number", "with_error", "find_bracket", "check_three", "bracket", "wheels_for", "widest", "count_clicks", "clicks", "find_nearest", "fewest_clicks", "nearest_right", "farthest", "count_changed"]
def loose2 : List PySem.Str := ["find_shifts", "shifts", "spread", "fewest_shifts", "shift_groups", "_law_pick", "_law_box", "_law_every", "_law_class", "_law_result", "_law_all", "_law_cameras", "_law_set", "_law_lit"]
def loose : List PySem.Str := loose0 ++ loose1 ++ loose2
abbrev R : PySem.W.OpenRow := PySem.W.OpenLaw.row PySem.Challenge.rw_lightsteps_k26_errors
def tabNames : List PySem.Str := ["law", "_law_cameras", "_law_set", "_law_lit"]
abbrev hk : PySem.W.Hook := hookT 4 faL fnL exL tabNames
def ob (s : PySem.W.SharedT) : AlE2 := obsT 4 faL fnL exL tabNames (HandSHeadRun.getT s)
theorem ob_eq (s : PySem.W.SharedT) : ob s = hk.obs s.abs := obsT_eq (HandSHeadRun.getT_eq s)
theorem run (w : World) : HandSHeadRun.RunEq R (PySem.W.view R.prog [82]) hk ob 6000 loose w := by
  intro os
  kernel_rfl
theorem law_at {w : World} {K Kc : PySem.W.Frag} {h : Heap} {mg : Str → Option Value} {f : Addr} (X : K.In h) (Xc : Kc.In h) (G : h.Ns mainGlobals mg) (hfa : mg ("law" : Str) = some (.ref f)) (c : He.SaysD faL fnL Kc) (ce : exL Kc = true) (ct : tabsB K Kc tabNames = true) : LamX.LawAtS PySem.Challenge.rw_lightsteps_k26_errors w Kc (L2.CX (PySem.Challenge.rw_lightsteps_k26_errors).prog w) 11 63 "_law_script" mg f h := by
  have kw : Kw Kc mg := ⟨⟨h, Xc, G⟩, c, ce⟩
  obtain ⟨fd, F⟩ := fu_law kw
  have e := hfa.symm.trans (g_law kw)
  cases e
  have b := FunD.bindsA (ps := ["_law_script"]) F fun _ _ _ _ _ _ us hl => match us, hl with | [_], _ => rfl
  have cs := tabs_cs ct X Xc
  refine ⟨fd, tabCs Kc tabNames, spLaw Kc (tabTs Kc tabNames), fun p hp => (cs p hp).1, fun p hp => (cs p hp).2.1, fun p hp => (cs p hp).2.2, fun s v => b s [v] rfl, fun H a ns hl _ hH hS => ⟨a, ns, rfl, hl, hS, tabs_H hH, fun _ => rfl⟩, fun base _ _ TB => ?_⟩
  exact h_law kw (tabs_has ct TB (by simp [tabNames])) (tabs_has ct TB (by simp [tabNames])) (tabs_has ct TB (by simp [tabNames])) (tabs_has ct TB (by simp [tabNames])) F
end Bv.K26
open PySem PySem.W PySem.Calls PyProof.Rows
theorem PySem.Challenge.cw_lightsteps_k26_errors_holds : PySem.Challenge.rw_lightsteps_k26_errors.Holds := by
  w_on; o_law
  refine HandSHeadRun.head_any (r := OpenLaw.row PySem.Challenge.rw_lightsteps_k26_errors) (q := view (OpenLaw.row PySem.Challenge.rw_lightsteps_k26_errors).prog [82]) (H := Bv.K26.hk) (ob := Bv.K26.ob) (M := 6000) (loose := Bv.K26.loose) (d := HandSHeadRun.topDef (OpenLaw.row PySem.Challenge.rw_lightsteps_k26_errors).prog 82) (kwd := []) Bv.K26.ob_eq
    (by kernel_rfl) (fun s => by kernel_rfl) Bv.K26.run (by kernel_rfl) (by kernel_rfl) (by kernel_rfl) (by rfl) (by first | assumption | decide +kernel) (by decide +kernel) ⟨rfl, rfl, rfl, rfl, rfl, by decide +kernel⟩ ?hw ?hc
  case hw => w_witness2
  case hc =>
    refine LamX.walk_ofTsE (l := PySem.Challenge.rw_lightsteps_k26_errors) (n := 63) (k := 11) (x := "_law_script") (CX := fun w => L2.CX (PySem.Challenge.rw_lightsteps_k26_errors).prog w) rfl (by decide) (by kernel_rfl) ⟨rfl, by decide, by decide⟩ ?F ?E
    case F =>
      intro w mg fa h Y G hmg0
      obtain ⟨K, Kc, KX, KcX, c, ce, ct⟩ := Y
      have hmg : mg ("law" : PySem.Str) = some (.ref fa) := by
        have e : (HandSHeadRun.topDef (OpenLaw.row PySem.Challenge.rw_lightsteps_k26_errors).prog 82).name = ("law" : PySem.Str) := by kernel_rfl
        rw [← e]
        exact hmg0
      exact ⟨Kc, KcX, Bv.K26.law_at KX KcX G hmg c ce ct⟩
    case E =>
      intro w H s e s' h
      obtain ⟨_, _, _, _, _, _, _, _, _, _, _, _, z⟩ := h
      exact z
