import PyProof.Rows.All
import Wide.All
import OpenK.AllK
import Wide.FinOn
import HandS.ForMost
import HandS.Zip
import HandS.Walk
import KE.GoesEnum
import PyProof.RulesMatch
import HandS.WideBits
import HandS.Conv
import HandS.Deep
import HandS.Style
import HandS.IsInst
import HandS.Star
import HandS.Flow
import HandS.Defaults
import HandS.Wide
import HandS.Property
import HandS.ExcOwn
import KE.KStateDown
import HandS.Head0
import HandS.Head1
import HandS.Head2
import HandS.HeadEnd
import HandS.HeadHook1
import HandS.HeadHook2
import HandS.HeadHook3
import HandS.HeadHook4
import KE.BitLaws
import KE.KIntText
import HandS.Text
import PySem.Challenge.RW_storedtrees_k46_whole_console_and_functi
set_option Elab.async false
set_option maxRecDepth 100000
set_option maxHeartbeats 0
set_option linter.all false
namespace Q46
open PySem PySem.Spec PyProof.Rows L2
abbrev TC := V → TS
structure PMc (X : Cx) (cases : List MatchCase) (tc : TC) : Prop where
  run : ∀ (first : Bool) (pins : List (Addr × Obj)) (s : Shared) (σ : L2.St) (H : Hp) (D : Ends) (v : V) (u : Value), Inv X pins σ H s → RelV v u → tc v D σ H →
    wpAny (model X.prog X.w) X.A (matchCases cases X.env u first) (SP X pins D) X.xe s
section
variable {X : Cx} {rest : List MatchCase} {body : List Stmt} {tb : TS} {tr : TC} {p1 p2 pos : Pos}
def cNil : TC := fun _ D σ H => D.nx σ H
def cStr (x : Str) (tb : TS) (tr : TC) : TC := fun v D σ H => ∃ z, v = .str z ∧ if z = x then tb D σ H else tr v D σ H
def cAny (tb : TS) : TC := fun _ D σ H => tb D σ H
theorem pmc_nil : PMc X [] cNil := ⟨fun _ _ _ σ H _ _ _ I _ h => wpAny_matchCases_nil ⟨σ, H, I, h⟩⟩
theorem pmc_str {x : Str} {k : Nat} (hb : PSs X body tb) (hr : PMc X rest tr) : PMc X (⟨.MatchValue (.Constant (.str x) k p1) p2, none, body⟩ :: rest) (cStr x tb tr) := by
  refine ⟨fun first pins s σ H D v u I r h => ?_⟩
  obtain ⟨z, rfl, h⟩ := h
  obtain ⟨t, rfl⟩ := r
  refine wpAny_matchCases_cons (wpAny_matchPattern_Value (Calls.Constant_str (eq_str ?_)))
  have I1 := I.tok (s.toks + 1)
  by_cases e : z = x
  · rw [if_pos e] at h
    have e2 : (z == x) = true := dec_str.symm.trans (decide_eq_true (by rw [e]))
    rw [e2]
    exact wpAny_truthy_bool (wpAny_assignInOrder_none (hb.run pins _ σ H D I1 h))
  · rw [if_neg e] at h
    have e2 : (z == x) = false := dec_str.symm.trans (decide_eq_false (fun q => e (V.str.inj q)))
    rw [e2]
    exact wpAny_truthy_bool (hr.run false pins _ σ H D (V.str z) _ I1 ⟨t, rfl⟩ h)
theorem pmc_any (hb : PSs X body tb) : PMc X (⟨.MatchAs none none p1, none, body⟩ :: rest) (cAny tb) := by
  refine ⟨fun first pins s σ H D v u I r h => ?_⟩
  exact wpAny_matchCases_cons (wpAny_matchPattern_Capture (wpAny_assignInOrder_none (hb.run pins _ σ H D I h)))
def tMatch (ts : TE) (tc : TC) : TS := fun D σ H => ts σ H fun v H1 => tc v D σ H1
theorem ps_match {e : Expr} {ts : TE} {cases : List MatchCase} {tc : TC} (he : PE X e ts) (hc : PMc X cases tc) : PS X (.Match e cases pos) (tMatch ts tc) := by
  refine ⟨fun pins s σ H D I h => ?_⟩
  exact wpAny_Match (thn (he.run pins s σ H _ I h) fun u s1 ⟨v, H1, I1, r1, q1⟩ => hc.run true pins s1 σ H1 D v u I1 r1 q1)
end
section
variable {X : Cx} {o : Expr} {ta : TE} {f : Str} {pos : Pos}
def gFld (K : PySem.W.Frag) (ta : TE) (f : Str) : TG := fun v σ H Q => ta σ H fun x H1 => ∃ a C dx fs, x = .ref a ∧ H1 a = some (.ins C dx fs) ∧ Cls K C ∧ NoAttr K C f ∧ fs.length < 1000 ∧ Q σ (upd H1 a (.ins C dx (putF f v fs)))
theorem pg_fld (ha : PE X o ta) (hs : ∀ v, assign (.Attribute o f pos) X.env v = (do
      let ov ← holding [v] (eval o X.env)
      standAt pos.atName
      holding [v, ov] (setAttr ov f v)
      release [v, ov] []) := by intro _; rfl) : PG X (.Attribute o f pos) (gFld X.K ta f) := by
  refine ⟨fun pins s σ H v u Q I r h => ?_⟩
  rw [hs]
  refine wpAny_bind (wpAny_holding (thn (ha.run pins s σ H _ I h) fun ov s1 ⟨x, H1, I1, rx, a, C, dx, fs, ex, ea, c, n, l, q⟩ => ?_))
  subst ex
  obtain rfl : ov = Value.ref a := rx
  refine wpAny_bind (wpAny_standAt (wpAny_bind (wpAny_holding (setattr_ok I1 ea c n l r fun s3 I3 => ?_))))
  exact wpAny_release ⟨σ, _, I3, q⟩
end
structure Src (K : PySem.W.Frag) (it : Addr) (ex : List Addr) (xs : List V) (C : Hp → Prop) (t : Nat → Heap → Prop) : Prop where
  obj : ∀ i h, t i h → ∃ o, h.get? it = some o ∧ ∀ v, o.data ≠ .cell v
  keep : ∀ i h h', t i h → (∀ o, h.get? it = some o → h'.get? it = some o) → t i h'
  draw : ∀ (X : Cx), X.K = K → X.calm = true → ∀ (pins : List (Addr × Obj)) (s : Shared) (σ : L2.St) (H : Hp), L2.Inv X pins σ H s → C H →
    ∃ (P : Nat → Value → Prop) (S : Nat → Heap → Prop), Draws X.prog X.w X.A.in1 it (it :: ex) xs.length P S ∧ (∀ i, t i s.heap → S i s.heap) ∧ (∀ i h, S i h → t i h) ∧ ∀ i x, P i x → ∃ v, xs[i]? = some v ∧ RelV v x
theorem src_list {K : PySem.W.Frag} {it a : Addr} {xs : List V} (hne : a ≠ it) : Src K it [a] xs (fun H => SqL K H a xs) (fun i h => h.IsListIter it a i) where
  obj := fun i h st => by
    obtain ⟨o, e, c, d⟩ := st
    exact ⟨o, e, fun v z => by rw [d] at z; cases z⟩
  keep := fun i h h' st k => st.at fun o e => k o e
  draw := by
    intro X hK hc pins s σ H I hq
    subst hK
    obtain ⟨its, rv, p, hz⟩ := I.list hq
    have D := Draws.list (prog := X.prog) (w := X.w) (A := X.A.in1) (I.ok.hd hc) it a hne its.toArray
    have hn : its.toArray.size = xs.length := by rw [List.size_toArray]; exact rv.length.symm
    rw [hn] at D
    refine ⟨_, _, D, fun i st => ⟨st, p.isList⟩, fun i h st => st.1, fun i x hx => ?_⟩
    have hx' : its[i]? = some x := by simpa using hx
    have hi : i < xs.length := by
      rw [rv.length]
      exact (List.getElem?_eq_some_iff.mp hx').1
    obtain ⟨u, hu, ru⟩ := rv.get (List.getElem?_eq_getElem hi)
    rw [hx'] at hu
    cases hu
    exact ⟨_, List.getElem?_eq_getElem hi, ru⟩
theorem src_tup {K : PySem.W.Frag} {it a : Addr} {xs : List V} (hne : a ≠ it) : Src K it [a] xs (fun H => SqT K H a xs) (fun i h => h.IsTupleIter it a i) where
  obj := fun i h st => by
    obtain ⟨o, e, c, d⟩ := st
    exact ⟨o, e, fun v z => by rw [d] at z; cases z⟩
  keep := fun i h h' st k => st.at fun o e => k o e
  draw := by
    intro X hK hc pins s σ H I hq
    subst hK
    obtain ⟨its, rv, p, hz⟩ := I.tuple hq
    have p' : s.heap.IsTuple a its.toArray := p
    have D := Draws.tuple (prog := X.prog) (w := X.w) (A := X.A.in1) (I.ok.hd hc) it a hne its.toArray
    have hn : its.toArray.size = xs.length := by rw [List.size_toArray]; exact rv.length.symm
    rw [hn] at D
    refine ⟨_, _, D, fun i st => ⟨st, p'⟩, fun i h st => st.1, fun i x hx => ?_⟩
    have hx' : its[i]? = some x := by simpa using hx
    have hi : i < xs.length := by
      rw [rv.length]
      exact (List.getElem?_eq_some_iff.mp hx').1
    obtain ⟨u, hu, ru⟩ := rv.get (List.getElem?_eq_getElem hi)
    rw [hx'] at hu
    cases hu
    exact ⟨_, List.getElem?_eq_getElem hi, ru⟩
def signs (z : Str) : List V := z.cps.toList.map fun c => V.str ⟨#[c]⟩
theorem src_text {K : PySem.W.Frag} {it : Addr} {z : Str} {t : Tok} : Src K it [] (signs z) (fun _ => True) (fun i h => h.IsStrIter it (strIterType z) z t i) where
  obj := fun i h st => by
    obtain ⟨o, e, c, d⟩ := st
    exact ⟨o, e, fun v z => by rw [d] at z; cases z⟩
  keep := fun i h h' st k => by
    obtain ⟨o, e, r⟩ := st
    exact ⟨o, k o e, r⟩
  draw := by
    intro X hK hc pins s σ H I _
    subst hK
    have D := Draws.text (prog := X.prog) (w := X.w) (A := X.A.in1) (I.ok.hd hc) it z t
    have hn : z.cps.size = (signs z).length := by unfold signs; simp
    rw [hn] at D
    refine ⟨_, _, D, fun i st => st, fun i h st => st, fun i x hx => ?_⟩
    obtain ⟨c, u, e1, e2⟩ := hx
    refine ⟨.str ⟨#[c]⟩, ?_, u, e2⟩
    unfold signs
    rw [List.getElem?_map]
    have e3 : z.cps.toList[i]? = some c := by simpa using e1
    rw [e3]
    rfl
inductive SrcV (K : PySem.W.Frag) : V → (Hp → Prop) → List V → Prop
  | list (a : Addr) (xs : List V) : SrcV K (.ref a) (fun H => SqL K H a xs) xs
  | tup (a : Addr) (xs : List V) : SrcV K (.ref a) (fun H => SqT K H a xs) xs
  | text (z : Str) : SrcV K (.str z) (fun _ => True) (signs z)
theorem SrcV.begins {X : Cx} {pins : List (Addr × Obj)} {s : Shared} {σ : L2.St} {H : Hp} {v : V} {u : Value} {C : Hp → Prop} {xs : List V} (sv : SrcV X.K v C xs) (I : L2.Inv X pins σ H s) (r : RelV v u) (c : C H) :
    ∃ (o : Obj) (Hh : Heap → Prop) (ex : List Addr) (t : Addr → Nat → Heap → Prop), Begins u o Hh ∧ Hh s.heap ∧ (∀ b ∈ ex, b < s.heap.objs.size) ∧ (∀ it, (∀ b ∈ ex, b ≠ it) → Src X.K it ex xs C (t it)) ∧ ∀ it h, h.get? it = some o → t it 0 h := by
  cases sv with
  | list a xs =>
    cases r
    obtain ⟨its, rv, p, hz⟩ := I.list c
    refine ⟨_, _, [a], fun it i h => h.IsListIter it a i, begins_list a its.toArray, p.isList, fun b hb => ?_, fun it h => src_list (h a (by simp)), fun it h e => ⟨_, e, rfl, rfl⟩⟩
    have e : b = a := by simpa using hb
    rw [e]
    exact p.lt
  | tup a xs =>
    cases r
    obtain ⟨its, rv, p, hz⟩ := I.tuple c
    have p' : s.heap.IsTuple a its.toArray := p
    refine ⟨_, _, [a], fun it i h => h.IsTupleIter it a i, begins_tuple a its.toArray, p', fun b hb => ?_, fun it h => src_tup (h a (by simp)), fun it h e => ⟨_, e, rfl, rfl⟩⟩
    have e : b = a := by simpa using hb
    rw [e]
    exact p.lt
  | text z =>
    obtain ⟨t, rfl⟩ := r
    exact ⟨_, _, [], fun it i h => h.IsStrIter it (strIterType z) z t i, begins_text z t, trivial, fun b hb => (nomatch hb), fun it h => src_text, fun it h e => ⟨_, e, rfl, rfl⟩⟩
def ItzG (C1 C2 : Hp → Prop) (xs ys : List V) : It :=
  ⟨fun i H => C1 H ∧ C2 H ∧ i < xs.length ∧ i < ys.length, fun i H v H' => ∃ T x y, v = .ref T ∧ H T = none ∧ H' = upd H T (.tup [x, y]) ∧ xs[i]? = some x ∧ ys[i]? = some y,
    fun i H => C1 H ∧ C2 H ∧ i = min xs.length ys.length⟩
theorem turn_zipG {P : Program} {w : World} {K : PySem.W.Frag} {elts : List Expr} {kk : Nat} {tpos : Pos} {z TI TO i1 i2 : Addr} {ex1 ex2 : List Addr} {xs ys : List V} {C1 C2 : Hp → Prop} {t1 t2 : Nat → Heap → Prop}
    (S : ZipSep2 z TI TO i1 i2 (i1 :: ex1) (i2 :: ex2)) (s1 : Src K i1 ex1 xs C1 t1) (s2 : Src K i2 ex2 ys C2 t2) :
    Turn P w K (.Tuple elts kk tpos) (ItzG C1 C2 xs ys) [z, TI, TO, i1, i2] z (fun i h => IsZip h z TI TO .none ∧ IsTupOf2 h TI (.ref i1) (.ref i2) ∧ (∃ x y, IsTupOf2 h TO x y) ∧ t1 i h ∧ t2 i h) where
  mem := by simp
  obj := fun i h st c hc => by
    obtain ⟨hz, hTI, ⟨x, y, hTO⟩, h1, h2⟩ := st
    have e' : c = z ∨ c = TI ∨ c = TO ∨ c = i1 ∨ c = i2 := by simpa using hc
    rcases e' with q | q | q | q | q
    · rw [q]; exact ⟨_, hz, fun v q => nomatch q⟩
    · rw [q]; exact ⟨_, hTI, fun v q => nomatch q⟩
    · rw [q]; exact ⟨_, hTO, fun v q => nomatch q⟩
    · rw [q]; exact s1.obj i h h1
    · rw [q]; exact s2.obj i h h2
  keep := fun i h h' st k => by
    obtain ⟨hz, hTI, ⟨x, y, hTO⟩, h1, h2⟩ := st
    exact ⟨k z (by simp) _ hz, k TI (by simp) _ hTI, ⟨x, y, k TO (by simp) _ hTO⟩, s1.keep i h h' h1 fun o q => k i1 (by simp) o q, s2.keep i h h' h2 fun o q => k i2 (by simp) o q⟩
  item := by
    intro X hP hw hK hc i pins s σ H E I hf st hg
    subst hP hw
    obtain ⟨hz, hTI, ⟨x0, y0, hTO⟩, h1, h2⟩ := st
    obtain ⟨c1, c2, l1, l2⟩ := hg
    obtain ⟨P1, St1, D1, a1, b1, v1⟩ := s1.draw X hK hc pins s σ H I c1
    obtain ⟨P2, St2, D2, a2, b2, v2⟩ := s2.draw X hK hc pins s σ H I c2
    have hzl : z < s.heap.objs.size := Heap.lt_size hz
    refine wpAny_pyNext_zipD2_item S D1 D2 hz hTI hTO (a1 i h1) (a2 i h2) l1 l2 fun u u2 h' tk p1 p2 z' TO' h1' h2' hT hsz hk => ?_
    obtain ⟨x, hx, ru⟩ := v1 i u p1
    obtain ⟨y, hy, ru2⟩ := v2 i u2 p2
    refine ⟨_, rfl, wpAny_letOwnedTupleGo_zip (s := { s with heap := h', toks := tk }) z' fun h'' z'' sb => ?_⟩
    have hT2 : h''.get? s.heap.objs.size = some { cls := .type "tuple", data := .seq #[u, u2] } := (sb.2 _ (Nat.ne_of_gt hzl)).trans hT
    have new : ObjOk X.prog X.w (upd H s.heap.objs.size (.tup [x, y])) h'' s.heap.objs.size (.tup [x, y]) :=
      ⟨by show 2 ≤ sizeLine; decide, [u, u2], .cons ru (.cons ru2 .nil), ⟨_, hT2, rfl, _, rfl⟩⟩
    have I1 : L2.Inv X pins σ (upd H s.heap.objs.size (.tup [x, y])) { s with heap := h'', toks := tk } :=
      I.turnedNew (t' := tk) (ch := [z, TI, TO, i1, i2]) (fun c o hb q => (sb.2 c (fun q' => hb (by simp [q']))).trans (hk c o (fun q' => hb (by simp [q'])) (fun q' => hb (by simp [q'])) (fun q' => hb (by simp [q'])) (fun q' => hb (by simp [q'])) q)) hf (Nat.le_refl _) new
    refine ⟨.ref s.heap.objs.size, _, I1, rfl, ⟨_, x, y, rfl, I.hok.fresh (Nat.le_refl _), rfl, hx, hy⟩, ⟨z'', ?_, ⟨u, u2, ?_⟩, ?_, ?_⟩, fun c hcm => ?_⟩
    · exact (sb.2 _ S.TIz).trans (hk _ _ S.TIz S.TITO S.TIi1 S.TIi2 hTI)
    · exact (sb.2 _ S.TOz).trans TO'
    · exact s1.keep _ _ _ (b1 _ _ h1') fun o q => (sb.2 _ (fun e => S.zf1 (by rw [← e]; exact S.mem1))).trans q
    · exact s2.keep _ _ _ (b2 _ _ h2') fun o q => (sb.2 _ (fun e => S.zf2 (by rw [← e]; exact S.mem2))).trans q
    · have hlt : c < s.heap.objs.size := by
        have e' : c = z ∨ c = TI ∨ c = TO ∨ c = i1 ∨ c = i2 := by simpa using hcm
        rcases e' with q | q | q | q | q
        · rw [q]; exact hzl
        · rw [q]; exact Heap.lt_size hTI
        · rw [q]; exact Heap.lt_size hTO
        · rw [q]; obtain ⟨_, e1, _⟩ := s1.obj _ _ h1; exact Heap.lt_size e1
        · rw [q]; obtain ⟨_, e2, _⟩ := s2.obj _ _ h2; exact Heap.lt_size e2
      rw [upd_ne (Nat.ne_of_lt hlt)]
      exact (hf c hcm).1
  done := by
    intro X hP hw hK hc i pins s σ H E I hf st hg
    subst hP hw
    obtain ⟨hz, hTI, ⟨x0, y0, hTO⟩, h1, h2⟩ := st
    obtain ⟨c1, c2, hi⟩ := hg
    obtain ⟨P1, St1, D1, a1, b1, v1⟩ := s1.draw X hK hc pins s σ H I c1
    obtain ⟨P2, St2, D2, a2, b2, v2⟩ := s2.draw X hK hc pins s σ H I c2
    exact wpAny_pyNext_zipD2_end S D1 D2 hz hTI hTO (a1 i h1) (a2 i h2) (by omega) (by omega) (by omega) fun h' tk hk => ⟨rfl, I.turnedL (t' := tk) (ch := [z, TI, TO, i1, i2]) (fun c o hb q =>
      hk c o (fun q' => hb (by simp [q'])) (fun q' => hb (by simp [q'])) (fun q' => hb (by simp [q'])) (fun q' => hb (by simp [q'])) q) hf⟩
  self := fun A i s Q E st h => wpAny_pyIter_zip st.1 h
def iZipG (K : PySem.W.Frag) (ta : TA) : TI := fun σ H R => ta σ H fun vs H1 => ∃ v1 v2 C1 C2 xs ys, vs = [v1, v2] ∧ SrcV K v1 C1 xs ∧ SrcV K v2 C2 ys ∧ C1 H1 ∧ C2 H1 ∧ R (ItzG C1 C2 xs ys) H1
theorem pi_zipG {X : Cx} {e e2 : Expr} {ta : TA} {p pos tpos : Pos} {elts : List Expr} {kk : Nat} (hg : Gl X "zip") (hm : X.mg "zip" = none) (ha : PA X [e, e2] ta)
    (hs : starEach [e, e2] X.env = (false, eval e X.env) :: starEach [e2] X.env := by rfl) (hpl : (backTo pos (starEach [e2] X.env)).any (·.1) = false := by rfl) :
    PI X (.Tuple elts kk tpos) (.Call (.Name "zip" p) [e, e2] [] pos) (iZipG X.K ta) := by
  refine ⟨fun pins s σ H R I h => ?_⟩
  refine Call_ (ld_blt I hg hm PyProof.Rows.boot_zip (PyProof.Rows.callWith_type1 (thn (ha.run pos pins s σ H _ I h) fun us s1 ⟨vs, H1, I1, r1, q1⟩ => ?_) hs hpl))
  obtain ⟨v1, v2, C1, C2, xs, ys, ex, sv1, sv2, c1, c2, q⟩ := q1
  subst ex
  cases r1 with
  | cons r rr =>
    cases rr with
    | cons r' rr =>
      cases rr
      obtain ⟨o1, G1, ex1, t1, B1, g1, l1, w1, z1⟩ := sv1.begins I1 r c1
      obtain ⟨o2, G2, ex2, t2, B2, g2, l2, w2, z2⟩ := sv2.begins I1 r' c2
      refine zip_begins2 B1 B2 g1 g2 fun h' hz hTI hTO h1 h2 hsz hk => wpAny_pyIter_zip hz ?_
      have I2 : L2.Inv X pins σ H1 { s1 with heap := h' } := I1.kept (t' := s1.toks) hk
      have W1 := w1 s1.heap.objs.size fun b hb => Nat.ne_of_lt (l1 b hb)
      have W2 := w2 (s1.heap.objs.size + 1) fun b hb => Nat.ne_of_lt (Nat.lt_succ_of_lt (l2 b hb))
      refine ⟨s1.heap.objs.size + 4, [s1.heap.objs.size + 4, s1.heap.objs.size + 2, s1.heap.objs.size + 3, s1.heap.objs.size, s1.heap.objs.size + 1], _, _, H1, rfl, I2, turn_zipG (zip_sep2 l1 l2) W1 W2,
        ⟨hz, hTI, ⟨_, _, hTO⟩, z1 _ _ h1, z2 _ _ h2⟩, fun c hcm => ?_, q⟩
      have e' : c = s1.heap.objs.size + 4 ∨ c = s1.heap.objs.size + 2 ∨ c = s1.heap.objs.size + 3 ∨ c = s1.heap.objs.size ∨ c = s1.heap.objs.size + 1 := by simpa using hcm
      have hle : s1.heap.objs.size ≤ c := by
        rcases e' with z | z | z | z | z
        · rw [z]; exact Nat.le_add_right _ _
        · rw [z]; exact Nat.le_add_right _ _
        · rw [z]; exact Nat.le_add_right _ _
        · rw [z]; exact Nat.le_refl _
        · rw [z]; exact Nat.le_add_right _ _
      exact I1.fpOk hle (I1.hok.fresh hle)
def IteG (k : Int) (C : Hp → Prop) (xs : List V) : It :=
  ⟨fun i H => C H ∧ i < xs.length, fun i H v H' => ∃ T x, v = .ref T ∧ H T = none ∧ H' = upd H T (.tup [.int (k + (i : Int)), x]) ∧ xs[i]? = some x, fun i H => C H ∧ i = xs.length⟩
theorem turn_enumG {P : Program} {w : World} {K : PySem.W.Frag} {elts : List Expr} {kk : Nat} {tpos : Pos} {e it : Addr} {ex : List Addr} {xs : List V} {C : Hp → Prop} {t : Nat → Heap → Prop} (k : Int) (hne : e ≠ it) (hef : e ∉ it :: ex) (sr : Src K it ex xs C t) :
    Turn P w K (.Tuple elts kk tpos) (IteG k C xs) [e, it] e (fun i h => (∃ old, IsEnum h e it (k + (i : Int)) old) ∧ t i h) where
  mem := by simp
  obj := fun i h st b hb => by
    obtain ⟨⟨old, he⟩, h1⟩ := st
    have e' : b = e ∨ b = it := by simpa using hb
    rcases e' with z | z
    · rw [z]; exact ⟨_, he, fun v q => nomatch q⟩
    · rw [z]; exact sr.obj i h h1
  keep := fun i h h' st q => let ⟨⟨old, he⟩, hi⟩ := st; ⟨⟨old, q e (by simp) _ he⟩, sr.keep i h h' hi fun o z => q it (by simp) o z⟩
  item := by
    intro X hP hw hK hc i pins s σ H E I hf st hg
    subst hP hw
    obtain ⟨⟨old, he⟩, hit⟩ := st
    obtain ⟨c, hlt⟩ := hg
    obtain ⟨P1, S1, D1, a1, b1, v1⟩ := sr.draw X hK hc pins s σ H I c
    have hel : e < s.heap.objs.size := Heap.lt_size he
    have hil : it < s.heap.objs.size := by obtain ⟨_, q, _⟩ := sr.obj _ _ hit; exact Heap.lt_size q
    refine wpAny_pyNext_enum_itemC D1 he (a1 i hit) hlt hne hef fun u h' tk hP ho hs' hT hsz hk => ?_
    obtain ⟨x, hx, ru⟩ := v1 i u hP
    refine ⟨_, rfl, wpAny_letOwnedTupleGo_enum (s := { s with heap := h', toks := tk + 1 }) ho fun h'' he' sb => ?_⟩
    have hT2 : h''.get? s.heap.objs.size = some { cls := .type "tuple", data := .seq #[.int (k + (i : Int)) tk, u] } := (sb.2 _ (Nat.ne_of_gt hel)).trans hT
    have new : ObjOk X.prog X.w (upd H s.heap.objs.size (.tup [.int (k + (i : Int)), x])) h'' s.heap.objs.size (.tup [.int (k + (i : Int)), x]) :=
      ⟨by show 2 ≤ sizeLine; decide, [.int (k + (i : Int)) tk, u], .cons ⟨_, rfl⟩ (.cons ru .nil), ⟨_, hT2, rfl, _, rfl⟩⟩
    have I1 : L2.Inv X pins σ (upd H s.heap.objs.size (.tup [.int (k + (i : Int)), x])) { s with heap := h'', toks := tk + 1 } :=
      I.turnedNew (t' := tk + 1) (ch := [e, it]) (fun b ob hb q => (sb.2 b (fun z => hb (by simp [z]))).trans (hk b ob (fun z => hb (by simp [z])) (fun z => hb (by simp [z])) q)) hf (Nat.le_refl _) new
    refine ⟨.ref s.heap.objs.size, _, I1, rfl, ⟨_, x, rfl, I.hok.fresh (Nat.le_refl _), rfl, hx⟩, ⟨⟨u, ?_⟩, sr.keep _ _ _ (b1 _ _ hs') fun o q => (sb.2 it (Ne.symm hne)).trans q⟩, fun b hb => ?_⟩
    · have e1 : k + ((i + 1 : Nat) : Int) = k + (i : Int) + 1 := by omega
      rw [e1]; exact he'
    · have hb' : b < s.heap.objs.size := by
        have e' : b = e ∨ b = it := by simpa using hb
        rcases e' with z | z
        · rw [z]; exact hel
        · rw [z]; exact hil
      rw [upd_ne (Nat.ne_of_lt hb')]
      exact (hf b hb).1
  done := by
    intro X hP hw hK hc i pins s σ H E I hf st hg
    subst hP hw
    obtain ⟨⟨old, he⟩, hit⟩ := st
    obtain ⟨c, hi⟩ := hg
    subst hi
    obtain ⟨P1, S1, D1, a1, b1, v1⟩ := sr.draw X hK hc pins s σ H I c
    obtain ⟨f0, f1, f2, f3, f4, f5⟩ := hf it (by simp)
    exact wpAny_pyNext_enum_endD D1 he (a1 _ hit) fun h' eb => ⟨rfl, I.turned (t' := s.toks) (fun b o hb q => eb b o hb q) f0 f1 f3 f4 f5⟩
  self := fun A i s Q E st h => let ⟨⟨_, he⟩, _⟩ := st; wpAny_pyIter_enum he h
def iEnumG (K : PySem.W.Frag) (ta : TA) : TI := fun σ H R => ta σ H fun vs H1 => ∃ v C xs k, vs = [v, .int k] ∧ -(2 ^ 63) ≤ k ∧ k < 2 ^ 63 ∧ SrcV K v C xs ∧ C H1 ∧ R (IteG k C xs) H1
theorem pi_enumG {X : Cx} {e e2 : Expr} {ta : TA} {p pos tpos : Pos} {elts : List Expr} {kk : Nat} (hg : Gl X "enumerate") (hm : X.mg "enumerate" = none) (ha : PA X [e, e2] ta)
    (hs : starEach [e, e2] X.env = (false, eval e X.env) :: starEach [e2] X.env := by rfl) (hpl : (backTo pos (starEach [e2] X.env)).any (·.1) = false := by rfl) :
    PI X (.Tuple elts kk tpos) (.Call (.Name "enumerate" p) [e, e2] [] pos) (iEnumG X.K ta) := by
  refine ⟨fun pins s σ H R I h => ?_⟩
  refine Call_ (ld_blt I hg hm boot_enumerate (PyProof.Rows.callWith_type1 (thn (ha.run pos pins s σ H _ I h) fun us s1 ⟨vs, H1, I1, r1, q1⟩ => ?_) hs hpl))
  obtain ⟨v, C, xs, k, ex, k0, k1, sv, c, q⟩ := q1
  subst ex
  cases r1 with
  | cons r rr =>
    cases rr with
    | cons r' rr =>
      cases rr
      obtain ⟨tk, rfl⟩ := r'
      obtain ⟨o1, G1, ex1, t1, B1, g1, l1, w1, z1⟩ := sv.begins I1 r c
      refine enum_begins B1 g1 k0 k1 fun h' he h1 hsz hk => wpAny_pyIter_enum he ?_
      have I2 : L2.Inv X pins σ H1 { s1 with heap := h' } := I1.kept (t' := s1.toks) hk
      have W1 := w1 s1.heap.objs.size fun b hb => Nat.ne_of_lt (l1 b hb)
      refine ⟨s1.heap.objs.size + 1, [s1.heap.objs.size + 1, s1.heap.objs.size], _, _, H1, rfl, I2, turn_enumG k (Nat.succ_ne_self _) (fun hm => ?_) W1, ⟨⟨.none, ?_⟩, z1 _ _ h1⟩, fun b hb => ?_, q⟩
      · rcases List.mem_cons.mp hm with z | z
        · exact Nat.succ_ne_self _ z
        · exact absurd (l1 _ z) (Nat.not_lt.mpr (Nat.le_succ _))
      · have e0 : k + ((0 : Nat) : Int) = k := by omega
        rw [e0]
        exact he
      · have e' : b = s1.heap.objs.size + 1 ∨ b = s1.heap.objs.size := by simpa using hb
        have hle : s1.heap.objs.size ≤ b := by
          rcases e' with z | z
          · rw [z]; exact Nat.le_add_right _ _
          · rw [z]; exact Nat.le_refl _
        exact I1.fpOk hle (I1.hok.fresh hle)
end Q46
namespace Q46
open PySem L2
structure Gr (G H G' H' : Hp) : Prop where
  gg : Same G G'
  hh : Same H H'
  gh : Same G' H'
  ag : ∀ a o, H a = some o → G' a = G a
theorem Gr.refl {G H : Hp} (h : Same G H) : Gr G H G H := ⟨Same.refl G, Same.refl H, h, fun _ _ _ => rfl⟩
theorem Gr.trans {G H G1 H1 G2 H2 : Hp} (a : Gr G H G1 H1) (b : Gr G1 H1 G2 H2) : Gr G H G2 H2 :=
  ⟨a.gg.trans b.gg, a.hh.trans b.hh, b.gh, fun c o e => (b.ag c o (a.hh c o e)).trans (a.ag c o e)⟩
theorem same_new {H : Hp} {p : Addr} {o : HO} (h : H p = none) : Same H (upd H p o) := fun a u e => by
  rw [upd_ne (ne_of_none e h)]
  exact e
theorem same_upd {G H : Hp} {p : Addr} {o : HO} (e : Same G H) (hp : H p = none) : Same (upd G p o) (upd H p o) := fun a u h => by
  by_cases q : a = p
  · subst q
    rw [upd_same] at h ⊢
    exact h
  · rw [upd_ne q] at h ⊢
    exact e a u h
theorem Gr.newG {G H : Hp} {p : Addr} {o : HO} (e : Same G H) (hp : H p = none) : Gr G H (upd G p o) (upd H p o) :=
  ⟨same_new (e.free hp), same_new hp, same_upd e hp, fun a u h => upd_ne (ne_of_none h hp)⟩
theorem Gr.newH {G H : Hp} {p : Addr} {o : HO} (e : Same G H) (hp : H p = none) : Gr G H G (upd H p o) :=
  ⟨Same.refl G, same_new hp, e.trans (same_new hp), fun _ _ _ => rfl⟩
theorem Gr.mut {G H G1 H1 : Hp} {p : Addr} {o : HO} (a : Gr G H G1 H1) (hp : H p = none) (hg : G1 p = none) : Gr G H G1 (upd H1 p o) :=
  ⟨a.gg, fun c u e => by rw [upd_ne (ne_of_none e hp)]; exact a.hh c u e, fun c u e => by rw [upd_ne (ne_of_none e hg)]; exact a.gh c u e, a.ag⟩
theorem Gr.freeze {G H G1 H1 : Hp} {p : Addr} {o : HO} (a : Gr G H G1 H1) (hp : H p = none) (hg : G1 p = none) (h1 : H1 p = some o) : Gr G H (upd G1 p o) H1 := by
  have n0 : G p = none := a.gg.free hg
  refine ⟨fun c u e => by rw [upd_ne (ne_of_none e n0)]; exact a.gg c u e, a.hh, fun c u e => ?_, fun c u e => by rw [upd_ne (ne_of_none e hp)]; exact a.ag c u e⟩
  by_cases q : c = p
  · subst q
    rw [upd_same] at e
    rw [h1]
    exact e
  · rw [upd_ne q] at e
    exact a.gh c u e
theorem same_seqT {K : PySem.W.Frag} {H H' : Hp} {a : Addr} {xs : List V} (e : Same H H') (h : SqT K H a xs) : SqT K H' a xs := by
  rcases h with (h | ⟨o, h⟩) | h
  · exact .inl (.inl (e _ _ h))
  · exact .inl (.inr ⟨o, e _ _ h⟩)
  · exact .inr h
mutual
theorem dp_mono {K : PySem.W.Frag} {H H' : Hp} (e : Same H H') : ∀ (d : PyData) (v : V), Dp K H v d → Dp K H' v d
  | .none, _, h => by cases h; exact .non
  | .bool b, _, h => by cases h; exact .bl b
  | .int i, _, h => by cases h; exact .int i
  | .str x, _, h => by cases h; exact .str x
  | .list ds, _, h => by
    cases h with
    | lst hs ha => exact .lst (e.seq hs) (dpa_mono e ds _ ha)
  | .tuple ds, _, h => by
    cases h with
    | tup hs ha => exact .tup (same_seqT e hs) (dpa_mono e ds _ ha)
  | .dict _, _, h => by cases h
theorem dpa_mono {K : PySem.W.Frag} {H H' : Hp} (e : Same H H') : ∀ (ds : List PyData) (vs : List V), DpAll K H vs ds → DpAll K H' vs ds
  | [], _, h => by cases h; exact .nil
  | d :: ds, _, h => by
    cases h with
    | cons h1 h2 => exact .cons (dp_mono e d _ h1) (dpa_mono e ds _ h2)
end
end Q46
namespace L2
open PySem
theorem DpAll.len {K : PySem.W.Frag} {H : Hp} : ∀ {vs : List V} {ds : List PyData}, DpAll K H vs ds → vs.length = ds.length
  | _, _, .nil => rfl
  | _, _, .cons _ t => congrArg (· + 1) (DpAll.len t)
theorem DpAll.at {K : PySem.W.Frag} {H : Hp} : ∀ {vs : List V} {ds : List PyData} {i : Nat} {v : V}, DpAll K H vs ds → vs[i]? = some v → ∃ d, ds[i]? = some d ∧ Dp K H v d
  | _, _, _, _, .nil, e => by cases e
  | _, _, 0, _, .cons h _, e => by cases e; exact ⟨_, rfl, h⟩
  | _, _, i + 1, _, .cons _ t, e => DpAll.at (i := i) t e
theorem DpAll.at' {K : PySem.W.Frag} {H : Hp} : ∀ {vs : List V} {ds : List PyData} {i : Nat} {d : PyData}, DpAll K H vs ds → ds[i]? = some d → ∃ v, vs[i]? = some v ∧ Dp K H v d
  | _, _, _, _, .nil, e => by cases e
  | _, _, 0, _, .cons h _, e => by cases e; exact ⟨_, rfl, h⟩
  | _, _, i + 1, _, .cons _ t, e => DpAll.at' (i := i) t e
theorem DpAll.app {K : PySem.W.Frag} {H : Hp} : ∀ {vs ws : List V} {ds es : List PyData}, DpAll K H vs ds → DpAll K H ws es → DpAll K H (vs ++ ws) (ds ++ es)
  | _, _, _, _, .nil, b => b
  | _, _, _, _, .cons h t, b => .cons h (DpAll.app t b)
theorem DpAll.set {K : PySem.W.Frag} {H : Hp} {v : V} {d : PyData} (h : Dp K H v d) : ∀ {vs : List V} {ds : List PyData} (i : Nat), DpAll K H vs ds → DpAll K H (vs.set i v) (ds.set i d)
  | _, _, _, .nil => .nil
  | _, _, 0, .cons _ t => .cons h t
  | _, _, i + 1, .cons q t => .cons q (DpAll.set h i t)
theorem DpAll.take {K : PySem.W.Frag} {H : Hp} : ∀ {vs : List V} {ds : List PyData} (n : Nat), DpAll K H vs ds → DpAll K H (vs.take n) (ds.take n)
  | _, _, 0, _ => .nil
  | _, _, _ + 1, .nil => .nil
  | _, _, n + 1, .cons h t => .cons h (DpAll.take n t)
theorem DpAll.drop {K : PySem.W.Frag} {H : Hp} : ∀ {vs : List V} {ds : List PyData} (n : Nat), DpAll K H vs ds → DpAll K H (vs.drop n) (ds.drop n)
  | _, _, 0, h => h
  | _, _, _ + 1, .nil => .nil
  | _, _, n + 1, .cons _ t => DpAll.drop n t
theorem DpAll.rev {K : PySem.W.Frag} {H : Hp} : ∀ {vs : List V} {ds : List PyData}, DpAll K H vs ds → DpAll K H vs.reverse ds.reverse
  | _, _, .nil => .nil
  | _, _, .cons h t => by
    rw [List.reverse_cons, List.reverse_cons]
    exact DpAll.app (DpAll.rev t) (.cons h .nil)
theorem DpAll.rep {K : PySem.W.Frag} {H : Hp} {vs : List V} {ds : List PyData} (h : DpAll K H vs ds) : ∀ n, DpAll K H (List.replicate n vs).flatten (List.replicate n ds).flatten
  | 0 => .nil
  | n + 1 => by
    rw [List.replicate_succ, List.replicate_succ, List.flatten_cons, List.flatten_cons]
    exact DpAll.app h (DpAll.rep h n)
end L2
namespace Q46
open PySem L2
theorem dp_ints {K : PySem.W.Frag} {H : Hp} : ∀ {vs : List V} {ns : List Int}, DpAll K H vs (ns.map PyData.int) → vs = ns.map V.int
  | _, [], .nil => rfl
  | _, _ :: _, .cons h t => by
    cases h
    rw [dp_ints t]
    rfl
theorem dp_strs {K : PySem.W.Frag} {H : Hp} : ∀ {vs : List V} {ns : List Str}, DpAll K H vs (ns.map PyData.str) → vs = ns.map V.str
  | _, [], .nil => rfl
  | _, _ :: _, .cons h t => by
    cases h
    rw [dp_strs t]
    rfl
theorem dp_bls {K : PySem.W.Frag} {H : Hp} : ∀ {vs : List V} {ns : List Bool}, DpAll K H vs (ns.map PyData.bool) → vs = ns.map V.bl
  | _, [], .nil => rfl
  | _, _ :: _, .cons h t => by
    cases h
    rw [dp_bls t]
    rfl
theorem ints_dp {K : PySem.W.Frag} {H : Hp} : ∀ (ns : List Int), DpAll K H (ns.map V.int) (ns.map PyData.int)
  | [] => .nil
  | n :: r => .cons (.int n) (ints_dp r)
theorem strs_dp {K : PySem.W.Frag} {H : Hp} : ∀ (ns : List Str), DpAll K H (ns.map V.str) (ns.map PyData.str)
  | [] => .nil
  | n :: r => .cons (.str n) (strs_dp r)
structure ObP where
  fits : V → Hp → Hp → Prop
  st : ∀ (v : V) (G H G' H' : Hp), Same G G' → (∀ (a C dx : Addr) (ws : List (Str × V)), H a = some (.ins C dx ws) → H' a = some (.ins C dx ws)) → fits v G H → fits v G' H'
inductive QV where
  | un | dat (d : PyData) | own (ds : List PyData) | ob (o : ObP)
structure QL (K : PySem.W.Frag) (G : Hp) (r : List QV) (σ : L2.St) (H : Hp) : Prop where
  gh : Same G H
  dat : ∀ (i : Nat) (d : PyData), r[i]? = some (.dat d) → ∃ v, σ[i]? = some (some v) ∧ Dp K G v d
  own : ∀ (i : Nat) (ds : List PyData), r[i]? = some (.own ds) → ∃ (p : Addr) (vs : List V), σ[i]? = some (some (.ref p)) ∧ G p = none ∧ H p = some (.lst vs) ∧ DpAll K G vs ds ∧ ∀ (j : Nat) (es : List PyData), r[j]? = some (.own es) → σ[j]? = some (some (.ref p)) → j = i
  len : σ.length = r.length
  ob : ∀ (i : Nat) (o : ObP), r[i]? = some (.ob o) → ∃ v, σ[i]? = some (some v) ∧ o.fits v G H
section
variable {K : PySem.W.Frag} {G H G' H' G0 H0 : Hp} {r : List QV} {σ : L2.St}
theorem QL.gr (l : QL K G r σ H) (g : Gr G H G' H') : QL K G' r σ H' where
  gh := g.gh
  dat := fun i d e => let ⟨v, e1, h⟩ := l.dat i d e; ⟨v, e1, dp_mono g.gg d v h⟩
  own := fun i ds e => by
    obtain ⟨p, vs, e1, e2, e3, h, u⟩ := l.own i ds e
    exact ⟨p, vs, e1, (g.ag p _ e3).trans e2, g.hh p _ e3, dpa_mono g.gg ds vs h, u⟩
  len := l.len
  ob := fun i o e => by
    obtain ⟨v, e1, h⟩ := l.ob i o e
    exact ⟨v, e1, o.st v _ _ _ _ g.gg (fun a C dx ws q => g.hh a _ q) h⟩
theorem getElem?_set_lv {α : Type} {l : List α} {i j : Nat} {x : α} {y : α} (h : (l.set i x)[j]? = some y) : (j = i ∧ y = x) ∨ (j ≠ i ∧ l[j]? = some y) := by
  by_cases e : j = i
  · subst e
    left
    by_cases hl : j < l.length
    · rw [List.getElem?_set_self hl] at h
      exact ⟨rfl, (Option.some.inj h).symm⟩
    · rw [List.getElem?_eq_none (by simpa using hl)] at h
      cases h
  · right
    rw [List.getElem?_set_ne (fun q => e q.symm)] at h
    exact ⟨e, h⟩
theorem lt_of_set {α : Type} {l : List α} {i : Nat} {x y : α} (h : (l.set i x)[i]? = some y) : i < l.length := by
  have := (List.getElem?_eq_some_iff.mp h).1
  simpa using this
theorem QL.set {i : Nat} {v : V} {d : PyData} (l : QL K G r σ H) (h : Dp K G v d) : QL K G (r.set i (.dat d)) (σ.set i (some v)) H where
  gh := l.gh
  dat := fun j e hj => by
    rcases getElem?_set_lv hj with ⟨rfl, e1⟩ | ⟨ne, e1⟩
    · cases e1
      have hl : j < σ.length := by rw [l.len]; exact lt_of_set hj
      exact ⟨v, List.getElem?_set_self hl, h⟩
    · obtain ⟨w, e2, q⟩ := l.dat j e e1
      exact ⟨w, by rw [List.getElem?_set_ne (fun z => ne z.symm)]; exact e2, q⟩
  own := fun j ds hj => by
    rcases getElem?_set_lv hj with ⟨rfl, e1⟩ | ⟨ne, e1⟩
    · cases e1
    · obtain ⟨p, vs, e2, e3, e4, e5, u⟩ := l.own j ds e1
      refine ⟨p, vs, by rw [List.getElem?_set_ne (fun z => ne z.symm)]; exact e2, e3, e4, e5, fun k es hk sk => ?_⟩
      rcases getElem?_set_lv hk with ⟨rfl, e6⟩ | ⟨nk, e6⟩
      · cases e6
      · rw [List.getElem?_set_ne (fun z => nk z.symm)] at sk
        exact u k es e6 sk
  len := by rw [List.length_set, List.length_set]; exact l.len
  ob := fun j o hj => by
    rcases getElem?_set_lv hj with ⟨rfl, e1⟩ | ⟨ne, e1⟩
    · cases e1
    · obtain ⟨v, e2, h⟩ := l.ob j o e1
      exact ⟨v, by rw [List.getElem?_set_ne (fun z => ne z.symm)]; exact e2, h⟩
theorem QL.un {i : Nat} {o : Option V} (l : QL K G r σ H) : QL K G (r.set i .un) (σ.set i o) H where
  gh := l.gh
  dat := fun j e hj => by
    rcases getElem?_set_lv hj with ⟨rfl, e1⟩ | ⟨ne, e1⟩
    · cases e1
    · obtain ⟨w, e2, q⟩ := l.dat j e e1
      exact ⟨w, by rw [List.getElem?_set_ne (fun z => ne z.symm)]; exact e2, q⟩
  own := fun j ds hj => by
    rcases getElem?_set_lv hj with ⟨rfl, e1⟩ | ⟨ne, e1⟩
    · cases e1
    · obtain ⟨p, vs, e2, e3, e4, e5, u⟩ := l.own j ds e1
      refine ⟨p, vs, by rw [List.getElem?_set_ne (fun z => ne z.symm)]; exact e2, e3, e4, e5, fun k es hk sk => ?_⟩
      rcases getElem?_set_lv hk with ⟨rfl, e6⟩ | ⟨nk, e6⟩
      · cases e6
      · rw [List.getElem?_set_ne (fun z => nk z.symm)] at sk
        exact u k es e6 sk
  len := by rw [List.length_set, List.length_set]; exact l.len
  ob := fun j o hj => by
    rcases getElem?_set_lv hj with ⟨rfl, e1⟩ | ⟨ne, e1⟩
    · cases e1
    · obtain ⟨v, e2, h⟩ := l.ob j o e1
      exact ⟨v, by rw [List.getElem?_set_ne (fun z => ne z.symm)]; exact e2, h⟩
theorem set_same {α : Type} : ∀ {l : List α} {i : Nat} {x : α}, l[i]? = some x → l.set i x = l
  | [], _, _, h => by cases h
  | _ :: _, 0, _, h => by cases h; rfl
  | a :: r, i + 1, x, h => by
    show a :: r.set i x = a :: r
    rw [set_same (l := r) (i := i) h]
theorem set_none {α : Type} {l : List α} {i : Nat} {x : α} (h : l[i]? = none) : l.set i x = l := by
  have hl := List.getElem?_eq_none_iff.mp h
  exact List.set_eq_of_length_le hl
theorem QL.fgt1 {i : Nat} (l : QL K G r σ H) : QL K G (r.set i .un) σ H := by
  cases e : σ[i]? with
  | none =>
    have q : r[i]? = none := by
      have := List.getElem?_eq_none_iff.mp e
      rw [l.len] at this
      exact List.getElem?_eq_none_iff.mpr this
    rw [set_none q]
    exact l
  | some o =>
    have h := l.un (i := i) (o := o)
    rw [set_same e] at h
    exact h
def fgt (r : List QV) : List Nat → List QV
  | [] => r
  | i :: is => (fgt r is).set i .un
theorem QL.fgt (l : QL K G r σ H) : ∀ is : List Nat, QL K G (fgt r is) σ H
  | [] => l
  | _ :: is => (QL.fgt l is).fgt1
theorem QL.wipe (l : QL K G r σ H) : ∀ is : List Nat, QL K G (Q46.fgt r is) (L2.wipe σ is) H
  | [] => l
  | _ :: is => (QL.wipe l is).un
theorem QL.chg {i : Nat} {p : Addr} {vs : List V} {ds es : List PyData} (l : QL K G r σ H) (hi : r[i]? = some (.own ds)) (hs : σ[i]? = some (some (.ref p))) (h : DpAll K G vs es) : QL K G (r.set i (.own es)) σ (upd H p (.lst vs)) := by
  obtain ⟨q, ws, e1, e2, e3, e4, u⟩ := l.own i ds hi
  have epq : q = p := V.ref.inj (Option.some.inj (Option.some.inj (e1.symm.trans hs)))
  subst epq
  refine ⟨fun c o e => by rw [upd_ne (ne_of_none e e2)]; exact l.gh c o e, fun j d hj => ?_, fun j fs hj => ?_, by rw [List.length_set]; exact l.len, fun j o hj => ?_⟩
  · rcases getElem?_set_lv hj with ⟨rfl, e5⟩ | ⟨ne, e5⟩
    · cases e5
    · exact l.dat j d e5
  · have own_back : ∀ (k : Nat) (gs : List PyData), (r.set i (.own es))[k]? = some (.own gs) → ∃ gs', r[k]? = some (.own gs') := fun k gs hk => by
      rcases getElem?_set_lv hk with ⟨rfl, _⟩ | ⟨_, e6⟩
      · exact ⟨_, hi⟩
      · exact ⟨_, e6⟩
    rcases getElem?_set_lv hj with ⟨rfl, e5⟩ | ⟨ne, e5⟩
    · cases e5
      refine ⟨q, vs, e1, e2, upd_same, h, fun k gs hk sk => ?_⟩
      obtain ⟨gs', e6⟩ := own_back k gs hk
      exact u k gs' e6 sk
    · obtain ⟨p2, vs2, f1, f2, f3, f4, u2⟩ := l.own j fs e5
      have hne : p2 ≠ q := fun z => by
        subst z
        exact ne (u j fs e5 f1)
      refine ⟨p2, vs2, f1, f2, by rw [upd_ne hne]; exact f3, f4, fun k gs hk sk => ?_⟩
      obtain ⟨gs', e6⟩ := own_back k gs hk
      exact u2 k gs' e6 sk
  · rcases getElem?_set_lv hj with ⟨rfl, e5⟩ | ⟨ne, e5⟩
    · cases e5
    · obtain ⟨v, f1, h⟩ := l.ob j o e5
      exact ⟨v, f1, o.st v _ _ _ _ (Same.refl G) (fun a C dx ws q2 => by
        have hne : a ≠ q := fun z => by
          subst z
          rw [e3] at q2
          cases q2
        rw [upd_ne hne]
        exact q2) h⟩
theorem QL.nw {i : Nat} {p : Addr} {vs : List V} {ds : List PyData} (l : QL K G r σ H) (hg : G p = none) (hp : H p = some (.lst vs)) (h : DpAll K G vs ds) (fr : ∀ (j : Nat) (es : List PyData) (q : Addr), r[j]? = some (.own es) → σ[j]? = some (some (.ref q)) → q ≠ p) :
    QL K G (r.set i (.own ds)) (σ.set i (some (.ref p))) H where
  gh := l.gh
  dat := fun j e hj => by
    rcases getElem?_set_lv hj with ⟨rfl, e1⟩ | ⟨ne, e1⟩
    · cases e1
    · obtain ⟨w, e2, q⟩ := l.dat j e e1
      exact ⟨w, by rw [List.getElem?_set_ne (fun z => ne z.symm)]; exact e2, q⟩
  own := fun j es hj => by
    rcases getElem?_set_lv hj with ⟨rfl, e1⟩ | ⟨ne, e1⟩
    · cases e1
      have hl : j < σ.length := by rw [l.len]; exact lt_of_set hj
      refine ⟨p, vs, List.getElem?_set_self hl, hg, hp, h, fun k fs hk sk => ?_⟩
      rcases getElem?_set_lv hk with ⟨rfl, _⟩ | ⟨nk, e6⟩
      · rfl
      · rw [List.getElem?_set_ne (fun z => nk z.symm)] at sk
        exact absurd rfl (fr k fs p e6 sk)
    · obtain ⟨q, ws, e2, e3, e4, e5, u⟩ := l.own j es e1
      refine ⟨q, ws, by rw [List.getElem?_set_ne (fun z => ne z.symm)]; exact e2, e3, e4, e5, fun k fs hk sk => ?_⟩
      rcases getElem?_set_lv hk with ⟨rfl, e6⟩ | ⟨nk, e6⟩
      · have hl : k < σ.length := by rw [l.len]; exact lt_of_set hk
        rw [List.getElem?_set_self hl] at sk
        exact absurd (V.ref.inj (Option.some.inj (Option.some.inj sk))).symm (fr j es q e1 e2)
      · rw [List.getElem?_set_ne (fun z => nk z.symm)] at sk
        exact u k fs e6 sk
  len := by rw [List.length_set, List.length_set]; exact l.len
  ob := fun j o hj => by
    rcases getElem?_set_lv hj with ⟨rfl, e1⟩ | ⟨ne, e1⟩
    · cases e1
    · obtain ⟨v, e2, h⟩ := l.ob j o e1
      exact ⟨v, by rw [List.getElem?_set_ne (fun z => ne z.symm)]; exact e2, h⟩
theorem QL.frz {i : Nat} {p : Addr} {ds : List PyData} (l : QL K G r σ H) (hi : r[i]? = some (.own ds)) (hs : σ[i]? = some (some (.ref p))) : ∃ vs, H p = some (.lst vs) ∧ G p = none ∧ QL K (upd G p (.lst vs)) (r.set i (.dat (.list ds))) σ H := by
  obtain ⟨q, ws, e1, e2, e3, e4, u⟩ := l.own i ds hi
  have epq : q = p := V.ref.inj (Option.some.inj (Option.some.inj (e1.symm.trans hs)))
  subst epq
  have gg : Same G (upd G q (.lst ws)) := same_new e2
  refine ⟨ws, e3, e2, fun c o e => ?_, fun j d hj => ?_, fun j fs hj => ?_, by rw [List.length_set]; exact l.len, fun j o hj => ?_⟩
  · by_cases z : c = q
    · subst z
      rw [upd_same] at e
      rw [e3]
      exact e
    · rw [upd_ne z] at e
      exact l.gh c o e
  · rcases getElem?_set_lv hj with ⟨rfl, e5⟩ | ⟨ne, e5⟩
    · cases e5
      exact ⟨_, e1, .lst (.inl (.inl upd_same)) (dpa_mono gg _ _ e4)⟩
    · obtain ⟨v, f1, f2⟩ := l.dat j d e5
      exact ⟨v, f1, dp_mono gg d v f2⟩
  · rcases getElem?_set_lv hj with ⟨rfl, e5⟩ | ⟨ne, e5⟩
    · cases e5
    · obtain ⟨p2, vs2, f1, f2, f3, f4, u2⟩ := l.own j fs e5
      have hne : p2 ≠ q := fun z => by
        subst z
        exact ne (u j fs e5 f1)
      refine ⟨p2, vs2, f1, by rw [upd_ne hne]; exact f2, f3, dpa_mono gg _ _ f4, fun k gs hk sk => ?_⟩
      rcases getElem?_set_lv hk with ⟨rfl, e6⟩ | ⟨_, e6⟩
      · cases e6
      · exact u2 k gs e6 sk
  · rcases getElem?_set_lv hj with ⟨rfl, e5⟩ | ⟨ne, e5⟩
    · cases e5
    · obtain ⟨v, f1, h⟩ := l.ob j o e5
      exact ⟨v, f1, o.st v _ _ _ _ gg (fun _ _ _ _ q2 => q2) h⟩
end
end Q46
namespace Q46
open PySem L2
def Ev (K : PySem.W.Frag) (te : TE) (r : List QV) (d : PyData) : Prop := ∀ G σ H, QL K G r σ H → ∀ Q : VK, (∀ v G' H', Gr G H G' H' → Dp K G' v d → Q v H') → te σ H Q
def EvN (K : PySem.W.Frag) (te : TE) (r : List QV) (ds : List PyData) : Prop := ∀ G σ H, QL K G r σ H → ∀ Q : VK, (∀ p vs G' H', Gr G H G' H' → H p = none → G' p = none → H' p = some (.lst vs) → DpAll K G' vs ds → Q (.ref p) H') → te σ H Q
def EvT (K : PySem.W.Frag) (tt : TT) (r : List QV) (b : Bool) : Prop := ∀ G σ H, QL K G r σ H → ∀ Q : Bool → Hp → Prop, (∀ G' H', Gr G H G' H' → Q b H') → tt σ H Q
def EvA (K : PySem.W.Frag) (ta : TA) (r : List QV) (ds : List PyData) : Prop := ∀ G σ H, QL K G r σ H → ∀ Q : List V → Hp → Prop, (∀ vs G' H', Gr G H G' H' → DpAll K G' vs ds → Q vs H') → ta σ H Q
def EvO (K : PySem.W.Frag) (to : TO) (r : List QV) (o : Option Int) : Prop := ∀ G σ H, QL K G r σ H → ∀ Q : Option Int → Hp → Prop, (∀ G' H', Gr G H G' H' → Q o H') → to σ H Q
def RD (K : PySem.W.Frag) (rr : R2) (a b z : PyData) : Prop := ∀ G H x y, Same G H → Dp K G x a → Dp K G y b → ∀ Q : VK, (∀ v G' H', Gr G H G' H' → Dp K G' v z → Q v H') → rr x y H Q
def RU (K : PySem.W.Frag) (rr : V → Hp → VK → Prop) (a z : PyData) : Prop := ∀ G H x, Same G H → Dp K G x a → ∀ Q : VK, (∀ v G' H', Gr G H G' H' → Dp K G' v z → Q v H') → rr x H Q
def RC (K : PySem.W.Frag) (rr : List V → Hp → VK → Prop) (as : List PyData) (z : PyData) : Prop := ∀ G H xs, Same G H → DpAll K G xs as → ∀ Q : VK, (∀ v G' H', Gr G H G' H' → Dp K G' v z → Q v H') → rr xs H Q
def Spd (K : PySem.W.Frag) (sp : Sp) (as : List PyData) (z : PyData) : Prop := ∀ G H xs, Same G H → DpAll K G xs as → ∀ (Q : VK) (E : XK), (∀ v G' H', Gr G H G' H' → Dp K G' v z → Q v H') → sp xs H Q E
section
variable {K : PySem.W.Frag} {r : List QV} {ta tb tc te tl : TE} {a b d e z : PyData} {ds es : List PyData} {rr : R2} {i j : Nat}
theorem ev_var (h : r[i]? = some (.dat d)) : Ev K (tVar i) r d := fun G σ H l Q q => by
  obtain ⟨v, e, hd⟩ := l.dat i d h
  exact ⟨v, e, q v G H (Gr.refl l.gh) hd⟩
theorem ev_int {n : Int} : Ev K (tC (.int n)) r (.int n) := fun G σ H l Q q => q _ G H (Gr.refl l.gh) (.int n)
theorem ev_bl {n : Bool} : Ev K (tC (.bl n)) r (.bool n) := fun G σ H l Q q => q _ G H (Gr.refl l.gh) (.bl n)
theorem ev_str {n : Str} : Ev K (tC (.str n)) r (.str n) := fun G σ H l Q q => q _ G H (Gr.refl l.gh) (.str n)
theorem ev_non : Ev K (tC .non) r .none := fun G σ H l Q q => q _ G H (Gr.refl l.gh) .non
theorem ev_kt {p : Addr} {vs : List V} (h : ∀ H, SqT K H p vs) (hd : ∀ H, DpAll K H vs ds) : Ev K (tC (.ref p)) r (.tuple ds) := fun G σ H l Q q => q _ G H (Gr.refl l.gh) (.tup (h G) (hd G))
theorem ev_op (ha : Ev K ta r a) (hb : Ev K tb r b) (hr : RD K rr a b z) : Ev K (tOp rr ta tb) r z := fun G σ H l Q q =>
  ha G σ H l _ fun x G1 H1 g1 d1 => hb G1 σ H1 (l.gr g1) _ fun y G2 H2 g2 d2 => hr G2 H2 x y g2.gh (dp_mono g2.gg _ _ d1) d2 Q fun v G3 H3 g3 d3 => q v G3 H3 ((g1.trans g2).trans g3) d3
theorem ev_un {ru : V → Hp → VK → Prop} (ha : Ev K ta r a) (hr : RU K ru a z) : Ev K (tUn ru ta) r z := fun G σ H l Q q =>
  ha G σ H l _ fun x G1 H1 g1 d1 => hr G1 H1 x g1.gh d1 Q fun v G3 H3 g3 d3 => q v G3 H3 (g1.trans g3) d3
theorem ev_new (h : EvN K te r ds) : Ev K te r (.list ds) := fun G σ H l Q q =>
  h G σ H l Q fun p vs G1 H1 g1 h0 hg h1 hd => q _ _ _ (g1.freeze h0 hg h1) (.lst (.inl (.inl upd_same)) (dpa_mono (same_new hg) _ _ hd))
theorem ev_is (h : Ev K te r d) (e : d = z) : Ev K te r z := e ▸ h
theorem evn_is (h : EvN K te r ds) (e : ds = es) : EvN K te r es := e ▸ h
theorem ea_nil : EvA K tNil r [] := fun G σ H l Q q => q [] G H (Gr.refl l.gh) .nil
theorem ea_cons {tr : TA} (h : Ev K ta r d) (hr : EvA K tr r ds) : EvA K (tCons ta tr) r (d :: ds) := fun G σ H l Q q =>
  h G σ H l _ fun x G1 H1 g1 d1 => hr G1 σ H1 (l.gr g1) _ fun xs G2 H2 g2 d2 => q _ G2 H2 (g1.trans g2) (.cons (dp_mono g2.gg _ _ d1) d2)
theorem ea_star {tr : TA} (h : Ev K ta r (.list es)) (hr : EvA K tr r ds) : EvA K (StX.tStar K ta tr) r (es ++ ds) := fun G σ H l Q q =>
  h G σ H l _ fun x G1 H1 g1 d1 => by
    cases d1 with
    | lst hs ha =>
      exact ⟨_, _, rfl, .inr (g1.gh.seq hs), hr G1 σ H1 (l.gr g1) _ fun xs G2 H2 g2 d2 => q _ G2 H2 (g1.trans g2) (DpAll.app (dpa_mono g2.gg _ _ ha) d2)⟩
theorem ev_tup {tr : TA} (h : EvA K tr r ds) (hl : ds.length ≤ 100000) : Ev K (tTup tr) r (.tuple ds) := fun G σ H l Q q =>
  h G σ H l _ fun xs G1 H1 g1 d1 => ⟨by rw [d1.len]; exact Nat.le_trans hl (by decide), fun p hp => q _ _ _ (g1.trans (Gr.newG g1.gh hp)) (.tup (.inl (.inl upd_same)) (dpa_mono (same_new (g1.gh.free hp)) _ _ d1))⟩
theorem evn_lst {tr : TA} (h : EvA K tr r ds) (hl : ds.length ≤ 100000) : EvN K (tLst tr) r ds := fun G σ H l Q q =>
  h G σ H l _ fun xs G1 H1 g1 d1 => ⟨by rw [d1.len]; exact Nat.le_trans hl (by decide), fun p hp => q p xs G1 _ (g1.trans (Gr.newH g1.gh hp)) (g1.hh.free hp) (g1.gh.free hp) upd_same d1⟩
theorem rd_I0 {g : Int → Int → Int} {m n : Int} : RD K (rI0 fun i j => .int (g i j)) (.int m) (.int n) (.int (g m n)) := fun G H x y gh hx hy Q q => by
  cases hx
  cases hy
  exact ⟨m, n, rfl, rfl, q _ G H (Gr.refl gh) (.int _)⟩
theorem rd_I {C : Int → Int → Prop} {g : Int → Int → Int} {m n : Int} (hc : C m n) : RD K (rI C fun i j => .int (g i j)) (.int m) (.int n) (.int (g m n)) := fun G H x y gh hx hy Q q => by
  cases hx
  cases hy
  exact ⟨m, n, rfl, rfl, hc, q _ G H (Gr.refl gh) (.int _)⟩
theorem rd_B0 {g : Int → Int → Bool} {m n : Int} : RD K (rI0 fun i j => .bl (g i j)) (.int m) (.int n) (.bool (g m n)) := fun G H x y gh hx hy Q q => by
  cases hx
  cases hy
  exact ⟨m, n, rfl, rfl, q _ G H (Gr.refl gh) (.bl _)⟩
theorem dec_vint {m n : Int} : decide (V.int m = V.int n) = decide (m = n) := by
  by_cases h : m = n
  · subst h; simp
  · simp [h]
theorem dec_vstr {m n : Str} : decide (V.str m = V.str n) = decide (m = n) := by
  by_cases h : m = n
  · subst h; simp
  · simp [h]
theorem rd_eqI {m n : Int} : RD K rEq (.int m) (.int n) (.bool (decide (m = n))) := fun G H x y gh hx hy Q q => by
  cases hx
  cases hy
  exact ⟨rfl, by rw [dec_vint]; exact q _ G H (Gr.refl gh) (.bl _)⟩
theorem rd_neI {m n : Int} : RD K rNe (.int m) (.int n) (.bool (!decide (m = n))) := fun G H x y gh hx hy Q q => by
  cases hx
  cases hy
  exact ⟨rfl, by rw [dec_vint]; exact q _ G H (Gr.refl gh) (.bl _)⟩
theorem rd_eqS {m n : Str} : RD K rEq (.str m) (.str n) (.bool (decide (m = n))) := fun G H x y gh hx hy Q q => by
  cases hx
  cases hy
  exact ⟨rfl, by rw [dec_vstr]; exact q _ G H (Gr.refl gh) (.bl _)⟩
theorem rd_neS {m n : Str} : RD K rNe (.str m) (.str n) (.bool (!decide (m = n))) := fun G H x y gh hx hy Q q => by
  cases hx
  cases hy
  exact ⟨rfl, by rw [dec_vstr]; exact q _ G H (Gr.refl gh) (.bl _)⟩
theorem rd_isNI {m : Int} : RD K (fun x y H Q => y = .non ∧ Q (.bl (decide (x = .non))) H) (.int m) .none (.bool false) := fun G H x y gh hx hy Q q => by
  cases hx
  cases hy
  exact ⟨rfl, q _ G H (Gr.refl gh) (.bl _)⟩
theorem rd_isNS {m : Str} : RD K (fun x y H Q => y = .non ∧ Q (.bl (decide (x = .non))) H) (.str m) .none (.bool false) := fun G H x y gh hx hy Q q => by
  cases hx
  cases hy
  exact ⟨rfl, q _ G H (Gr.refl gh) (.bl _)⟩
theorem rd_isNN : RD K (fun x y H Q => y = .non ∧ Q (.bl (decide (x = .non))) H) .none .none (.bool true) := fun G H x y gh hx hy Q q => by
  cases hx
  cases hy
  exact ⟨rfl, q _ G H (Gr.refl gh) (.bl _)⟩
theorem rd_notNI {m : Int} : RD K (fun x y H Q => y = .non ∧ Q (.bl (!decide (x = .non))) H) (.int m) .none (.bool true) := fun G H x y gh hx hy Q q => by
  cases hx
  cases hy
  exact ⟨rfl, q _ G H (Gr.refl gh) (.bl _)⟩
theorem ru_neg {m : Int} : RU K (rU fun i => .int (-i)) (.int m) (.int (-m)) := fun G H x gh hx Q q => by
  cases hx
  exact ⟨m, rfl, q _ G H (Gr.refl gh) (.int _)⟩
theorem atI_dp {G : Hp} {vs : List V} {n : Int} (h : DpAll K G vs ds) (e : atI ds n = some d) : ∃ v, atI vs n = some v ∧ Dp K G v d := by
  unfold atI at e ⊢
  rw [h.len]
  cases q : ixN ds.length n with
  | none => rw [q] at e; cases e
  | some j =>
    rw [q] at e
    exact h.at' (i := j) e
theorem rd_ixL {n : Int} (h : atI ds n = some d) : RD K (rIxL K) (.list ds) (.int n) d := fun G H x y gh hx hy Q q => by
  cases hx with
  | lst hs ha =>
    cases hy
    obtain ⟨v, e, hv⟩ := atI_dp ha h
    exact ⟨_, _, n, v, rfl, rfl, gh.seq hs, e, q _ G H (Gr.refl gh) hv⟩
theorem rd_ixT {n : Int} (h : atI ds n = some d) : RD K (rIxT K) (.tuple ds) (.int n) d := fun G H x y gh hx hy Q q => by
  cases hx with
  | tup hs ha =>
    cases hy
    obtain ⟨v, e, hv⟩ := atI_dp ha h
    exact ⟨_, _, n, v, rfl, rfl, same_seqT gh hs, e, q _ G H (Gr.refl gh) hv⟩
theorem rd_ixS {w : Str} {n : Int} {c : Nat} (hl : w.length ≤ 100000) (h : atI w.cps.toList n = some c) : RD K rIxS (.str w) (.int n) (.str ⟨#[c]⟩) := fun G H x y gh hx hy Q q => by
  cases hx
  cases hy
  exact ⟨w, n, c, rfl, rfl, Nat.le_trans hl (by decide), h, q _ G H (Gr.refl gh) (.str _)⟩
theorem ev_ixO {n : Int} (hi : r[i]? = some (.own ds)) (hb : Ev K tb r (.int n)) (h : atI ds n = some d) : Ev K (tOp (rIxL K) (tVar i) tb) r d := fun G σ H l Q q => by
  obtain ⟨p, vs, e1, e2, e3, e4, _⟩ := l.own i ds hi
  obtain ⟨v, e, hv⟩ := atI_dp e4 h
  refine ⟨_, e1, hb G σ H l _ fun y G1 H1 g1 d1 => ?_⟩
  cases d1
  exact ⟨p, vs, n, v, rfl, rfl, .inl (.inl (g1.hh _ _ e3)), e, q v G1 H1 g1 (dp_mono g1.gg _ _ hv)⟩
theorem any_strs {x : Str} : ∀ ws : List Str, (ws.map V.str).any (fun y => eqV y (.str x)) = decide (x ∈ ws)
  | [] => by simp
  | w :: ws => by
    rw [List.map_cons, List.any_cons, any_strs ws]
    have e : eqV (V.str w) (.str x) = decide (x = w) := by
      by_cases h : x = w
      · subst h; simp [eqV]
      · have h2 : ¬ w = x := fun q => h q.symm
        simp [eqV, h, h2]
    rw [e]
    by_cases h : x = w
    · simp [h]
    · simp [h]
theorem flat_strs : ∀ ws : List Str, (ws.map V.str).all flatV = true
  | [] => rfl
  | _ :: ws => by
    rw [List.map_cons, List.all_cons, flat_strs ws]
    rfl
theorem rd_inT {x : Str} {ws : List Str} : RD K (rIn K false) (.str x) (.tuple (ws.map .str)) (.bool (decide (x ∈ ws))) := fun G H u y gh hx hy Q q => by
  cases hx
  cases hy with
  | tup hs ha =>
    rw [dp_strs ha] at hs
    refine ⟨_, _, rfl, .inr (same_seqT gh hs), rfl, flat_strs ws, ?_⟩
    show Q (.bl (inV (.str x) (ws.map V.str))) H
    unfold inV
    rw [any_strs]
    exact q _ G H (Gr.refl gh) (.bl _)
theorem rd_niT {x : Str} {ws : List Str} : RD K (rIn K true) (.str x) (.tuple (ws.map .str)) (.bool (!decide (x ∈ ws))) := fun G H u y gh hx hy Q q => by
  cases hx
  cases hy with
  | tup hs ha =>
    rw [dp_strs ha] at hs
    refine ⟨_, _, rfl, .inr (same_seqT gh hs), rfl, flat_strs ws, ?_⟩
    show Q (.bl (!inV (.str x) (ws.map V.str))) H
    unfold inV
    rw [any_strs]
    exact q _ G H (Gr.refl gh) (.bl _)
theorem rd_inS {c : Nat} {w : Str} : RD K (fun x y H Q => ∃ (c : Nat) (z : Str), x = .str ⟨#[c]⟩ ∧ y = .str z ∧ Q (.bl (decide (c ∈ z.cps.toList))) H) (.str ⟨#[c]⟩) (.str w) (.bool (decide (c ∈ w.cps.toList))) := fun G H u y gh hx hy Q q => by
  cases hx
  cases hy
  exact ⟨c, w, rfl, rfl, q _ G H (Gr.refl gh) (.bl _)⟩
theorem rd_inD (h1 : SeqAt.shaped d = true) (h2 : SeqAt.shaped (.list ds) = true) : RD K (rInD K) d (.list ds) (.bool (ds.any fun z => PyData.eqv z d)) := fun G H u y gh hx hy Q q =>
  ⟨d, ds, dp_mono gh _ _ hx, dp_mono gh _ _ hy, h1, h2, q _ G H (Gr.refl gh) (.bl _)⟩
theorem rd_eqD (h1 : SeqAt.shaped d = true) (h2 : SeqAt.shaped e = true) : RD K (rEqD K) d e (.bool (PyData.eqv d e)) := fun G H u y gh hx hy Q q =>
  ⟨d, e, dp_mono gh _ _ hx, dp_mono gh _ _ hy, h1, h2, q _ G H (Gr.refl gh) (.bl _)⟩
theorem rd_neD (h1 : SeqAt.shaped d = true) (h2 : SeqAt.shaped e = true) : RD K (rNeD K) d e (.bool (!PyData.eqv d e)) := fun G H u y gh hx hy Q q =>
  ⟨d, e, dp_mono gh _ _ hx, dp_mono gh _ _ hy, h1, h2, q _ G H (Gr.refl gh) (.bl _)⟩
theorem rd_catS {x y : Str} (h : x.length + y.length ≤ 100000) : RD K (fun x y H Q => ∃ i j, x = .str i ∧ y = .str j ∧ i.length + j.length ≤ sizeLine ∧ Q (.str (i ++ j)) H) (.str x) (.str y) (.str (x ++ y)) := fun G H u v gh hx hy Q q => by
  cases hx
  cases hy
  exact ⟨x, y, rfl, rfl, Nat.le_trans h (by decide), q _ G H (Gr.refl gh) (.str _)⟩
theorem evn_cat (ha : EvN K ta r ds) (hb : EvN K tb r es) (hl : ds.length + es.length ≤ 100000) : EvN K (tOp rCat ta tb) r (ds ++ es) := fun G σ H l Q q =>
  ha G σ H l _ fun p vs G1 H1 g1 n1 z1 h1 d1 => hb G1 σ H1 (l.gr g1) _ fun p2 vs2 G2 H2 g2 n2 z2 h2 d2 =>
    ⟨p, p2, vs, vs2, rfl, rfl, g2.hh _ _ h1, h2, by rw [d1.len, d2.len]; exact Nat.le_trans hl (by decide), fun u hu => q u _ G2 _ ((g1.trans g2).trans (Gr.newH g2.gh hu)) ((g1.trans g2).hh.free hu) (g2.gh.free hu) upd_same (DpAll.app (dpa_mono g2.gg _ _ d1) d2)⟩
theorem evn_rep {n : Int} (ha : EvN K ta r ds) (hb : Ev K tb r (.int n)) (h0 : 0 ≤ n) (h1 : n < 2 ^ 62) (hl : ds.length * n.toNat ≤ 100000) : EvN K (tOp rRep ta tb) r (List.replicate n.toNat ds).flatten := fun G σ H l Q q =>
  ha G σ H l _ fun p vs G1 H1 g1 n1 z1 e1 d1 => hb G1 σ H1 (l.gr g1) _ fun y G2 H2 g2 d2 => by
    cases d2
    exact ⟨p, n, vs, rfl, rfl, g2.hh _ _ e1, by omega, by omega, by rw [d1.len]; exact Nat.le_trans hl (by decide), fun u hu => q u _ G2 _ ((g1.trans g2).trans (Gr.newH g2.gh hu)) ((g1.trans g2).hh.free hu) (g2.gh.free hu) upd_same (DpAll.rep (dpa_mono g2.gg _ _ d1) _)⟩
theorem eo_none : EvO K tNoPart r none := fun G σ H l Q q => q G H (Gr.refl l.gh)
theorem eo_some {n : Int} (h : Ev K te r (.int n)) : EvO K (tPart te) r (some n) := fun G σ H l Q q => h G σ H l _ fun v G1 H1 g1 d1 => by
  cases d1
  exact ⟨n, rfl, q G1 H1 g1⟩
def cutA {α : Type} (xs : List α) (lo hi : Option Int) : List α := List.take (HT.sIx xs.length xs.length hi - HT.sIx xs.length 0 lo) (List.drop (HT.sIx xs.length 0 lo) xs)
theorem cutV_eq (xs : List V) (lo hi : Option Int) : cutV xs lo hi = cutA xs lo hi := rfl
theorem cutA_dp {G : Hp} {vs : List V} (h : DpAll K G vs ds) (lo hi : Option Int) : DpAll K G (cutA vs lo hi) (cutA ds lo hi) := by
  unfold cutA
  rw [h.len]
  exact DpAll.take _ (DpAll.drop _ h)
theorem evn_slL {lo hi : Option Int} {t1 t2 : TO} (h : Ev K te r (.list ds)) (h1 : EvO K t1 r lo) (h2 : EvO K t2 r hi) : EvN K (tSl (rSlL K) te t1 t2) r (cutA ds lo hi) := fun G σ H l Q q =>
  h G σ H l _ fun x G1 H1 g1 d1 => h1 G1 σ H1 (l.gr g1) _ fun G2 H2 g2 => h2 G2 σ H2 ((l.gr g1).gr g2) _ fun G3 H3 g3 => by
    cases d1 with
    | lst hs ha =>
      exact ⟨_, _, rfl, g3.gh.seq (g3.gg.seq (g2.gg.seq hs)), fun u hu => q u _ G3 _ (((g1.trans g2).trans g3).trans (Gr.newH g3.gh hu)) (((g1.trans g2).trans g3).hh.free hu) (g3.gh.free hu) upd_same (cutA_dp (dpa_mono g3.gg _ _ (dpa_mono g2.gg _ _ ha)) lo hi)⟩
theorem ev_slS {lo hi : Option Int} {t1 t2 : TO} {w : Str} (h : Ev K te r (.str w)) (h1 : EvO K t1 r lo) (h2 : EvO K t2 r hi) (hl : w.length ≤ 100000) : Ev K (tSl rSlS te t1 t2) r (.str (cutS w lo hi)) := fun G σ H l Q q =>
  h G σ H l _ fun x G1 H1 g1 d1 => h1 G1 σ H1 (l.gr g1) _ fun G2 H2 g2 => h2 G2 σ H2 ((l.gr g1).gr g2) _ fun G3 H3 g3 => by
    cases d1
    exact ⟨w, rfl, Nat.le_trans hl (by decide), q _ G3 H3 ((g1.trans g2).trans g3) (.str _)⟩
theorem evn_rev (h : Ev K te r (.list ds)) : EvN K (tRevL K te) r ds.reverse := fun G σ H l Q q =>
  h G σ H l _ fun x G1 H1 g1 d1 => by
    cases d1 with
    | lst hs ha => exact ⟨_, _, rfl, g1.gh.seq hs, fun u hu => q u _ G1 _ (g1.trans (Gr.newH g1.gh hu)) (g1.hh.free hu) (g1.gh.free hu) upd_same ha.rev⟩
def rgI (a b : Int) : List Int := (List.range (b - a).toNat).map fun (i : Nat) => a + (i : Int)
theorem rgV_eq (a b : Int) : rgV a b = (rgI a b).map V.int := by
  unfold rgV rgI
  rw [List.map_map]
  rfl
theorem evn_listRg {m n : Int} (ha : Ev K ta r (.int m)) (hb : Ev K tb r (.int n)) (h0 : 0 ≤ m) (h1 : n ≤ 100000) (h2 : m ≤ 100000) (h3 : 0 ≤ n) : EvN K (tLstRg (tRg2 ta tb)) r ((rgI m n).map .int) := fun G σ H l Q q =>
  ha G σ H l _ fun x G1 H1 g1 d1 => hb G1 σ H1 (l.gr g1) _ fun y G2 H2 g2 d2 => by
    cases d1
    cases d2
    refine ⟨m, n, rfl, rfl, RgOk.of_le h0 (by omega) (by omega) h3, fun u hu => ?_⟩
    rw [rgV_eq]
    exact q u _ G2 _ ((g1.trans g2).trans (Gr.newH g2.gh hu)) ((g1.trans g2).hh.free hu) (g2.gh.free hu) upd_same (ints_dp _)
theorem ev_cb {rc : List V → Hp → VK → Prop} {tr : TA} (h : EvA K tr r ds) (hr : RC K rc ds z) : Ev K (tCB rc tr) r z := fun G σ H l Q q =>
  h G σ H l _ fun xs G1 H1 g1 d1 => hr G1 H1 xs g1.gh d1 Q fun v G2 H2 g2 d2 => q v G2 H2 (g1.trans g2) d2
theorem ev_call {sp : Sp} {E : XK} {tr : TA} (h : EvA K tr r ds) (hs : Spd K sp ds z) : Ev K (tCall sp [] E tr) r z := fun G σ H l Q q =>
  h G σ H l _ fun xs G1 H1 g1 d1 => by
    rw [List.append_nil]
    exact hs G1 H1 xs g1.gh d1 Q E fun v G2 H2 g2 d2 => q v G2 H2 (g1.trans g2) d2
theorem rc_lenL : RC K (fun xs H Q => ∃ x n, xs = [x] ∧ LenV K x H n ∧ Q (.int n) H) [.list ds] (.int (ds.length : Int)) := fun G H xs gh hx Q q => by
  cases hx with
  | cons h t =>
    cases t
    cases h with
    | lst hs ha => exact ⟨_, ds.length, rfl, .inl ⟨_, gh.seq hs, ha.len.symm⟩, q _ G H (Gr.refl gh) (.int _)⟩
theorem rc_lenT : RC K (fun xs H Q => ∃ x n, xs = [x] ∧ LenV K x H n ∧ Q (.int n) H) [.tuple ds] (.int (ds.length : Int)) := fun G H xs gh hx Q q => by
  cases hx with
  | cons h t =>
    cases t
    cases h with
    | tup hs ha => exact ⟨_, ds.length, rfl, .inr ⟨_, same_seqT gh hs, ha.len.symm⟩, q _ G H (Gr.refl gh) (.int _)⟩
theorem rc_lenS {w : Str} (hl : w.length ≤ 100000) : RC K (fun xs H Q => ∃ x n, xs = [x] ∧ LenV K x H n ∧ Q (.int n) H) [.str w] (.int (w.length : Int)) := fun G H xs gh hx Q q => by
  cases hx with
  | cons h t =>
    cases t
    cases h
    exact ⟨_, w.length, rfl, ⟨Nat.le_trans hl (by decide), rfl⟩, q _ G H (Gr.refl gh) (.int _)⟩
theorem rc_intI {n : Int} : RC K (fun xs H Q => (∃ i, xs = [.int i] ∧ Q (.int i) H) ∨ ∃ k, xs = [.bl k] ∧ Q (.int (if k then 1 else 0)) H) [.int n] (.int n) := fun G H xs gh hx Q q => by
  cases hx with
  | cons h t =>
    cases t
    cases h
    exact .inl ⟨n, rfl, q _ G H (Gr.refl gh) (.int _)⟩
theorem rc_intB {n : Bool} : RC K (fun xs H Q => (∃ i, xs = [.int i] ∧ Q (.int i) H) ∨ ∃ k, xs = [.bl k] ∧ Q (.int (if k then 1 else 0)) H) [.bool n] (.int (if n then 1 else 0)) := fun G H xs gh hx Q q => by
  cases hx with
  | cons h t =>
    cases t
    cases h
    exact .inr ⟨n, rfl, q _ G H (Gr.refl gh) (.int _)⟩
theorem rc_str {n : Int} (hl : n.natAbs.log2 < 1920) : RC K (fun xs H Q => ∃ i, xs = [.int i] ∧ i.natAbs.log2 < 1920 ∧ Q (.str (toString i)) H) [.int n] (.str (toString n)) := fun G H xs gh hx Q q => by
  cases hx with
  | cons h t =>
    cases t
    cases h
    exact ⟨n, rfl, hl, q _ G H (Gr.refl gh) (.str _)⟩
theorem rc_max {m n : Int} : RC K (fun xs H Q => ∃ i j, xs = [.int i, .int j] ∧ Q (.int (if j > i then j else i)) H) [.int m, .int n] (.int (if n > m then n else m)) := fun G H xs gh hx Q q => by
  cases hx with
  | cons h t =>
    cases t with
    | cons h2 t2 =>
      cases t2
      cases h
      cases h2
      exact ⟨m, n, rfl, q _ G H (Gr.refl gh) (.int _)⟩
theorem rc_min {m n : Int} : RC K (fun xs H Q => ∃ i j, xs = [.int i, .int j] ∧ Q (.int (if j < i then j else i)) H) [.int m, .int n] (.int (if n < m then n else m)) := fun G H xs gh hx Q q => by
  cases hx with
  | cons h t =>
    cases t with
    | cons h2 t2 =>
      cases t2
      cases h
      cases h2
      exact ⟨m, n, rfl, q _ G H (Gr.refl gh) (.int _)⟩
theorem rc_sum {ns : List Int} : RC K (rSum K) [.list (ns.map .int)] (.int ns.sum) := fun G H xs gh hx Q q => by
  cases hx with
  | cons h t =>
    cases t
    cases h with
    | lst hs ha =>
      rw [dp_ints ha] at hs
      exact ⟨_, ns, rfl, gh.seq hs, q _ G H (Gr.refl gh) (.int _)⟩
theorem rc_minL {ns : List Int} {m : Int} (hm : m ∈ ns) (hl : ∀ y ∈ ns, m ≤ y) : RC K (rMin K) [.list (ns.map .int)] (.int m) := fun G H xs gh hx Q q => by
  cases hx with
  | cons h t =>
    cases t
    cases h with
    | lst hs ha =>
      rw [dp_ints ha] at hs
      refine ⟨_, ns, rfl, gh.seq hs, List.length_pos_of_mem hm, fun m' h1 h2 => ?_⟩
      have e : m' = m := Int.le_antisymm (h2 m hm) (hl m' h1)
      subst e
      exact q _ G H (Gr.refl gh) (.int _)
theorem rc_all {bs : List Bool} : RC K (rAll K) [.list (bs.map .bool)] (.bool (bs.all id)) := fun G H xs gh hx Q q => by
  cases hx with
  | cons h t =>
    cases t
    cases h with
    | lst hs ha =>
      rw [dp_bls ha] at hs
      exact ⟨_, bs, rfl, gh.seq hs, q _ G H (Gr.refl gh) (.bl _)⟩
theorem rc_intS {w : Str} {n : Int} (h1 : PySem.intText? w = some n) (h2 : w.length ≤ 640) : RC K (fun xs H Q => ∃ a n, xs = [.str a] ∧ PySem.intText? a = some n ∧ a.length ≤ 640 ∧ Q (.int n) H) [.str w] (.int n) := fun G H xs gh hx Q q => by
  cases hx with
  | cons h t =>
    cases t
    cases h
    exact ⟨w, n, rfl, h1, h2, q _ G H (Gr.refl gh) (.int _)⟩
theorem rc_divmod {m n : Int} (hc : CDivP m n) : RC K (fun xs H Q => ∃ i j, xs = [.int i, .int j] ∧ CDivP i j ∧ ∀ p, H p = none → Q (.ref p) (upd H p (.tup [.int (i / j), .int (i % j)]))) [.int m, .int n] (.tuple [.int (m / n), .int (m % n)]) := fun G H xs gh hx Q q => by
  cases hx with
  | cons h t =>
    cases t with
    | cons h2 t2 =>
      cases t2
      cases h
      cases h2
      exact ⟨m, n, rfl, hc, fun p hp => q _ _ _ (Gr.newG gh hp) (.tup (.inl (.inl upd_same)) (.cons (.int _) (.cons (.int _) .nil)))⟩
def tyD : PyData → String
  | .none => "NoneType"
  | .bool _ => "bool"
  | .int _ => "int"
  | .str _ => "str"
  | .list _ => "list"
  | .tuple _ => "tuple"
  | .dict _ => "dict"
theorem tyx_dp {G H : Hp} {v : V} (gh : Same G H) (h : Dp K G v d) : TyX K H v (.type (tyD d)) := by
  cases h with
  | non => exact .base .non
  | bl b => exact .base (.bl b)
  | int i => exact .base (.int i)
  | str x => exact .base (.str x)
  | lst hs ha =>
    rcases gh.seq hs with (q | ⟨o, q⟩) | ⟨o, its, n, h1, h2, _⟩
    · exact .base (.lst q)
    · exact .base (.frz q)
    · exact .kList h1 h2
  | tup hs ha =>
    rcases same_seqT gh hs with (q | ⟨o, q⟩) | ⟨o, its, n, h1, h2, _⟩
    · exact .base (.tup q)
    · exact .fTuple q
    · exact .kTuple h1 h2
theorem ev_isi {n : String} {k : Bool} (h : Ev K te r d) (hk : kitB (tyD d) n = some k) : Ev K (tCB (rIsi K) (tCons te (tCons (tC (.ty n)) tNil))) r (.bool k) := fun G σ H l Q q =>
  h G σ H l _ fun x G1 H1 g1 d1 => ⟨x, .ty n, _, _, k, rfl, .ty n, tyx_dp g1.gh d1, kit_ty hk, q _ G1 H1 g1 (.bl _)⟩
theorem ev_bits {n : Int} (h : Ev K te r (.int n)) : Ev K (tBits te) r (.int (Builtin.Int.intBits n : Nat)) := fun G σ H l Q q =>
  h G σ H l _ fun x G1 H1 g1 d1 => by
    cases d1
    exact ⟨n, rfl, q _ G1 H1 g1 (.int _)⟩
theorem evn_split {u w : Str} {to : TE} (h : Ev K to r (.str u)) (h2 : Ev K te r (.str w)) (h3 : (w.length == 0) = false) (h4 : u.length + 2 ≤ 100000) :
    EvN K (tM1 (fun x xs H Q => ∃ a b, x = .str a ∧ xs = [.str b] ∧ (b.length == 0) = false ∧ a.length + 2 ≤ sizeLine ∧ rNewStrs (Txt.split a b) H Q) to te) r ((Txt.split u w).map .str) := fun G σ H l Q q =>
  h G σ H l _ fun x G1 H1 g1 d1 => by
    cases d1
    refine ⟨⟨u, rfl⟩, h2 G1 σ H1 (l.gr g1) _ fun y G2 H2 g2 d2 => ?_⟩
    cases d2
    exact ⟨u, w, rfl, rfl, h3, Nat.le_trans h4 (by decide), fun p hp => q p _ G2 _ ((g1.trans g2).trans (Gr.newH g2.gh hp)) ((g1.trans g2).hh.free hp) (g2.gh.free hp) upd_same (strs_dp _)⟩
theorem ev_join {u : Str} {ys : List Str} {to : TE} (h : Ev K to r (.str u)) (h2 : Ev K te r (.list (ys.map .str))) (h3 : (ys.map (·.length)).sum + ys.length * u.length ≤ 100000) :
    Ev K (tM1 (fun x xs H Q => ∃ a p, ∃ ys : List Str, x = .str a ∧ xs = [.ref p] ∧ (SqL K H p (ys.map V.str) ∨ SqT K H p (ys.map V.str)) ∧ (ys.map (·.length)).sum + ys.length * a.length ≤ 16777216 ∧ Q (.str (Txt.join a ys)) H) to te) r (.str (Txt.join u ys)) := fun G σ H l Q q =>
  h G σ H l _ fun x G1 H1 g1 d1 => by
    cases d1
    refine ⟨⟨u, rfl⟩, h2 G1 σ H1 (l.gr g1) _ fun y G2 H2 g2 d2 => ?_⟩
    cases d2 with
    | lst hs ha =>
      rw [dp_strs ha] at hs
      exact ⟨u, _, ys, rfl, rfl, .inl (g2.gh.seq hs), by omega, q _ G2 H2 (g1.trans g2) (.str _)⟩
theorem et_test {k : Bool} (h : Ev K te r (.bool k)) : EvT K (tTest te) r k := fun G σ H l Q q => h G σ H l _ fun x G1 H1 g1 d1 => by
  cases d1
  exact ⟨k, rfl, q G1 H1 g1⟩
theorem et_B {k : Bool} (h : Ev K te r (.bool k)) : EvT K (tB te) r k := fun G σ H l Q q => h G σ H l _ fun x G1 H1 g1 d1 => by
  cases d1
  exact ⟨k, rfl, q G1 H1 g1⟩
theorem et_not {t : TT} {k : Bool} (h : EvT K t r k) : EvT K (tNot t) r (!k) := fun G σ H l Q q => h G σ H l _ fun G1 H1 g1 => q G1 H1 g1
theorem et_and {t u : TT} {k m : Bool} (h : EvT K t r k) (h2 : k = true → EvT K u r m) : EvT K (tAnd t u) r (k && m) := fun G σ H l Q q => h G σ H l _ fun G1 H1 g1 => by
  cases k with
  | true => exact h2 rfl G1 σ H1 (l.gr g1) Q fun G2 H2 g2 => q G2 H2 (g1.trans g2)
  | false => exact q G1 H1 g1
theorem et_or {t u : TT} {k m : Bool} (h : EvT K t r k) (h2 : k = false → EvT K u r m) : EvT K (tOr t u) r (k || m) := fun G σ H l Q q => h G σ H l _ fun G1 H1 g1 => by
  cases k with
  | true => exact q G1 H1 g1
  | false => exact h2 rfl G1 σ H1 (l.gr g1) Q fun G2 H2 g2 => q G2 H2 (g1.trans g2)
theorem et_is {t : TT} {k m : Bool} (h : EvT K t r k) (e : k = m) : EvT K t r m := e ▸ h
theorem et_yes : EvT K tYes r true := fun G σ H l Q q => q G H (Gr.refl l.gh)
theorem ev_if {t : TT} {k : Bool} (h : EvT K t r k) (h1 : k = true → Ev K ta r d) (h2 : k = false → Ev K tb r d) : Ev K (tIf t ta tb) r d := fun G σ H l Q q => h G σ H l _ fun G1 H1 g1 => by
  cases k with
  | true => exact h1 rfl G1 σ H1 (l.gr g1) Q fun v G2 H2 g2 d2 => q v G2 H2 (g1.trans g2) d2
  | false => exact h2 rfl G1 σ H1 (l.gr g1) Q fun v G2 H2 g2 d2 => q v G2 H2 (g1.trans g2) d2
theorem ev_andV {k m : Bool} (h : Ev K ta r (.bool k)) (h2 : k = true → Ev K tb r (.bool m)) : Ev K (tAndV ta tb) r (.bool (k && m)) := fun G σ H l Q q => h G σ H l _ fun x G1 H1 g1 d1 => by
  cases d1
  refine ⟨k, rfl, ?_⟩
  cases k with
  | true => exact h2 rfl G1 σ H1 (l.gr g1) Q fun v G2 H2 g2 d2 => q v G2 H2 (g1.trans g2) d2
  | false => exact q _ G1 H1 g1 (.bl _)
theorem ev_orV {k m : Bool} (h : Ev K ta r (.bool k)) (h2 : k = false → Ev K tb r (.bool m)) : Ev K (tOrV ta tb) r (.bool (k || m)) := fun G σ H l Q q => h G σ H l _ fun x G1 H1 g1 d1 => by
  cases d1
  refine ⟨k, rfl, ?_⟩
  cases k with
  | true => exact q _ G1 H1 g1 (.bl _)
  | false => exact h2 rfl G1 σ H1 (l.gr g1) Q fun v G2 H2 g2 d2 => q v G2 H2 (g1.trans g2) d2
theorem ev_notV {k : Bool} (h : Ev K ta r (.bool k)) : Ev K (tNotV ta) r (.bool (!k)) := fun G σ H l Q q => h G σ H l _ fun x G1 H1 g1 d1 => by
  cases d1
  exact ⟨k, rfl, q _ G1 H1 g1 (.bl _)⟩
theorem ev_chain {p1 p2 : Int → Int → Bool} {l m n : Int} (ha : Ev K ta r (.int l)) (hb : Ev K tb r (.int m)) (hc : Ev K tc r (.int n)) : Ev K (tChain (rI0 fun i j => .bl (p1 i j)) (rI0 fun i j => .bl (p2 i j)) ta tb tc) r (.bool (p1 l m && p2 m n)) := fun G σ H ll Q q =>
  ha G σ H ll _ fun x G1 H1 g1 d1 => hb G1 σ H1 (ll.gr g1) _ fun y G2 H2 g2 d2 => by
    cases d1
    cases d2
    refine ⟨l, m, rfl, rfl, p1 l m, rfl, ?_⟩
    generalize p1 l m = k at q ⊢
    cases k with
    | true =>
      refine hc G2 σ H2 ((ll.gr g1).gr g2) _ fun z G3 H3 g3 d3 => ?_
      cases d3
      exact ⟨m, n, rfl, rfl, q _ G3 H3 ((g1.trans g2).trans g3) (.bl _)⟩
    | false => exact q _ G2 H2 (g1.trans g2) (.bl _)
end
end Q46
namespace Q46
open PySem L2
def Only (js : List Nat) (σ σ' : L2.St) : Prop := σ'.length = σ.length ∧ ∀ k, k ∉ js → σ'[k]? = σ[k]?
structure GD (K : PySem.W.Frag) (g : TG) (r : List QV) (d : PyData) (r1 : List QV) (js : List Nat) : Prop where
  run : ∀ G σ H v, QL K G r σ H → Dp K G v d → ∀ Q : L2.St → Hp → Prop, (∀ σ', QL K G r1 σ' H → Only js σ σ' → Q σ' H) → g v σ H Q
  own : ∀ (i : Nat) (ds : List PyData), r1[i]? = some (.own ds) → r[i]? = some (.own ds) ∧ i ∉ js
structure GDs (K : PySem.W.Frag) (g : TGs) (r : List QV) (ds : List PyData) (r1 : List QV) (js : List Nat) : Prop where
  run : ∀ G σ H vs, QL K G r σ H → DpAll K G vs ds → ∀ Q : L2.St → Hp → Prop, (∀ σ', QL K G r1 σ' H → Only js σ σ' → Q σ' H) → g vs σ H Q
  own : ∀ (i : Nat) (ds : List PyData), r1[i]? = some (.own ds) → r[i]? = some (.own ds) ∧ i ∉ js
section
variable {K : PySem.W.Frag} {r r1 r2 : List QV} {d : PyData} {ds : List PyData} {js ks : List Nat}
theorem gd_name {i : Nat} : GD K (gName i) r d (r.set i (.dat d)) [i] where
  run := fun G σ H v l h Q q => q _ (l.set h) ⟨List.length_set .., fun k hk => by
    have : i ≠ k := fun e => hk (by simp [e])
    rw [List.getElem?_set_ne this]⟩
  own := fun j es hj => by
    rcases getElem?_set_lv hj with ⟨_, e1⟩ | ⟨ne, e1⟩
    · cases e1
    · exact ⟨e1, by simpa using ne⟩
theorem gds_nil : GDs K gNil r [] r [] where
  run := fun G σ H v l h Q q => by
    cases h
    exact ⟨rfl, q σ l ⟨rfl, fun _ _ => rfl⟩⟩
  own := fun j es hj => ⟨hj, by simp⟩
theorem gds_cons {g : TG} {t : TGs} (h1 : GD K g r d r1 js) (h2 : GDs K t r1 ds r2 ks) : GDs K (gCons g t) r (d :: ds) r2 (js ++ ks) where
  run := fun G σ H v l h Q q => by
    cases h with
    | cons a b =>
      refine ⟨_, _, rfl, h1.run G σ H _ l a _ fun σ1 l1 e1 => h2.run G σ1 H _ l1 b _ fun σ2 l2 e2 => q σ2 l2 ⟨e2.1.trans e1.1, fun k hk => ?_⟩⟩
      exact (e2.2 k fun z => hk (List.mem_append_right _ z)).trans (e1.2 k fun z => hk (List.mem_append_left _ z))
  own := fun j es hj => by
    obtain ⟨a, b⟩ := h2.own j es hj
    obtain ⟨c, e⟩ := h1.own j es a
    exact ⟨c, fun z => (List.mem_append.mp z).elim e b⟩
theorem gd_tup {t : TGs} {n : Nat} (h : GDs K t r ds r1 js) (hn : ds.length = n) : GD K (gTup K n t) r (.tuple ds) r1 js where
  run := fun G σ H v l hv Q q => by
    cases hv with
    | tup hs ha => exact ⟨_, _, rfl, same_seqT l.gh hs, ha.len.trans hn, h.run G σ H _ l ha Q q⟩
  own := h.own
end
def YD (K : PySem.W.Frag) (G H : Hp) (x : V) (H' : Hp) (d : PyData) : Prop := (H' = H ∧ Dp K G x d) ∨ ∃ T vs ds, x = .ref T ∧ H T = none ∧ H' = upd H T (.tup vs) ∧ d = .tuple ds ∧ DpAll K G vs ds
structure WkD (K : PySem.W.Frag) (J : It) (G : Hp) (items : List PyData) : Prop where
  go : ∀ i H, i < items.length → Same G H → J.go i H
  stop : ∀ H, Same G H → J.stop items.length H
  yld : ∀ i H x H', i < items.length → Same G H → J.yld i H x H' → ∃ d, items[i]? = some d ∧ YD K G H x H' d
theorem YD.gr {K : PySem.W.Frag} {G G1 H : Hp} {x : V} {H' : Hp} {d : PyData} (y : YD K G H x H' d) (e : Same G G1) (gh : Same G1 H) : ∃ G', Gr G1 H G' H' ∧ Dp K G' x d := by
  rcases y with ⟨rfl, h⟩ | ⟨T, vs, ds, rfl, hT, rfl, rfl, h⟩
  · exact ⟨G1, Gr.refl gh, dp_mono e _ _ h⟩
  · exact ⟨_, Gr.newG gh hT, .tup (.inl (.inl upd_same)) (dpa_mono (e.trans (same_new (gh.free hT))) _ _ h)⟩
def ItD (K : PySem.W.Frag) (wi : TI) (r : List QV) (items : List PyData) : Prop := ∀ G σ H, QL K G r σ H → ∀ R : It → Hp → Prop, (∀ J G' H', Gr G H G' H' → WkD K J G' items → R J H') → wi σ H R
def enD (k : Int) : List PyData → List PyData
  | [] => []
  | d :: ds => .tuple [.int k, d] :: enD (k + 1) ds
theorem enD_len : ∀ (ds : List PyData) (k : Int), (enD k ds).length = ds.length
  | [], _ => rfl
  | _ :: ds, k => congrArg (· + 1) (enD_len ds (k + 1))
theorem enD_at : ∀ {ds : List PyData} {k : Int} {i : Nat} {d : PyData}, ds[i]? = some d → (enD k ds)[i]? = some (.tuple [.int (k + (i : Int)), d])
  | [], _, _, _, h => by cases h
  | e :: ds, k, 0, d, h => by
    cases h
    show some (PyData.tuple [.int k, e]) = _
    have z : k + ((0 : Nat) : Int) = k := by omega
    rw [z]
  | _ :: ds, k, i + 1, d, h => by
    have q := enD_at (ds := ds) (k := k + 1) (i := i) h
    show (enD (k + 1) ds)[i]? = _
    rw [q]
    have z : k + 1 + (i : Int) = k + ((i + 1 : Nat) : Int) := by omega
    rw [z]
def zpD : List PyData → List PyData → List PyData
  | a :: as, b :: bs => .tuple [a, b] :: zpD as bs
  | _, _ => []
theorem zpD_len : ∀ (as bs : List PyData), (zpD as bs).length = min as.length bs.length
  | [], [] => rfl
  | [], _ :: _ => by simp [zpD]
  | _ :: _, [] => by simp [zpD]
  | _ :: as, _ :: bs => by
    show (zpD as bs).length + 1 = min (as.length + 1) (bs.length + 1)
    rw [zpD_len as bs]
    omega
theorem zpD_at : ∀ {as bs : List PyData} {i : Nat} {a b : PyData}, as[i]? = some a → bs[i]? = some b → (zpD as bs)[i]? = some (.tuple [a, b])
  | [], _, _, _, _, h, _ => by cases h
  | _ :: _, [], _, _, _, _, h => by cases h
  | _ :: _, _ :: _, 0, _, _, h1, h2 => by cases h1; cases h2; rfl
  | _ :: as, _ :: bs, i + 1, _, _, h1, h2 => zpD_at (as := as) (bs := bs) (i := i) h1 h2
section
variable {K : PySem.W.Frag} {r : List QV} {te tl : TE} {ta : TA} {ds es : List PyData}
theorem it_list (h : Ev K tl r (.list ds)) : ItD K (iList K tl) r ds := fun G σ H l R q => h G σ H l _ fun x G1 H1 g1 d1 => by
  cases d1 with
  | lst hs ha =>
    rename_i a xs
    refine ⟨a, rfl, ⟨xs, g1.gh.seq hs⟩, q _ G1 H1 g1 ⟨fun i H2 hi s2 => ?_, fun H2 s2 => ⟨xs, s2.seq hs, by rw [ha.len]; exact Nat.le_refl _⟩, fun i H2 x H3 hi s2 y => ?_⟩⟩
    · have hl : i < xs.length := by rw [ha.len]; exact hi
      exact ⟨xs, _, s2.seq hs, List.getElem?_eq_getElem hl⟩
    · obtain ⟨rfl, hx⟩ := y
      obtain ⟨d, e, hd⟩ := ha.at (hx xs (s2.seq hs))
      exact ⟨d, e, .inl ⟨rfl, hd⟩⟩
theorem it_tup (h : Ev K tl r (.tuple ds)) : ItD K (iTup K tl) r ds := fun G σ H l R q => h G σ H l _ fun x G1 H1 g1 d1 => by
  cases d1 with
  | tup hs ha =>
    rename_i a xs
    refine ⟨a, rfl, ⟨xs, same_seqT g1.gh hs⟩, q _ G1 H1 g1 ⟨fun i H2 hi s2 => ?_, fun H2 s2 => ⟨xs, same_seqT s2 hs, by rw [ha.len]; exact Nat.le_refl _⟩, fun i H2 x H3 hi s2 y => ?_⟩⟩
    · have hl : i < xs.length := by rw [ha.len]; exact hi
      exact ⟨xs, _, same_seqT s2 hs, List.getElem?_eq_getElem hl⟩
    · obtain ⟨rfl, hx⟩ := y
      obtain ⟨d, e, hd⟩ := ha.at (hx xs (same_seqT s2 hs))
      exact ⟨d, e, .inl ⟨rfl, hd⟩⟩
theorem rgI_len (a b : Int) : (rgI a b).length = (b - a).toNat := by unfold rgI; rw [List.length_map, List.length_range]
theorem rgI_at {a b : Int} {i : Nat} (h : i < (b - a).toNat) : ((rgI a b).map PyData.int)[i]? = some (.int (a + (i : Int))) := by
  unfold rgI
  rw [List.getElem?_map, List.getElem?_map, List.getElem?_range h]
  rfl
theorem wk_range {J : It} {G : Hp} {lo hi : Int} {n : Nat} (hJ : J = Itr lo n) (hn : n = (hi - lo).toNat) : WkD K J G ((rgI lo hi).map .int) := by
  subst hJ
  subst hn
  refine ⟨fun i H h s => ?_, fun H s => ?_, fun i H x H' h s y => ?_⟩
  · rw [List.length_map, rgI_len] at h
    exact h
  · rw [List.length_map, rgI_len]
    exact Nat.le_refl _
  · rw [List.length_map, rgI_len] at h
    obtain ⟨rfl, rfl⟩ := y
    exact ⟨_, rgI_at h, .inl ⟨rfl, .int _⟩⟩
theorem it_rng1 {n : Int} (h : EvA K ta r [.int n]) (h1 : -100000000000000000 ≤ n ∧ n ≤ 100000000000000000) : ItD K (iRng1 ta) r ((rgI 0 n).map .int) := fun G σ H l R q => h G σ H l _ fun xs G1 H1 g1 d1 => by
  cases d1 with
  | cons a b =>
    cases b
    cases a
    exact ⟨n, rfl, by omega, by omega, q _ G1 H1 g1 (wk_range rfl (by simp))⟩
theorem it_rng2 {m n : Int} (h : EvA K ta r [.int m, .int n]) (h1 : -100000000000000000 ≤ n ∧ n ≤ 100000000000000000) (h2 : -100000000000000000 ≤ m ∧ m ≤ 100000000000000000) : ItD K (iRng2 ta) r ((rgI m n).map .int) := fun G σ H l R q => h G σ H l _ fun xs G1 H1 g1 d1 => by
  cases d1 with
  | cons a b =>
    cases b with
    | cons c d =>
      cases d
      cases a
      cases c
      exact ⟨m, n, rfl, ⟨by omega, by omega, by omega, by omega⟩, q _ G1 H1 g1 (wk_range rfl rfl)⟩
theorem it_str {w : Str} (h : Ev K te r (.str w)) : ItD K (iStr te) r (w.cps.toList.map fun c => .str ⟨#[c]⟩) := fun G σ H l R q => h G σ H l _ fun x G1 H1 g1 d1 => by
  cases d1
  refine ⟨w, rfl, q _ G1 H1 g1 ⟨fun i H h s => ?_, fun H s => ?_, fun i H x H' h s y => ?_⟩⟩
  · rw [List.length_map, Array.length_toList] at h
    exact h
  · rw [List.length_map, Array.length_toList]
    exact Nat.le_refl _
  · obtain ⟨rfl, c, hc, rfl⟩ := y
    refine ⟨.str ⟨#[c]⟩, ?_, .inl ⟨rfl, .str _⟩⟩
    rw [List.getElem?_map, Array.getElem?_toList, hc]
    rfl
theorem it_enum (h : EvA K ta r [.list ds]) : ItD K (iEnum K ta) r (enD 0 ds) := fun G σ H l R q => h G σ H l _ fun xs G1 H1 g1 d1 => by
  cases d1 with
  | cons a b =>
    cases b
    cases a with
    | lst hs ha =>
      rename_i a xs
      refine ⟨a, xs, rfl, g1.gh.seq hs, q _ G1 H1 g1 ⟨fun i H2 hi s2 => ?_, fun H2 s2 => ⟨xs, s2.seq hs, by rw [enD_len, ha.len]; exact Nat.le_refl _⟩, fun i H2 x H3 hi s2 y => ?_⟩⟩
      · have hl : i < xs.length := by rw [enD_len] at hi; rw [ha.len]; exact hi
        exact ⟨xs, _, s2.seq hs, List.getElem?_eq_getElem hl⟩
      · obtain ⟨T, z, rfl, hT, rfl, hx⟩ := y
        obtain ⟨d, e, hd⟩ := ha.at (hx xs (s2.seq hs))
        refine ⟨_, enD_at e, .inr ⟨T, _, _, rfl, hT, rfl, rfl, ?_⟩⟩
        have z : (0 : Int) + (i : Int) = (i : Nat) := by omega
        rw [z]
        exact .cons (.int _) (.cons hd .nil)
inductive SrcD : PyData → List PyData → Prop
  | list (ds : List PyData) : SrcD (.list ds) ds
  | tup (ds : List PyData) : SrcD (.tuple ds) ds
  | text (w : Str) : SrcD (.str w) (w.cps.toList.map fun c => .str ⟨#[c]⟩)
theorem signs_dp {G : Hp} {w : Str} : DpAll K G (signs w) (w.cps.toList.map fun c => .str ⟨#[c]⟩) := by
  unfold signs
  generalize w.cps.toList = l
  induction l with
  | nil => exact .nil
  | cons c l ih => exact .cons (.str _) ih
theorem SrcD.src {d : PyData} {G : Hp} {v : V} (s : SrcD d ds) (h : Dp K G v d) : ∃ C xs, SrcV K v C xs ∧ DpAll K G xs ds ∧ ∀ H, Same G H → C H := by
  cases s with
  | list =>
    cases h with
    | lst hs ha => exact ⟨_, _, .list _ _, ha, fun H s => s.seq hs⟩
  | tup =>
    cases h with
    | tup hs ha => exact ⟨_, _, .tup _ _, ha, fun H s => same_seqT s hs⟩
  | text w =>
    cases h
    exact ⟨_, _, .text w, signs_dp, fun _ _ => trivial⟩
theorem it_enumG {d : PyData} {k : Int} (s : SrcD d ds) (h : EvA K ta r [d, .int k]) (h1 : -1000000 ≤ k ∧ k ≤ 1000000) : ItD K (iEnumG K ta) r (enD k ds) := fun G σ H l R q => h G σ H l _ fun vs G1 H1 g1 d1 => by
  cases d1 with
  | cons a b =>
    cases b with
    | cons c b =>
      cases b
      cases c
      obtain ⟨C, xs, sv, ha, hC⟩ := s.src a
      refine ⟨_, C, xs, k, rfl, by omega, by omega, sv, hC _ g1.gh, q _ G1 H1 g1 ⟨fun i H2 hi s2 => ⟨hC _ s2, ?_⟩, fun H2 s2 => ⟨hC _ s2, by rw [enD_len, ha.len]⟩, fun i H2 x H3 hi s2 y => ?_⟩⟩
      · rw [enD_len] at hi
        rw [ha.len]
        exact hi
      · obtain ⟨T, z, rfl, hT, rfl, hx⟩ := y
        obtain ⟨d, e, hd⟩ := ha.at hx
        exact ⟨_, enD_at e, .inr ⟨T, _, _, rfl, hT, rfl, rfl, .cons (.int _) (.cons hd .nil)⟩⟩
theorem it_zipG {d e : PyData} (s : SrcD d ds) (s2 : SrcD e es) (h : EvA K ta r [d, e]) : ItD K (iZipG K ta) r (zpD ds es) := fun G σ H l R q => h G σ H l _ fun vs G1 H1 g1 d1 => by
  cases d1 with
  | cons a b =>
    cases b with
    | cons c b =>
      cases b
      obtain ⟨C, xs, sv, ha, hC⟩ := s.src a
      obtain ⟨C2, ys, sv2, hb, hC2⟩ := s2.src c
      refine ⟨_, _, C, C2, xs, ys, rfl, sv, sv2, hC _ g1.gh, hC2 _ g1.gh, q _ G1 H1 g1 ⟨fun i H2 hi s2 => ⟨hC _ s2, hC2 _ s2, ?_, ?_⟩, fun H2 s2 => ⟨hC _ s2, hC2 _ s2, by rw [zpD_len, ha.len, hb.len]⟩, fun i H2 x H3 hi s2 y => ?_⟩⟩
      · rw [zpD_len] at hi
        rw [ha.len]
        omega
      · rw [zpD_len] at hi
        rw [hb.len]
        omega
      · obtain ⟨T, z, u, rfl, hT, rfl, hx, hy⟩ := y
        obtain ⟨d, e, hd⟩ := ha.at hx
        obtain ⟨d2, e2, hd2⟩ := hb.at hy
        exact ⟨_, zpD_at e e2, .inr ⟨T, _, _, rfl, hT, rfl, rfl, .cons hd (.cons hd2 .nil)⟩⟩
end
theorem wipe_at (σ : L2.St) (k : Nat) : ∀ vs : List Nat, (wipe σ vs)[k]? = if k ∈ vs then σ[k]?.map (fun _ => none) else σ[k]?
  | [] => by simp [wipe]
  | v :: vs => by
    show ((wipe σ vs).set v none)[k]? = _
    by_cases e : v = k
    · subst e
      rw [if_pos List.mem_cons_self]
      cases q : σ[v]? with
      | none =>
        have hl : σ.length ≤ v := List.getElem?_eq_none_iff.mp q
        rw [List.getElem?_eq_none (by rw [List.length_set, wipe_length]; exact hl)]
        rfl
      | some o =>
        have hl : v < (wipe σ vs).length := by rw [wipe_length]; exact (List.getElem?_eq_some_iff.mp q).1
        rw [List.getElem?_set_self hl]
        rfl
    · rw [List.getElem?_set_ne e, wipe_at σ k vs]
      have : (k ∈ v :: vs) = (k ∈ vs) := by
        rw [List.mem_cons]
        exact propext ⟨fun h => h.elim (fun z => absurd z.symm e) id, .inr⟩
      simp only [this]
theorem wipe_eq {σ σ' : L2.St} {vs : List Nat} (hl : σ.length = σ'.length) (h : ∀ k, k ∉ vs → σ[k]? = σ'[k]?) : wipe σ vs = wipe σ' vs := by
  apply List.ext_getElem?
  intro k
  rw [wipe_at, wipe_at]
  by_cases e : k ∈ vs
  · rw [if_pos e, if_pos e]
    cases q : σ[k]? with
    | none =>
      have := List.getElem?_eq_none_iff.mp q
      rw [hl] at this
      rw [List.getElem?_eq_none this]
    | some o =>
      have := (List.getElem?_eq_some_iff.mp q).1
      rw [hl] at this
      rw [List.getElem?_eq_getElem this]
      rfl
  · rw [if_neg e, if_neg e]
    exact h k e
inductive Lk (K : PySem.W.Frag) (g : TG) (tt : TT) (te : TE) (vs : List Nat) (r0 : List QV) : List PyData → List PyData → Prop
  | nil : Lk K g tt te vs r0 [] []
  | yes {d z : PyData} {ds zs : List PyData} {r1 : List QV} {js : List Nat} : GD K g r0 d r1 js → (∀ j ∈ js, j ∈ vs) → EvT K tt r1 true → Ev K te r1 z → Lk K g tt te vs r0 ds zs → Lk K g tt te vs r0 (d :: ds) (z :: zs)
  | no {d : PyData} {ds zs : List PyData} {r1 : List QV} {js : List Nat} : GD K g r0 d r1 js → (∀ j ∈ js, j ∈ vs) → EvT K tt r1 false → Lk K g tt te vs r0 ds zs → Lk K g tt te vs r0 (d :: ds) zs
theorem Lk.len {K : PySem.W.Frag} {g : TG} {tt : TT} {te : TE} {vs : List Nat} {r0 : List QV} : ∀ {ds zs : List PyData}, Lk K g tt te vs r0 ds zs → zs.length ≤ ds.length
  | _, _, .nil => Nat.le_refl _
  | _, _, .yes _ _ _ _ h => Nat.succ_le_succ h.len
  | _, _, .no _ _ _ h => Nat.le_succ_of_le h.len
theorem lk_map {K : PySem.W.Frag} {g : TG} {te : TE} {vs : List Nat} {r0 : List QV} {α : Type} {e f : α → PyData} : ∀ {xs : List α}, (∀ x ∈ xs, ∃ r1 js, GD K g r0 (e x) r1 js ∧ (∀ j ∈ js, j ∈ vs) ∧ Ev K te r1 (f x)) → Lk K g tYes te vs r0 (xs.map e) (xs.map f)
  | [], _ => .nil
  | x :: xs, h => by
    obtain ⟨r1, js, h1, h2, h3⟩ := h x List.mem_cons_self
    exact .yes h1 h2 et_yes h3 (lk_map fun y hy => h y (List.mem_cons_of_mem _ hy))
theorem drop_cons {α : Type} {l : List α} {i : Nat} {x : α} (h : l[i]? = some x) : l.drop i = x :: l.drop (i + 1) := by
  obtain ⟨h1, h2⟩ := List.getElem?_eq_some_iff.mp h
  rw [← h2]
  exact List.drop_eq_getElem_cons h1
theorem evn_lc {K : PySem.W.Frag} {wi : TI} {g : TG} {tt : TT} {te : TE} {vs : List Nat} {r : List QV} {items zs : List PyData} (hi : ItD K wi r items) (hk : Lk K g tt te vs (fgt r vs) items zs) (hl : items.length ≤ 100000) : EvN K (tLc wi g tt te vs) r zs := by
  intro G σ H l Q q
  refine hi G σ H l _ fun J G1 H1 g1 wk D hD => ?_
  have l1 : QL K G1 r σ H1 := l.gr g1
  refine ⟨fun i m H' => m = items.length - i ∧ i ≤ items.length ∧ ∃ (G' : Hp) (ws : List V) (ys zr : List PyData), Gr G1 H1 G' H' ∧ G' D = none ∧ H' D = some (.lst ws) ∧ DpAll K G' ws ys ∧ ys ++ zr = zs ∧ Lk K g tt te vs (fgt r vs) (items.drop i) zr,
    ⟨_, rfl, Nat.zero_le _, G1, [], [], zs, Gr.newH g1.gh hD, g1.gh.free hD, upd_same, .nil, rfl, hk⟩, ?_⟩
  rintro i m H' ⟨rfl, hle, G', ws, ys, zr, gr, hG, hH, hd, hz, lk⟩
  by_cases hlt : i < items.length
  · refine .inr ⟨wk.go i H' hlt (gr.gg.trans gr.gh), fun H2 => ∃ (G' : Hp) (ws : List V) (ys zr : List PyData), Gr G1 H1 G' H2 ∧ G' D = none ∧ H2 D = some (.lst ws) ∧ DpAll K G' ws ys ∧ ys ++ zr = zs ∧ Lk K g tt te vs (fgt r vs) (items.drop (i + 1)) zr,
      fun H2 ⟨G2, ws2, ys2, zr2, a, b, c, d, e, f⟩ => ⟨items.length - (i + 1), by omega, rfl, hlt, G2, ws2, ys2, zr2, a, b, c, d, e, f⟩, fun x H2 y => ?_⟩
    obtain ⟨d, hdi, yd⟩ := wk.yld i H' x H2 hlt (gr.gg.trans gr.gh) y
    obtain ⟨G2, gr2, hx⟩ := yd.gr gr.gg gr.gh
    have l2 : QL K G2 (fgt r vs) (wipe σ vs) H2 := ((l1.gr gr).gr gr2).wipe vs
    have hD2 : H2 D = some (.lst ws) := gr2.hh _ _ hH
    have hG2 : G2 D = none := (gr2.ag D _ hH).trans hG
    have lenys : ys.length ≤ 100000 := by
      have h1 := hk.len
      have h2 : zs.length = ys.length + zr.length := by rw [← hz, List.length_append]
      omega
    rw [drop_cons hdi] at lk
    generalize hdr : items.drop (i + 1) = rest at lk
    have fin : ∀ {r1 : List QV} {js : List Nat}, GD K g (fgt r vs) d r1 js → (∀ j ∈ js, j ∈ vs) → ∀ (Q2 : L2.St → Hp → Prop), (∀ σ', QL K G2 r1 σ' H2 → wipe σ' vs = wipe σ vs → Q2 σ' H2) → g x (wipe σ vs) H2 Q2 := fun gd hj Q2 q2 =>
      gd.run G2 (wipe σ vs) H2 x l2 hx Q2 fun σ' l' e => q2 σ' l' (wipe_eq (by rw [e.1, wipe_length]) fun k hk2 => by
        rw [e.2 k (fun z => hk2 (hj k z)), wipe_at, if_neg hk2])
    cases lk with
    | @yes _ z _ zr' r1 js gd hj et ev lk' =>
      refine fin gd hj _ fun σ' l' ew => ⟨ew, et G2 σ' H2 l' _ fun G3 H3 g3 => ?_⟩
      rw [if_pos rfl]
      refine ev G3 σ' H3 (l'.gr g3) _ fun v G4 H4 g4 dv => ?_
      have hD4 : H4 D = some (.lst ws) := g4.hh _ _ (g3.hh _ _ hD2)
      have hG4 : G4 D = none := (g4.ag D _ (g3.hh _ _ hD2)).trans ((g3.ag D _ hD2).trans hG2)
      have gg4 : Same G' G4 := (gr2.gg.trans g3.gg).trans g4.gg
      have lw : ws.length ≤ 100000 := by rw [hd.len]; exact lenys
      refine ⟨ws, hD4, Nat.lt_of_le_of_lt lw (by decide), G4, ws ++ [v], ys ++ [z], zr', (((gr.trans gr2).trans g3).trans g4).mut hD hG4, hG4, upd_same, DpAll.app (dpa_mono gg4 _ _ hd) (.cons dv .nil), by rw [List.append_assoc]; exact hz, lk'⟩
    | no gd hj et lk' =>
      refine fin gd hj _ fun σ' l' ew => ⟨ew, et G2 σ' H2 l' _ fun G3 H3 g3 => ?_⟩
      rw [if_neg Bool.false_ne_true]
      exact ⟨G3, ws, ys, zr, (gr.trans gr2).trans g3, (g3.ag D _ hD2).trans hG2, g3.hh _ _ hD2, dpa_mono (gr2.gg.trans g3.gg) _ _ hd, hz, lk'⟩
  · have ei : i = items.length := by omega
    subst ei
    refine .inl ⟨wk.stop H' (gr.gg.trans gr.gh), ?_⟩
    rw [List.drop_length] at lk
    cases lk
    rw [List.append_nil] at hz
    subst hz
    exact q D ws G' H' (g1.trans gr) (g1.hh.free hD) hG hH hd
end Q46
namespace Q46
open PySem L2
inductive QO where
  | nx (r : List QV) | ct (r : List QV) | go (r : List QV) | rt (d : PyData)
structure Bs (G0 H0 G H : Hp) (r : List QV) (σ : L2.St) : Prop where
  gr : Gr G0 H0 G H
  ow : ∀ (i : Nat) (ds : List PyData) (p : Addr), r[i]? = some (.own ds) → σ[i]? = some (some (.ref p)) → H0 p = none
def Fin (K : PySem.W.Frag) (G0 H0 G : Hp) (D : Ends) : QO → Prop
  | .nx r => ∀ G' σ H, Same G G' → QL K G' r σ H → Bs G0 H0 G' H r σ → D.nx σ H
  | .ct r => ∀ G' σ H, Same G G' → QL K G' r σ H → Bs G0 H0 G' H r σ → D.ct σ H
  | .go r => (∀ G' σ H, Same G G' → QL K G' r σ H → Bs G0 H0 G' H r σ → D.nx σ H) ∧ (∀ G' σ H, Same G G' → QL K G' r σ H → Bs G0 H0 G' H r σ → D.ct σ H)
  | .rt d => ∀ v G' H, Gr G0 H0 G' H → Dp K G' v d → D.rt v H
theorem Fin.mono {K : PySem.W.Frag} {G0 H0 G G1 : Hp} {D : Ends} (s : Same G G1) : ∀ {o : QO}, Fin K G0 H0 G D o → Fin K G0 H0 G1 D o
  | .nx _, f => fun G' σ H s' l b => f G' σ H (s.trans s') l b
  | .ct _, f => fun G' σ H s' l b => f G' σ H (s.trans s') l b
  | .go _, f => ⟨fun G' σ H s' l b => f.1 G' σ H (s.trans s') l b, fun G' σ H s' l b => f.2 G' σ H (s.trans s') l b⟩
  | .rt _, f => f
def SD (K : PySem.W.Frag) (ts : TS) (r : List QV) (o : QO) : Prop := ∀ G0 H0 G σ H D, QL K G r σ H → Bs G0 H0 G H r σ → Fin K G0 H0 G D o → ts D σ H
section
variable {K : PySem.W.Frag} {r r1 r2 : List QV} {ts t u : TS} {te ta tb : TE} {tc : TT} {g : TG} {d e z : PyData} {ds es : List PyData} {o : QO} {i j k : Nat} {js : List Nat}
theorem Bs.ev {G0 H0 G H G' H' : Hp} {σ : L2.St} (b : Bs G0 H0 G H r σ) (g : Gr G H G' H') : Bs G0 H0 G' H' r σ := ⟨b.gr.trans g, b.ow⟩
theorem Bs.gd {G0 H0 G H : Hp} {σ σ' : L2.St} (b : Bs G0 H0 G H r σ) (gd : GD K g r d r1 js) (e : Only js σ σ') : Bs G0 H0 G H r1 σ' :=
  ⟨b.gr, fun i ds p h1 h2 => by
    obtain ⟨a, n⟩ := gd.own i ds h1
    rw [e.2 i n] at h2
    exact b.ow i ds p a h2⟩
theorem fgt_len : ∀ is : List Nat, (fgt r is).length = r.length
  | [] => rfl
  | j :: js => by show ((fgt r js).set j .un).length = _; rw [List.length_set, fgt_len js]
theorem fgt_own : ∀ {is : List Nat} {i : Nat} {ds : List PyData}, (fgt r is)[i]? = some (.own ds) → r[i]? = some (.own ds)
  | [], _, _, h => h
  | _ :: js, _, _, h => by
    rcases getElem?_set_lv h with ⟨_, e⟩ | ⟨_, e⟩
    · cases e
    · exact fgt_own e
theorem Bs.fgt {G0 H0 G H : Hp} {σ : L2.St} (b : Bs G0 H0 G H r σ) (is : List Nat) : Bs G0 H0 G H (fgt r is) σ := ⟨b.gr, fun i ds p h1 h2 => b.ow i ds p (fgt_own h1) h2⟩
theorem sd_fgt (is : List Nat) (h : SD K ts (fgt r is) o) : SD K ts r o := fun G0 H0 G σ H D l b f => h G0 H0 G σ H D (l.fgt is) (b.fgt is) f
theorem sd_seq (h1 : SD K t r (.nx r1)) (h2 : SD K u r1 o) : SD K (tSeq t u) r o := fun G0 H0 G σ H D l b f =>
  h1 G0 H0 G σ H _ l b fun G1 σ1 H1 s1 l1 b1 => h2 G0 H0 G1 σ1 H1 D l1 b1 (f.mono s1)
theorem sd_seqR (h1 : SD K t r (.rt d)) : SD K (tSeq t u) r (.rt d) := fun G0 H0 G σ H D l b f => h1 G0 H0 G σ H _ l b f
theorem sd_seqC (h1 : SD K t r (.ct r1)) : SD K (tSeq t u) r (.ct r1) := fun G0 H0 G σ H D l b f => h1 G0 H0 G σ H _ l b f
theorem sd_goN (h : SD K ts r (.nx r1)) : SD K ts r (.go r1) := fun G0 H0 G σ H D l b f => h G0 H0 G σ H D l b f.1
theorem sd_goC (h : SD K ts r (.ct r1)) : SD K ts r (.go r1) := fun G0 H0 G σ H D l b f => h G0 H0 G σ H D l b f.2
theorem sd_next : SD K tNext r (.nx r) := fun G0 H0 G σ H D l b f => f G σ H (Same.refl G) l b
theorem sd_cont : SD K tCont r (.ct r) := fun G0 H0 G σ H D l b f => f G σ H (Same.refl G) l b
theorem sd_drop (h : Ev K te r d) : SD K (tDrop te) r (.nx r) := fun G0 H0 G σ H D l b f => h G σ H l _ fun v G1 H1 g1 d1 => f G1 σ H1 g1.gg (l.gr g1) (b.ev g1)
theorem sd_ret (h : Ev K te r d) : SD K (tRet te) r (.rt d) := fun G0 H0 G σ H D l b f => h G σ H l _ fun v G1 H1 g1 d1 => f v G1 H1 (b.gr.trans g1) d1
theorem sd_asg (h : Ev K te r d) (hg : GD K g r d r1 js) : SD K (tAsg te g) r (.nx r1) := fun G0 H0 G σ H D l b f =>
  h G σ H l _ fun v G1 H1 g1 d1 => hg.run G1 σ H1 v (l.gr g1) d1 _ fun σ' l' e => f G1 σ' H1 g1.gg l' ((b.ev g1).gd hg e)
theorem put_own {G0 H0 G H G' H' : Hp} {σ : L2.St} {p : Addr} {vs : List V} (l : QL K G r σ H) (b : Bs G0 H0 G H r σ) (g1 : Gr G H G' H') (hp : H p = none) (hg : G' p = none) (h1 : H' p = some (.lst vs)) (d1 : DpAll K G' vs ds) :
    QL K G' (r.set i (.own ds)) (σ.set i (some (.ref p))) H' ∧ Bs G0 H0 G' H' (r.set i (.own ds)) (σ.set i (some (.ref p))) :=
  ⟨(l.gr g1).nw hg h1 d1 fun j es q hj sj => by
    obtain ⟨q2, ws, e1, _, e3, _⟩ := l.own j es hj
    have : q = q2 := (V.ref.inj (Option.some.inj (Option.some.inj (sj.symm.trans e1))))
    rw [this]
    exact ne_of_none e3 hp, ⟨b.gr.trans g1, fun j es q hj sj => by
    rcases getElem?_set_lv hj with ⟨rfl, _⟩ | ⟨ne, e5⟩
    · have hl : j < σ.length := by rw [l.len]; exact lt_of_set hj
      rw [List.getElem?_set_self hl] at sj
      cases sj
      exact b.gr.hh.free hp
    · rw [List.getElem?_set_ne (fun z => ne z.symm)] at sj
      exact b.ow j es q e5 sj⟩⟩
theorem sd_own (h : EvN K te r ds) : SD K (tAsg te (gName i)) r (.nx (r.set i (.own ds))) := fun G0 H0 G σ H D l b f =>
  h G σ H l _ fun p vs G1 H1 g1 hp hg h1 d1 => by
    obtain ⟨l3, b3⟩ := put_own (i := i) l b g1 hp hg h1 d1
    exact f G1 _ H1 g1.gg l3 b3
theorem sd_frz (hi : r[i]? = some (.own ds)) (h : SD K ts (r.set i (.dat (.list ds))) o) : SD K ts r o := fun G0 H0 G σ H D l b f => by
  obtain ⟨p, vs, e1, _⟩ := l.own i ds hi
  obtain ⟨ws, h1, hg, l2⟩ := l.frz hi e1
  refine h G0 H0 _ σ H D l2 ⟨b.gr.freeze (b.ow i ds p hi e1) hg h1, fun j es q hj sj => ?_⟩ (f.mono (same_new hg))
  rcases getElem?_set_lv hj with ⟨rfl, e5⟩ | ⟨ne, e5⟩
  · cases e5
  · exact b.ow j es q e5 sj
theorem sd_if {k : Bool} (h : EvT K tc r k) (h2 : SD K (if k = true then t else u) r o) : SD K (tIfS tc t u) r o := fun G0 H0 G σ H D l b f => h G σ H l _ fun G1 H1 g1 => by
  cases k with
  | true => exact h2 G0 H0 G1 σ H1 D (l.gr g1) (b.ev g1) (f.mono g1.gg)
  | false => exact h2 G0 H0 G1 σ H1 D (l.gr g1) (b.ev g1) (f.mono g1.gg)
theorem sd_ifT (h : EvT K tc r true) (h2 : SD K t r o) : SD K (tIfS tc t u) r o := sd_if h (by rw [if_pos rfl]; exact h2)
theorem sd_ifF (h : EvT K tc r false) (h2 : SD K u r o) : SD K (tIfS tc t u) r o := sd_if h (by rw [if_neg Bool.false_ne_true]; exact h2)
theorem sd_ifD {p : Prop} [Decidable p] (h : EvT K tc r (decide p)) (h1 : p → SD K t r o) (h2 : ¬ p → SD K u r o) : SD K (tIfS tc t u) r o := by
  by_cases hp : p
  · rw [decide_eq_true hp] at h
    exact sd_ifT h (h1 hp)
  · rw [decide_eq_false hp] at h
    exact sd_ifF h (h2 hp)
theorem sd_if2 {k : Bool} (h : EvT K tc r k) (h1 : k = true → SD K t r o) (h2 : k = false → SD K u r o) : SD K (tIfS tc t u) r o := by
  cases k with
  | true => exact sd_ifT h (h1 rfl)
  | false => exact sd_ifF h (h2 rfl)
theorem sd_app (hi : r[i]? = some (.own ds)) (h : Ev K te r d) (hl : ds.length < 100000) : SD K (tDrop (tBM K "list" rAppend (tVar i) (tCons te tNil))) r (.nx (r.set i (.own (ds ++ [d])))) := fun G0 H0 G σ H D l b f => by
  obtain ⟨p, vs, e1, e2, e3, e4, _⟩ := l.own i ds hi
  refine ⟨_, e1, .inl ⟨rfl, vs, .inl (.inl e3)⟩, h G σ H l _ fun v G1 H1 g1 d1 => ?_⟩
  have lv : vs.length < 100000 := by rw [e4.len]; exact hl
  have l1 := l.gr g1
  refine ⟨p, vs, v, rfl, rfl, g1.hh _ _ e3, Nat.lt_trans lv (by decide), ?_⟩
  refine f G1 σ _ g1.gg (l1.chg hi e1 (DpAll.app (dpa_mono g1.gg _ _ e4) (.cons d1 .nil))) ⟨(b.gr.trans g1).mut (b.ow i ds p hi e1) ((g1.ag p _ e3).trans e2), fun j es q hj sj => ?_⟩
  rcases getElem?_set_lv hj with ⟨rfl, e5⟩ | ⟨ne, e5⟩
  · exact b.ow _ ds q hi sj
  · exact b.ow j es q e5 sj
theorem sd_setI {n : Int} {m : Nat} (hi : r[i]? = some (.own ds)) (h : Ev K te r d) (hk : Ev K ta r (.int n)) (hm : ixN ds.length n = some m) : SD K (tAsg te (gSub (tVar i) ta rSetL)) r (.nx (r.set i (.own (ds.set m d)))) := fun G0 H0 G σ H D l b f => by
  refine h G σ H l _ fun v G1 H1 g1 d1 => ?_
  have l1 := l.gr g1
  obtain ⟨p, vs, e1, e2, e3, e4, _⟩ := l1.own i ds hi
  refine ⟨_, e1, hk G1 σ H1 l1 _ fun y G2 H2 g2 d2 => ?_⟩
  cases d2
  refine ⟨p, vs, n, m, rfl, rfl, g2.hh _ _ e3, by rw [e4.len]; exact hm, ?_⟩
  refine f G2 σ _ (g1.gg.trans g2.gg) ((l1.gr g2).chg hi e1 (DpAll.set (dp_mono g2.gg _ _ d1) m (dpa_mono g2.gg _ _ e4))) ⟨((b.gr.trans g1).trans g2).mut (b.ow i ds p hi e1) ((g2.ag p _ e3).trans e2), fun j es q hj sj => ?_⟩
  rcases getElem?_set_lv hj with ⟨rfl, e5⟩ | ⟨ne, e5⟩
  · exact b.ow _ ds q hi sj
  · exact b.ow j es q e5 sj
theorem sd_aug {ti : TIp} (hi : r[i]? = some (.dat e)) (h : Ev K te r d) (hr : RD K ti e d z) : SD K (tAug i te ti) r (.nx (r.set i (.dat z))) := fun G0 H0 G σ H D l b f => by
  obtain ⟨x, e1, dx⟩ := l.dat i e hi
  refine ⟨x, e1, h G σ H l _ fun y G1 H1 g1 d1 => hr G1 H1 x y g1.gh (dp_mono g1.gg _ _ dx) d1 _ fun v G2 H2 g2 d2 => ?_⟩
  exact f G2 _ H2 (g1.gg.trans g2.gg) (((l.gr g1).gr g2).set d2) (((b.ev g1).ev g2).gd (gd_name (K := K) (i := i) (d := z)) ⟨List.length_set .., fun k hk => by
    have : i ≠ k := fun e => hk (by simp [e])
    rw [List.getElem?_set_ne this]⟩)
theorem rd_ip {f : Int → Int → Int} {m n : Int} : RD K (ipI f) (.int m) (.int n) (.int (f m n)) := fun G H x y gh hx hy Q q => by
  cases hx
  cases hy
  exact ⟨m, n, rfl, rfl, q _ G H (Gr.refl gh) (.int _)⟩
theorem only_set {i : Nat} {σ : L2.St} {x : Option V} : Only [i] σ (σ.set i x) := ⟨List.length_set .., fun k hk => by
    have : i ≠ k := fun e => hk (by simp [e])
    rw [List.getElem?_set_ne this]⟩
theorem sd_par {ta : TA} (h : EvA K ta r [d, e]) : SD K (tPar i j ta) r (.nx ((r.set i (.dat d)).set j (.dat e))) := fun G0 H0 G σ H D l b f => h G σ H l _ fun vs G1 H1 g1 d1 => by
  cases d1 with
  | cons a c =>
    cases c with
    | cons a2 c =>
      cases c
      exact ⟨_, _, rfl, f G1 _ H1 g1.gg (((l.gr g1).set a).set a2) (((b.ev g1).gd (gd_name (K := K) (d := d)) only_set).gd (gd_name (K := K) (d := e)) only_set)⟩
theorem sd_par3 {ta : TA} {f3 : PyData} (h : EvA K ta r [d, e, f3]) : SD K (tPar3 i j k ta) r (.nx (((r.set i (.dat d)).set j (.dat e)).set k (.dat f3))) := fun G0 H0 G σ H D l b f => h G σ H l _ fun vs G1 H1 g1 d1 => by
  cases d1 with
  | cons a c =>
    cases c with
    | cons a2 c =>
      cases c with
      | cons a3 c =>
        cases c
        exact ⟨_, _, _, rfl, f G1 _ H1 g1.gg ((((l.gr g1).set a).set a2).set a3) ((((b.ev g1).gd (gd_name (K := K) (d := d)) only_set).gd (gd_name (K := K) (d := e)) only_set).gd (gd_name (K := K) (d := f3)) only_set)⟩
theorem sd_parOD (h : EvN K ta r ds) (h2 : Ev K tb r e) : SD K (tPar i j (tCons ta (tCons tb tNil))) r (.nx ((r.set i (.own ds)).set j (.dat e))) := fun G0 H0 G σ H D l b f =>
  h G σ H l _ fun p vs G1 H1 g1 hp hg h1 d1 => h2 G1 σ H1 (l.gr g1) _ fun w G2 H2 g2 d2 => by
    obtain ⟨l3, b3⟩ := put_own (i := i) l b (g1.trans g2) hp ((g2.ag p _ h1).trans hg) (g2.hh _ _ h1) (dpa_mono g2.gg _ _ d1)
    exact ⟨_, _, rfl, f G2 _ H2 (g1.gg.trans g2.gg) (l3.set d2) (b3.gd (gd_name (K := K) (d := e)) only_set)⟩
theorem sd_parOO (h : EvN K ta r ds) (h2 : EvN K tb r es) : SD K (tPar i j (tCons ta (tCons tb tNil))) r (.nx ((r.set i (.own ds)).set j (.own es))) := fun G0 H0 G σ H D l b f =>
  h G σ H l _ fun p vs G1 H1 g1 hp hg h1 d1 => h2 G1 σ H1 (l.gr g1) _ fun p2 ws G2 H2 g2 hp2 hg2 h22 d2 => by
    obtain ⟨l1, b1⟩ := put_own (i := i) l b g1 hp hg h1 d1
    obtain ⟨l3, b3⟩ := put_own (i := j) l1 b1 g2 hp2 hg2 h22 d2
    exact ⟨_, _, rfl, f G2 _ H2 (g1.gg.trans g2.gg) l3 b3⟩
inductive Fr (K : PySem.W.Frag) (g : TG) (tb : TS) (fg : List Nat) : List QV → List PyData → QO → Prop
  | nil {r : List QV} : Fr K g tb fg r [] (.nx r)
  | cons {r r1 r2 : List QV} {d : PyData} {ds : List PyData} {o : QO} {js : List Nat} : GD K g r d r1 js → SD K tb r1 (.go r2) → Fr K g tb fg (fgt r2 fg) ds o → Fr K g tb fg r (d :: ds) o
  | ret {r r1 : List QV} {d z : PyData} {ds : List PyData} {js : List Nat} : GD K g r d r1 js → SD K tb r1 (.rt z) → Fr K g tb fg r (d :: ds) (.rt z)
theorem sd_for {wi : TI} {tb : TS} {fg : List Nat} {items : List PyData} (hi : ItD K wi r items) (hf : Fr K g tb fg r items o) : SD K (tFor wi g tb) r o := by
  intro G0 H0 G σ H D l b f
  refine hi G σ H l _ fun J G1 H1 g1 wk => ?_
  refine ⟨fun i m σ' H' => m = items.length - i ∧ i ≤ items.length ∧ ∃ (G' : Hp) (r' : List QV), Same G1 G' ∧ QL K G' r' σ' H' ∧ Bs G0 H0 G' H' r' σ' ∧ Fr K g tb fg r' (items.drop i) o, ⟨_, rfl, Nat.zero_le _, G1, r, Same.refl _, l.gr g1, b.ev g1, hf⟩, ?_⟩
  rintro i m σ' H' ⟨rfl, hle, G', r', sg, l', b', fr⟩
  by_cases hlt : i < items.length
  · refine .inr ⟨wk.go i H' hlt (sg.trans l'.gh), fun σ2 H2 => ∃ (G' : Hp) (r' : List QV), Same G1 G' ∧ QL K G' r' σ2 H2 ∧ Bs G0 H0 G' H2 r' σ2 ∧ Fr K g tb fg r' (items.drop (i + 1)) o,
      fun σ2 H2 ⟨G2, r2, a1, a2, a3, a4⟩ => ⟨items.length - (i + 1), by omega, rfl, hlt, G2, r2, a1, a2, a3, a4⟩, fun x H2 y => ?_⟩
    obtain ⟨d, hdi, yd⟩ := wk.yld i H' x H2 hlt (sg.trans l'.gh) y
    obtain ⟨G2, gr2, hx⟩ := yd.gr sg l'.gh
    rw [drop_cons hdi] at fr
    generalize items.drop (i + 1) = rest at fr
    cases fr with
    | cons gd sd fr' =>
      refine gd.run G2 σ' H2 x (l'.gr gr2) hx _ fun σ3 l3 e3 => ?_
      refine sd G0 H0 G2 σ3 H2 _ l3 ((b'.ev gr2).gd gd e3) ⟨fun G4 σ4 H4 s4 l4 b4 => ?_, fun G4 σ4 H4 s4 l4 b4 => ?_⟩
      · exact ⟨G4, _, (sg.trans gr2.gg).trans s4, l4.fgt fg, b4.fgt fg, fr'⟩
      · exact ⟨G4, _, (sg.trans gr2.gg).trans s4, l4.fgt fg, b4.fgt fg, fr'⟩
    | ret gd sd =>
      refine gd.run G2 σ' H2 x (l'.gr gr2) hx _ fun σ3 l3 e3 => ?_
      exact sd G0 H0 G2 σ3 H2 _ l3 ((b'.ev gr2).gd gd e3) f
  · have ei : i = items.length := by omega
    subst ei
    refine .inl ⟨wk.stop H' (sg.trans l'.gh), ?_⟩
    rw [List.drop_length] at fr
    cases fr
    exact f G' σ' H' ((Gr.gg ‹Gr G H G1 H1›).trans sg) l' b'
inductive Wh (K : PySem.W.Frag) (tc : TT) (tb : TS) (fg : List Nat) : Nat → List QV → QO → Prop
  | done {r : List QV} : EvT K tc r false → Wh K tc tb fg 0 r (.nx r)
  | step {n : Nat} {r r1 : List QV} {o : QO} : EvT K tc r true → SD K tb r (.go r1) → Wh K tc tb fg n (fgt r1 fg) o → Wh K tc tb fg (n + 1) r o
theorem sd_while {tb : TS} {fg : List Nat} {n : Nat} (hw : Wh K tc tb fg n r o) : SD K (tWhile tc tb) r o := by
  intro G0 H0 G σ H D l b f
  refine ⟨fun m σ' H' => ∃ (G' : Hp) (r' : List QV), Same G G' ∧ QL K G' r' σ' H' ∧ Bs G0 H0 G' H' r' σ' ∧ Wh K tc tb fg m r' o, ⟨n, G, r, Same.refl G, l, b, hw⟩, ?_⟩
  rintro m σ' H' ⟨G', r', sg, l', b', w⟩
  cases w with
  | done et =>
    refine et G' σ' H' l' _ fun G2 H2 g2 => ?_
    rw [if_neg Bool.false_ne_true]
    exact f G2 σ' H2 (sg.trans g2.gg) (l'.gr g2) (b'.ev g2)
  | @step n _ r1 _ et sd w' =>
    refine et G' σ' H' l' _ fun G2 H2 g2 => ?_
    rw [if_pos rfl]
    refine ⟨fun σ4 H4 => ∃ (G' : Hp) (r' : List QV), Same G G' ∧ QL K G' r' σ4 H4 ∧ Bs G0 H0 G' H4 r' σ4 ∧ Wh K tc tb fg n r' o, fun σ4 H4 h => ⟨n, Nat.lt_succ_self n, h⟩, ?_⟩
    refine sd G0 H0 G2 σ' H2 _ (l'.gr g2) (b'.ev g2) ⟨fun G4 σ4 H4 s4 l4 b4 => ?_, fun G4 σ4 H4 s4 l4 b4 => ?_⟩
    · exact ⟨G4, _, (sg.trans g2.gg).trans s4, l4.fgt fg, b4.fgt fg, w'⟩
    · exact ⟨G4, _, (sg.trans g2.gg).trans s4, l4.fgt fg, b4.fgt fg, w'⟩
theorem sd_match {tc : TC} {x : Str} (h : Ev K te r (.str x)) (hc : ∀ v, (∀ G, Dp K G v (.str x)) → SD K (tc v) r o) : SD K (tMatch te tc) r o := fun G0 H0 G σ H D l b f =>
  h G σ H l _ fun v G1 H1 g1 d1 => by
    cases d1
    exact hc _ (fun _ => .str x) G0 H0 G1 σ H1 D (l.gr g1) (b.ev g1) (f.mono g1.gg)
theorem sd_cStr {x z : Str} {tr : TC} (h : SD K (if x = z then t else tr (.str x)) r o) : SD K (cStr z t tr (.str x)) r o := fun G0 H0 G σ H D l b f => by
  refine ⟨x, rfl, ?_⟩
  by_cases e : x = z
  · rw [if_pos e] at h ⊢
    exact h G0 H0 G σ H D l b f
  · rw [if_neg e] at h ⊢
    exact h G0 H0 G σ H D l b f
theorem sd_cAny {v : V} (h : SD K t r o) : SD K (cAny t v) r o := fun G0 H0 G σ H D l b f => h G0 H0 G σ H D l b f
def spD (K : PySem.W.Frag) (n : Nat) (R : List PyData → PyData → Prop) : Sp := fun vs H Q _ => vs.length = n ∧ ∃ G ds d, Same G H ∧ DpAll K G vs ds ∧ R ds d ∧ ∀ v G' H', Gr G H G' H' → Dp K G' v d → Q v H'
theorem spd_of {R : List PyData → PyData → Prop} {n : Nat} (h : R ds d) (hl : ds.length = n) : Spd K (spD K n R) ds d := fun G H xs gh hx Q E q => ⟨hx.len.trans hl, G, ds, d, gh, hx, h, q⟩
def ent (n : Nat) (ds : List PyData) : List QV := ds.map .dat ++ List.replicate (n - ds.length) .un
theorem ql_ent {G H : Hp} {N : List Str} {vs : List V} (gh : Same G H) (hv : DpAll K G vs ds) : QL K G (ent N.length ds) (L2.start N vs) H where
  gh := gh
  dat := fun i d e => by
    unfold ent at e
    unfold L2.start
    by_cases hi : i < ds.length
    · rw [List.getElem?_append_left (by rw [List.length_map]; exact hi), List.getElem?_map] at e
      cases q : ds[i]? with
      | none => rw [q] at e; cases e
      | some d2 =>
        rw [q] at e
        cases e
        obtain ⟨v, e2, h⟩ := hv.at' q
        exact ⟨v, by rw [List.getElem?_append_left (by rw [List.length_map, hv.len]; exact hi), List.getElem?_map, e2]; rfl, h⟩
    · rw [List.getElem?_append_right (by rw [List.length_map]; omega), List.getElem?_replicate] at e
      split at e <;> cases e
  own := fun i es e => by
    unfold ent at e
    by_cases hi : i < ds.length
    · rw [List.getElem?_append_left (by rw [List.length_map]; exact hi), List.getElem?_map] at e
      cases q : ds[i]? with
      | none => rw [q] at e; cases e
      | some d2 => rw [q] at e; cases e
    · rw [List.getElem?_append_right (by rw [List.length_map]; omega), List.getElem?_replicate] at e
      split at e <;> cases e
  len := by
    unfold ent L2.start
    rw [List.length_append, List.length_append, List.length_map, List.length_map, List.length_replicate, List.length_replicate, hv.len]
  ob := fun i o e => by
    unfold ent at e
    by_cases hi : i < ds.length
    · rw [List.getElem?_append_left (by rw [List.length_map]; exact hi), List.getElem?_map] at e
      cases q : ds[i]? with
      | none => rw [q] at e; cases e
      | some d2 => rw [q] at e; cases e
    · rw [List.getElem?_append_right (by rw [List.length_map]; omega), List.getElem?_replicate] at e
      split at e <;> cases e
theorem bs_ent {G H : Hp} {n : Nat} {σ : L2.St} (gh : Same G H) : Bs G H G H (ent n ds) σ := ⟨Gr.refl gh, fun i es p e _ => by
    unfold ent at e
    by_cases hi : i < ds.length
    · rw [List.getElem?_append_left (by rw [List.length_map]; exact hi), List.getElem?_map] at e
      cases q : ds[i]? with
      | none => rw [q] at e; cases e
      | some d2 => rw [q] at e; cases e
    · rw [List.getElem?_append_right (by rw [List.length_map]; omega), List.getElem?_replicate] at e
      split at e <;> cases e⟩
theorem sd_run {N : List Str} {vs : List V} {G H : Hp} {Q : VK} (gh : Same G H) (hv : DpAll K G vs ds) (q : ∀ v G' H', Gr G H G' H' → Dp K G' v d → Q v H') (h : SD K ts (ent N.length ds) (.rt d)) :
    ts { nx := fun _ H' => Q .non H', rt := Q } (L2.start N vs) H :=
  h G H G _ H _ (ql_ent gh hv) (bs_ent gh) fun v G' H' g d1 => q v G' H' g d1
theorem sd_runN {N : List Str} {vs : List V} {G H : Hp} {Q : VK} (gh : Same G H) (hv : DpAll K G vs ds) (q : ∀ v G' H', Gr G H G' H' → Dp K G' v .none → Q v H') (h : SD K ts (ent N.length ds) (.nx r1)) :
    ts { nx := fun _ H' => Q .non H', rt := Q } (L2.start N vs) H :=
  h G H G _ H _ (ql_ent gh hv) (bs_ent gh) fun G' σ H' _ l b => q .non G' H' b.gr .non
end
end Q46
namespace Q46
open PySem L2
section
variable {K : PySem.W.Frag} {g : TG} {tb : TS} {tc : TT} {fg : List Nat} {α S : Type}
theorem tn {r r1 r2 z : List QV} {d : PyData} {js : List Nat} (h1 : GD K g r d r1 js) (h2 : SD K tb r1 (.go r2)) (h3 : fgt r2 fg = z) : ∃ r1 js r2, GD K g r d r1 js ∧ SD K tb r1 (.go r2) ∧ fgt r2 fg = z := ⟨_, _, _, h1, h2, h3⟩
theorem tw {r r1 z : List QV} (h2 : SD K tb r (.go r1)) (h3 : fgt r1 fg = z) : ∃ r1, SD K tb r (.go r1) ∧ fgt r1 fg = z := ⟨_, h2, h3⟩
theorem pow_le {a b : Nat} (h : a ≤ b) : (2 : Int) ^ a ≤ 2 ^ b := by
  have := Nat.pow_le_pow_right (n := 2) (by decide) h
  have e1 : (2 : Int) ^ a = ((2 ^ a : Nat) : Int) := by norm_cast
  have e2 : (2 : Int) ^ b = ((2 ^ b : Nat) : Int) := by norm_cast
  omega
theorem pow_pos (a : Nat) : (0 : Int) < 2 ^ a := by
  have := Nat.two_pow_pos a
  have e1 : (2 : Int) ^ a = ((2 ^ a : Nat) : Int) := by norm_cast
  omega
theorem nab_lt {i : Int} {a : Nat} (h0 : 0 ≤ i) (h : i < 2 ^ a) : i.natAbs < 2 ^ a := by
  have e1 : (2 : Int) ^ a = ((2 ^ a : Nat) : Int) := by norm_cast
  omega
theorem fr_fold (st : S → List QV) (enc : α → PyData) (step : S → α → S) (P : Nat → S → Prop) : ∀ (xs : List α) (i : Nat) (s : S), P i s →
    (∀ j x s, i ≤ j → j < i + xs.length → x ∈ xs → P j s → P (j + 1) (step s x) ∧ ∃ r1 js r2, GD K g (st s) (enc x) r1 js ∧ SD K tb r1 (.go r2) ∧ fgt r2 fg = st (step s x)) →
    Fr K g tb fg (st s) (xs.map enc) (.nx (st (xs.foldl step s))) ∧ P (i + xs.length) (xs.foldl step s)
  | [], _, _, hp, _ => ⟨.nil, hp⟩
  | x :: xs, i, s, hp, h => by
    obtain ⟨hp2, r1, js, r2, h1, h2, h3⟩ := h i x s (Nat.le_refl _) (by rw [List.length_cons]; omega) List.mem_cons_self hp
    obtain ⟨a, b⟩ := fr_fold st enc step P xs (i + 1) _ hp2 fun j y s hj hl hy => h j y s (by omega) (by rw [List.length_cons]; omega) (List.mem_cons_of_mem _ hy)
    refine ⟨.cons h1 h2 ?_, ?_⟩
    · rw [h3]
      exact a
    · have e : i + (x :: xs).length = i + 1 + xs.length := by rw [List.length_cons]; omega
      rw [e]
      exact b
theorem fr_ex (st : S → List QV) (enc : α → PyData) (P : Nat → S → Prop) : ∀ (xs : List α) (i : Nat) (s : S), P i s →
    (∀ j x s, i ≤ j → j < i + xs.length → x ∈ xs → P j s → ∃ s', P (j + 1) s' ∧ ∃ r1 js r2, GD K g (st s) (enc x) r1 js ∧ SD K tb r1 (.go r2) ∧ fgt r2 fg = st s') →
    ∃ s', P (i + xs.length) s' ∧ Fr K g tb fg (st s) (xs.map enc) (.nx (st s'))
  | [], _, s, hp, _ => ⟨s, hp, .nil⟩
  | x :: xs, i, s, hp, h => by
    obtain ⟨s1, hp2, r1, js, r2, h1, h2, h3⟩ := h i x s (Nat.le_refl _) (by rw [List.length_cons]; omega) List.mem_cons_self hp
    obtain ⟨s', b, a⟩ := fr_ex st enc P xs (i + 1) s1 hp2 fun j y s hj hl hy => h j y s (by omega) (by rw [List.length_cons]; omega) (List.mem_cons_of_mem _ hy)
    refine ⟨s', ?_, .cons h1 h2 ?_⟩
    · have e : i + (x :: xs).length = i + 1 + xs.length := by rw [List.length_cons]; omega
      rw [e]
      exact b
    · rw [h3]
      exact a
theorem fr_ret (st : S → List QV) (enc : α → PyData) (step : S → α → S) (P : Nat → S → Prop) {d : PyData} {y : α} {zs : List α} (xs : List α) (i : Nat) (s : S) (hp : P i s)
    (h : ∀ j x s, i ≤ j → j < i + xs.length → x ∈ xs → P j s → P (j + 1) (step s x) ∧ ∃ r1 js r2, GD K g (st s) (enc x) r1 js ∧ SD K tb r1 (.go r2) ∧ fgt r2 fg = st (step s x))
    (h2 : ∀ s, P (i + xs.length) s → ∃ r1 js, GD K g (st s) (enc y) r1 js ∧ SD K tb r1 (.rt d)) :
    Fr K g tb fg (st s) ((xs ++ y :: zs).map enc) (.rt d) := by
  induction xs generalizing i s with
  | nil =>
    obtain ⟨r1, js, a, b⟩ := h2 s hp
    exact .ret a b
  | cons x xs ih =>
    obtain ⟨hp2, r1, js, r2, h1, h3, h4⟩ := h i x s (Nat.le_refl _) (by rw [List.length_cons]; omega) List.mem_cons_self hp
    refine .cons h1 h3 ?_
    rw [h4]
    refine ih (i + 1) _ hp2 (fun j y s hj hl hy => h j y s (by omega) (by rw [List.length_cons]; omega) (List.mem_cons_of_mem _ hy)) fun s hs => h2 s ?_
    have e : i + (x :: xs).length = i + 1 + xs.length := by rw [List.length_cons]; omega
    rw [e]
    exact hs
def loopW (c : S → Bool) (f : S → S) : Nat → S → S
  | 0, s => s
  | n + 1, s => if c s = true then loopW c f n (f s) else s
theorem wh_loop (st : S → List QV) (c : S → Bool) (f : S → S) (P : S → Prop) (mu : S → Nat)
    (hc : ∀ s, P s → EvT K tc (st s) (c s)) (hs : ∀ s, P s → c s = true → P (f s) ∧ mu (f s) < mu s ∧ ∃ r1, SD K tb (st s) (.go r1) ∧ fgt r1 fg = st (f s)) :
    ∀ (n : Nat) (s : S), P s → mu s ≤ n → ∃ m, Wh K tc tb fg m (st s) (.nx (st (loopW c f n s))) ∧ P (loopW c f n s) ∧ c (loopW c f n s) = false
  | 0, s, hp, hm => by
    have e : c s = false := by
      cases q : c s with
      | false => rfl
      | true => exact absurd (hs s hp q).2.1 (by omega)
    refine ⟨0, .done ?_, hp, e⟩
    have h := hc s hp
    rw [e] at h
    exact h
  | n + 1, s, hp, hm => by
    have h := hc s hp
    cases q : c s with
    | false =>
      rw [q] at h
      have e : loopW c f (n + 1) s = s := by
        show (if c s = true then _ else _) = _
        rw [q]
        rfl
      rw [e]
      exact ⟨0, .done h, hp, q⟩
    | true =>
      rw [q] at h
      have e : loopW c f (n + 1) s = loopW c f n (f s) := by
        show (if c s = true then _ else _) = _
        rw [q]
        rfl
      rw [e]
      obtain ⟨hp2, hlt, r1, a, b⟩ := hs s hp q
      obtain ⟨m, w, w2⟩ := wh_loop st c f P mu hc hs n (f s) hp2 (by omega)
      refine ⟨m + 1, .step h a ?_, w2⟩
      rw [b]
      exact w
theorem sd_fold {wi : TI} {u : TS} {r : List QV} {o : QO} (fg : List Nat) (st : S → List QV) (enc : α → PyData) (step : S → α → S) (P : Nat → S → Prop) (xs : List α) (s0 : S) (h0 : fgt r fg = st s0) (hp : P 0 s0) (hi : ItD K wi (fgt r fg) (xs.map enc))
    (turn : ∀ j x s, j < xs.length → x ∈ xs → P j s → P (j + 1) (step s x) ∧ ∃ r1 js r2, GD K g (st s) (enc x) r1 js ∧ SD K tb r1 (.go r2) ∧ fgt r2 fg = st (step s x))
    (rest : P xs.length (xs.foldl step s0) → SD K u (st (xs.foldl step s0)) o) : SD K (tSeq (tFor wi g tb) u) r o := by
  obtain ⟨fr, hq⟩ := fr_fold (K := K) (g := g) (tb := tb) (fg := fg) st enc step P xs 0 s0 hp fun j x s _ hl hx => turn j x s (by omega) hx
  rw [Nat.zero_add] at hq
  rw [h0] at hi
  refine sd_fgt fg ?_
  rw [h0]
  exact sd_seq (sd_for hi fr) (rest hq)
theorem sd_fex {wi : TI} {u : TS} {r : List QV} {o : QO} (fg : List Nat) (st : S → List QV) (enc : α → PyData) (P : Nat → S → Prop) (xs : List α) (s0 : S) (h0 : fgt r fg = st s0) (hp : P 0 s0) (hi : ItD K wi (fgt r fg) (xs.map enc))
    (turn : ∀ j x s, j < xs.length → x ∈ xs → P j s → ∃ s', P (j + 1) s' ∧ ∃ r1 js r2, GD K g (st s) (enc x) r1 js ∧ SD K tb r1 (.go r2) ∧ fgt r2 fg = st s') :
    ∃ s', P xs.length s' ∧ ∀ {o : QO}, SD K u (st s') o → SD K (tSeq (tFor wi g tb) u) r o := by
  obtain ⟨s', hq, fr⟩ := fr_ex (K := K) (g := g) (tb := tb) (fg := fg) st enc P xs 0 s0 hp fun j x s _ hl hx => turn j x s (by omega) hx
  rw [Nat.zero_add] at hq
  rw [h0] at hi
  refine ⟨s', hq, fun h => sd_fgt fg ?_⟩
  rw [h0]
  exact sd_seq (sd_for hi fr) h
theorem sd_loop {u : TS} {r : List QV} {o : QO} (fg : List Nat) (st : S → List QV) (c : S → Bool) (f : S → S) (P : S → Prop) (mu : S → Nat) (n : Nat) (s0 : S) (h0 : fgt r fg = st s0) (hp : P s0) (hn : mu s0 ≤ n)
    (hc : ∀ s, P s → EvT K tc (st s) (c s)) (hs : ∀ s, P s → c s = true → P (f s) ∧ mu (f s) < mu s ∧ ∃ r1, SD K tb (st s) (.go r1) ∧ fgt r1 fg = st (f s))
    (rest : P (loopW c f n s0) → c (loopW c f n s0) = false → SD K u (st (loopW c f n s0)) o) : SD K (tSeq (tWhile tc tb) u) r o := by
  obtain ⟨m, w, hq, hf⟩ := wh_loop (K := K) (tc := tc) (tb := tb) (fg := fg) st c f P mu hc hs n s0 hp hn
  refine sd_fgt fg ?_
  rw [h0]
  exact sd_seq (sd_while w) (rest hq hf)
end
def enI (k : Int) : List Int → List (Int × Int)
  | [] => []
  | n :: ns => (k, n) :: enI (k + 1) ns
def prD (p : Int × Int) : PyData := .tuple [.int p.1, .int p.2]
theorem enD_ints : ∀ (ns : List Int) (k : Int), enD k (ns.map .int) = (enI k ns).map prD
  | [], _ => rfl
  | n :: ns, k => by
    show PyData.tuple [.int k, .int n] :: enD (k + 1) (ns.map .int) = _
    rw [enD_ints ns (k + 1)]
    rfl
theorem enI_mem : ∀ {ns : List Int} {k : Int} {p : Int × Int}, p ∈ enI k ns → k ≤ p.1 ∧ p.1 < k + (ns.length : Int) ∧ p.2 ∈ ns
  | [], _, _, h => by cases h
  | n :: ns, k, p, h => by
    rcases List.mem_cons.mp h with rfl | h
    · refine ⟨Int.le_refl _, ?_, List.mem_cons_self⟩
      rw [List.length_cons]
      omega
    · obtain ⟨a, b, c⟩ := enI_mem h
      rw [List.length_cons]
      exact ⟨by omega, by omega, List.mem_cons_of_mem _ c⟩
theorem mem_rgI {a b n : Int} (h : n ∈ rgI a b) : a ≤ n ∧ n < b := by
  unfold rgI at h
  obtain ⟨i, hi, rfl⟩ := List.mem_map.mp h
  rw [List.mem_range] at hi
  omega
theorem shl_ok {i j : Int} {a : Nat} (h : i.natAbs < 2 ^ a) (h0 : 0 ≤ j) (h1 : j ≤ 1000) (h2 : a ≤ 1000) : CShl i j := by
  refine ⟨h0, ?_⟩
  have q : Builtin.Int.intBits i ≤ a := by
    unfold Builtin.Int.intBits
    by_cases e : i = 0
    · subst e
      simp
    · have e2 : (i == 0) = false := by simpa using e
      rw [e2]
      have hne : i.natAbs ≠ 0 := by omega
      have := (Nat.log2_lt hne).mpr h
      show i.natAbs.log2 + 1 ≤ a
      omega
  have e : (2 : Int) ^ 27 = 134217728 := by decide
  rw [e]
  omega
theorem shl1_ok {j : Int} (h0 : 0 ≤ j) (h1 : j ≤ 1000) : CShl 1 j := shl_ok (a := 1) (by decide) h0 h1 (by decide)
theorem mul_ok {i j : Int} {a b : Nat} (ha : i.natAbs < 2 ^ a) (hb : j.natAbs < 2 ^ b) (h : a ≤ 2000 := by decide) (h1 : b ≤ 2000 := by decide) : CMulW i j := by
  have z : ∀ {x : Nat} {c : Nat}, x < 2 ^ c → x.log2 ≤ c := fun {x c} hx => by
    by_cases e : x = 0
    · subst e
      exact Nat.le_trans (by decide : Nat.log2 0 ≤ 0) (Nat.zero_le _)
    · exact Nat.le_of_lt ((Nat.log2_lt e).mpr hx)
  unfold CMulW
  have := z ha
  have := z hb
  omega
end Q46
namespace Q46
open PySem
def kinds : List Str := ["levels", "inorder", "preorder", "postorder", "lesser", "greater", "powers"]
def cutK : List Str := ["lesser", "greater", "powers"]
def cutLv (k : Str) (h : Int) : Int := if k = "lesser" then h / 2 else if k = "greater" then (h + 1) / 2 else h - 1 * 2 ^ (((Builtin.Int.intBits (h - 1) : Nat) : Int) - 1).toNat
theorem p2 (a : Nat) : (2 : Int) ^ a = ((2 ^ a : Nat) : Int) := by norm_cast
theorem p2pos (a : Nat) : (0 : Int) < 2 ^ a := by
  have := Nat.two_pow_pos a
  rw [p2]
  omega
theorem p2le {a b : Nat} (h : a ≤ b) : (2 : Int) ^ a ≤ 2 ^ b := by
  have := Nat.pow_le_pow_right (n := 2) (by decide) h
  rw [p2, p2]
  omega
theorem p2succ (a : Nat) : (2 : Int) ^ (a + 1) = 2 * 2 ^ a := by rw [Int.pow_succ]; omega
theorem powers_cut {h : Int} (h2 : 2 ≤ h) : ∃ j : Nat, (((Builtin.Int.intBits (h - 1) : Nat) : Int) - 1).toNat = j ∧ (2 : Int) ^ j ≤ h - 1 ∧ h ≤ 2 ^ (j + 1) := by
  have hne : (h - 1).natAbs ≠ 0 := by omega
  refine ⟨(h - 1).natAbs.log2, ?_, ?_, ?_⟩
  · unfold Builtin.Int.intBits
    have e : (h - 1 == 0) = false := by
      rw [beq_eq_false_iff_ne]
      omega
    rw [e]
    show (((h - 1).natAbs.log2 + 1 : Nat) - 1 : Int).toNat = _
    omega
  · have := Nat.log2_self_le hne
    rw [p2]
    omega
  · have := Nat.lt_log2_self (n := (h - 1).natAbs)
    rw [p2]
    omega
theorem cutLv_bd {k : Str} {h : Int} (h2 : 2 ≤ h) : 1 ≤ cutLv k h ∧ cutLv k h < h ∧ 2 * cutLv k h ≤ h + 1 := by
  unfold cutLv
  split
  · omega
  · split
    · omega
    · obtain ⟨j, e, a, b⟩ := powers_cut h2
      rw [e, Int.one_mul]
      rw [p2succ] at b
      have := p2pos j
      omega
theorem cutLv_half {k : Str} {h : Int} {r : Nat} (h2 : 2 ≤ h) (hr : h ≤ 2 ^ (r + 1)) : cutLv k h ≤ 2 ^ r ∧ h - cutLv k h ≤ 2 ^ r := by
  rw [p2succ] at hr
  unfold cutLv
  split
  · omega
  · split
    · omega
    · obtain ⟨j, e, a, b⟩ := powers_cut h2
      rw [e, Int.one_mul]
      rw [p2succ] at b
      have hj : (2 : Int) ^ j ≤ 2 ^ r := by
        apply p2le
        apply Nat.lt_succ_iff.mp
        apply Nat.lt_of_not_le
        intro hle
        have := p2le hle
        rw [p2succ] at this
        omega
      omega
theorem rgI_len' (a b : Int) : (rgI a b).length = (b - a).toNat := by unfold rgI; rw [List.length_map, List.length_range]
theorem rgI_nil {a b : Int} (h : b ≤ a) : rgI a b = [] := by
  unfold rgI
  have e : (b - a).toNat = 0 := by omega
  rw [e]
  rfl
theorem rgI_cons {a b : Int} (h : a < b) : rgI a b = a :: rgI (a + 1) b := by
  unfold rgI
  have e : (b - a).toNat = (b - (a + 1)).toNat + 1 := by omega
  rw [e, List.range_succ_eq_map, List.map_cons, List.map_map]
  have e1 : a + ((0 : Nat) : Int) = a := by omega
  rw [e1]
  congr 1
  apply List.map_congr_left
  intro i _
  show a + ((i + 1 : Nat) : Int) = a + 1 + (i : Int)
  omega
theorem rgI_shift (a b c : Int) : rgI (a + c) (b + c) = (rgI a b).map (· + c) := by
  unfold rgI
  have e : (b + c - (a + c)).toNat = (b - a).toNat := by omega
  rw [e, List.map_map]
  apply List.map_congr_left
  intro i _
  show a + c + (i : Int) = a + (i : Int) + c
  omega
def wl (size : Int) : Nat → List Int
  | 0 => []
  | n + 1 => size * 2 ^ n :: wl size n
theorem wl_len (size : Int) : ∀ n, (wl size n).length = n
  | 0 => rfl
  | n + 1 => congrArg (· + 1) (wl_len size n)
theorem wl_eq (size : Int) : ∀ n : Nat, (rgI 1 ((n : Int) + 1)).map (fun s => size * 2 ^ ((n : Int) - s).toNat) = wl size n
  | 0 => by rw [rgI_nil (by omega)]; rfl
  | n + 1 => by
    rw [rgI_cons (by omega), List.map_cons]
    have e : (((n + 1 : Nat) : Int) - 1).toNat = n := by omega
    rw [e]
    show _ = size * 2 ^ n :: wl size n
    congr 1
    have e2 : (((n + 1 : Nat) : Int) + 1) = ((n : Int) + 1) + 1 := by omega
    rw [e2, rgI_shift 1 ((n : Int) + 1) 1, List.map_map, ← wl_eq size n]
    apply List.map_congr_left
    intro s _
    show size * 2 ^ (((n + 1 : Nat) : Int) - (s + 1)).toNat = size * 2 ^ ((n : Int) - s).toNat
    have e3 : (((n + 1 : Nat) : Int) - (s + 1)) = (n : Int) - s := by omega
    rw [e3]
def wd (g : Nat → Int) : Nat → Nat → List Int
  | _, 0 => []
  | h, d + 1 => g (h - 1) :: wd g (h - 1) d
theorem wd_len (g : Nat → Int) : ∀ h d, (wd g h d).length = d
  | _, 0 => rfl
  | h, d + 1 => congrArg (· + 1) (wd_len g (h - 1) d)
theorem wd_eq (g : Nat → Int) : ∀ d h : Nat, d ≤ h → (rgI 1 ((d : Int) + 1)).map (fun s => g ((h : Int) - s).toNat) = wd g h d
  | 0, h, _ => by rw [rgI_nil (by omega)]; rfl
  | d + 1, h, hd => by
    rw [rgI_cons (by omega), List.map_cons]
    have e : ((h : Int) - 1).toNat = h - 1 := by omega
    rw [e]
    show _ = g (h - 1) :: wd g (h - 1) d
    congr 1
    have e2 : (((d + 1 : Nat) : Int) + 1) = ((d : Int) + 1) + 1 := by omega
    rw [e2, rgI_shift 1 ((d : Int) + 1) 1, List.map_map, ← wd_eq g d (h - 1) (by omega)]
    apply List.map_congr_left
    intro s _
    show g ((h : Int) - (s + 1)).toNat = g (((h - 1 : Nat) : Int) - s).toNat
    have e3 : ((h : Int) - (s + 1)) = ((h - 1 : Nat) : Int) - s := by omega
    rw [e3]
theorem wd_mem {g : Nat → Int} {P : Int → Prop} : ∀ {d h : Nat}, d ≤ h → (∀ i, i < h → P (g i)) → ∀ w ∈ wd g h d, P w
  | 0, _, _, _, w, hw => by cases hw
  | d + 1, h, hd, hP, w, hw => by
    rcases List.mem_cons.mp hw with rfl | hw
    · exact hP _ (by omega)
    · exact wd_mem (d := d) (h := h - 1) (by omega) (fun i hi => hP i (by omega)) w hw
def gl : List Int → Int → Int
  | [], l => l
  | w :: ws, l => gl ws (if w ≤ l then l - w else l)
theorem gl_app : ∀ (xs ys : List Int) (l : Int), gl (xs ++ ys) l = gl ys (gl xs l)
  | [], _, _ => rfl
  | _ :: xs, ys, _ => gl_app xs ys _
theorem gl_neg : ∀ {ws : List Int} {l : Int}, (∀ w ∈ ws, 0 < w) → l < 0 → gl ws l < 0
  | [], _, _, h => h
  | w :: ws, l, hw, h => by
    have h1 := hw w List.mem_cons_self
    show gl ws (if w ≤ l then l - w else l) < 0
    rw [if_neg (by omega)]
    exact gl_neg (fun v hv => hw v (List.mem_cons_of_mem _ hv)) h
theorem gl_nn {ws : List Int} {l : Int} (hw : ∀ w ∈ ws, 0 < w) (h : gl ws l = 0) : 0 ≤ l := by
  apply Classical.byContradiction
  intro hn
  have := gl_neg hw (l := l) (by omega)
  omega
theorem gl_wl {size x : Int} (hs : 0 < size) (h0 : 0 ≤ x) (h1 : x < size) : ∀ (n : Nat) (b : Int), 0 ≤ b → b < 2 ^ n → gl (wl size n) (b * size + x) = x
  | 0, b, hb0, hb1 => by
    have e : b = 0 := by
      have : (2 : Int) ^ 0 = 1 := by decide
      omega
    subst e
    show (0 : Int) * size + x = x
    rw [Int.zero_mul, Int.zero_add]
  | n + 1, b, hb0, hb1 => by
    show gl (wl size n) (if size * 2 ^ n ≤ b * size + x then b * size + x - size * 2 ^ n else b * size + x) = x
    rw [p2succ] at hb1
    by_cases hc : 2 ^ n ≤ b
    · have q : size * 2 ^ n ≤ b * size := by rw [Int.mul_comm b size]; exact Int.mul_le_mul_of_nonneg_left hc (by omega)
      rw [if_pos (by omega)]
      have e : b * size + x - size * 2 ^ n = (b - 2 ^ n) * size + x := by
        rw [Int.sub_mul, Int.mul_comm size]
        omega
      rw [e]
      exact gl_wl hs h0 h1 n _ (by omega) (by omega)
    · have q : (b + 1) * size ≤ 2 ^ n * size := Int.mul_le_mul_of_nonneg_right (by omega) (by omega)
      rw [Int.add_mul, Int.one_mul, Int.mul_comm (2 ^ n) size] at q
      rw [if_neg (by omega)]
      exact gl_wl hs h0 h1 n _ hb0 (by omega)
def sumR (top : Int → Int) : Nat → Int → Int → Int × List Int
  | 0, _, _ => (0, [])
  | f + 1, h, d => if 1 < h then
      (if d < top h then sumR top f (top h) d
       else ((1 * 2 ^ (top h).toNat - 1) + (sumR top f (h - top h) (d - top h)).1, ((rgI 1 (top h + 1)).map fun s => (1 * 2 ^ (h - top h).toNat - 1) * 2 ^ (top h - s).toNat) ++ (sumR top f (h - top h) (d - top h)).2))
    else (0, [])
theorem sumR_wl {size t : Int} (ht : 0 ≤ t) : (rgI 1 (t + 1)).map (fun s => size * 2 ^ (t - s).toNat) = wl size t.toNat := by
  have h := wl_eq size t.toNat
  have e : ((t.toNat : Nat) : Int) = t := by omega
  rw [e] at h
  exact h
structure SumOk (h d : Int) (r : Int × List Int) : Prop where
  len : (r.2.length : Int) = d
  n0 : 0 ≤ r.1
  n1 : r.1 ≤ 2 ^ h.toNat - 2
  w0 : ∀ w ∈ r.2, 0 < w
  w1 : ∀ w ∈ r.2, w ≤ 2 ^ (h - 1).toNat - 1
theorem wl_mem {size : Int} (hs : 0 < size) : ∀ {n : Nat} {w : Int}, w ∈ wl size n → 0 < w ∧ 2 * w ≤ size * 2 ^ n
  | 0, _, h => by cases h
  | n + 1, w, h => by
    have hp := p2pos n
    rcases List.mem_cons.mp h with rfl | h
    · refine ⟨Int.mul_pos hs hp, ?_⟩
      rw [p2succ, Int.mul_left_comm]
      omega
    · obtain ⟨a, b⟩ := wl_mem hs h
      refine ⟨a, ?_⟩
      rw [p2succ, Int.mul_left_comm]
      have := Int.mul_pos hs hp
      omega
theorem sumR_ok {top : Int → Int} (ht : ∀ h, 2 ≤ h → 1 ≤ top h ∧ top h < h) : ∀ (f : Nat) (h d : Int), h ≤ (f : Int) → 0 ≤ d → d < h → SumOk h d (sumR top f h d)
  | 0, h, d, hf, h0, h1 => by omega
  | f + 1, h, d, hf, h0, h1 => by
    unfold sumR
    by_cases hh : 1 < h
    · rw [if_pos hh]
      obtain ⟨t1, t2⟩ := ht h (by omega)
      have hp : (2 : Int) ^ (top h).toNat ≤ 2 ^ h.toNat := p2le (by omega)
      have hp1 : (2 : Int) ^ (top h - 1).toNat ≤ 2 ^ (h - 1).toNat := p2le (by omega)
      by_cases hd : d < top h
      · rw [if_pos hd]
        have ih := sumR_ok ht f (top h) d (by omega) h0 hd
        exact ⟨ih.len, ih.n0, by have := ih.n1; omega, ih.w0, fun w hw => by have := ih.w1 w hw; omega⟩
      · rw [if_neg hd]
        have ih := sumR_ok ht f (h - top h) (d - top h) (by omega) (by omega) (by omega)
        rw [sumR_wl (by omega)]
        have e1 : (2 : Int) ^ h.toNat = 2 ^ (top h).toNat * 2 ^ (h - top h).toNat := by
          rw [← Int.pow_add]
          congr 1
          omega
        have e2 : (2 : Int) ^ h.toNat = 2 * 2 ^ (h - 1).toNat := by
          rw [← p2succ]
          congr 1
          omega
        have q1 := p2pos (top h).toNat
        have q2 : (2 : Int) ≤ 2 ^ (h - top h).toNat := by
          have : (2 : Int) ^ 1 ≤ 2 ^ (h - top h).toNat := p2le (by omega)
          omega
        have q3 : (2 : Int) ≤ 2 ^ (top h).toNat := by
          have : (2 : Int) ^ 1 ≤ 2 ^ (top h).toNat := p2le (by omega)
          omega
        have q4 : (2 : Int) ^ (top h).toNat * 2 ≤ 2 ^ (top h).toNat * 2 ^ (h - top h).toNat := Int.mul_le_mul_of_nonneg_left q2 (by omega)
        have q5 : 2 * (2 : Int) ^ (h - top h).toNat ≤ 2 ^ (top h).toNat * 2 ^ (h - top h).toNat := Int.mul_le_mul_of_nonneg_right q3 (by omega)
        refine ⟨?_, ?_, ?_, ?_, ?_⟩
        · rw [List.length_append, wl_len]
          have := ih.len
          omega
        · have := ih.n0
          show 0 ≤ 1 * 2 ^ (top h).toNat - 1 + _
          omega
        · have := ih.n1
          show 1 * 2 ^ (top h).toNat - 1 + _ ≤ _
          omega
        · intro w hw
          rcases List.mem_append.mp hw with hw | hw
          · exact (wl_mem (by omega) hw).1
          · exact ih.w0 w hw
        · intro w hw
          rcases List.mem_append.mp hw with hw | hw
          · have := (wl_mem (by omega) hw).2
            have e3 : (1 * 2 ^ (h - top h).toNat - 1) * (2 : Int) ^ (top h).toNat = 2 ^ (top h).toNat * 2 ^ (h - top h).toNat - 2 ^ (top h).toNat := by
              rw [Int.one_mul, Int.sub_mul, Int.one_mul, Int.mul_comm]
            omega
          · have := ih.w1 w hw
            have : (2 : Int) ^ (h - top h - 1).toNat ≤ 2 ^ (h - 1).toNat := p2le (by omega)
            omega
    · rw [if_neg hh]
      have e : d = 0 := by omega
      have e2 : h = 1 := by omega
      subst e e2
      exact ⟨rfl, Int.le_refl 0, by decide, fun w hw => (nomatch hw), fun w hw => (nomatch hw)⟩
theorem sumR_there {top : Int → Int} (ht : ∀ h, 2 ≤ h → 1 ≤ top h ∧ top h < h) : ∀ (f : Nat) (h p : Int), h ≤ (f : Int) → 1 ≤ h → 0 ≤ p → p < 2 ^ h.toNat - 1 → ∃ d, 0 ≤ d ∧ d < h ∧ gl (sumR top f h d).2 (p - (sumR top f h d).1) = 0
  | 0, h, p, hf, h1, h0, hp => by omega
  | f + 1, h, p, hf, h1, h0, hp => by
    by_cases hh : 1 < h
    · obtain ⟨t1, t2⟩ := ht h (by omega)
      by_cases hc : p < 2 ^ (top h).toNat - 1
      · obtain ⟨d, d0, d1, hd⟩ := sumR_there ht f (top h) p (by omega) (by omega) h0 hc
        refine ⟨d, d0, by omega, ?_⟩
        unfold sumR
        rw [if_pos hh, if_pos d1]
        exact hd
      · have e1 : (2 : Int) ^ h.toNat = 2 ^ (top h).toNat * 2 ^ (h - top h).toNat := by
          rw [← Int.pow_add]
          congr 1
          omega
        have q2 : (2 : Int) ≤ 2 ^ (h - top h).toNat := by
          have : (2 : Int) ^ 1 ≤ 2 ^ (h - top h).toNat := p2le (by omega)
          omega
        -- the bottom tree and the place in it
        have hsz : 0 < 1 * (2 : Int) ^ (h - top h).toNat - 1 := by omega
        have hq0 : 0 ≤ p - (1 * 2 ^ (top h).toNat - 1) := by omega
        have hdm := Int.emod_add_mul_ediv (p - (1 * 2 ^ (top h).toNat - 1)) (1 * 2 ^ (h - top h).toNat - 1)
        have hr0 := Int.emod_nonneg (p - (1 * 2 ^ (top h).toNat - 1)) (b := 1 * 2 ^ (h - top h).toNat - 1) (by omega)
        have hr1 := Int.emod_lt_of_pos (p - (1 * 2 ^ (top h).toNat - 1)) hsz
        have hb0 : 0 ≤ (p - (1 * 2 ^ (top h).toNat - 1)) / (1 * 2 ^ (h - top h).toNat - 1) := Int.ediv_nonneg hq0 (by omega)
        generalize hR : (p - (1 * 2 ^ (top h).toNat - 1)) % (1 * 2 ^ (h - top h).toNat - 1) = R at *
        generalize hB : (p - (1 * 2 ^ (top h).toNat - 1)) / (1 * 2 ^ (h - top h).toNat - 1) = b at *
        have hb1 : b < 2 ^ (top h).toNat := by
          apply Classical.byContradiction
          intro hn
          have hle : 2 ^ (top h).toNat ≤ b := by omega
          have := Int.mul_le_mul_of_nonneg_left hle (Int.le_of_lt hsz)
          have e3 : (1 * 2 ^ (h - top h).toNat - 1) * (2 : Int) ^ (top h).toNat = 2 ^ (top h).toNat * 2 ^ (h - top h).toNat - 2 ^ (top h).toNat := by
            rw [Int.one_mul, Int.sub_mul, Int.one_mul, Int.mul_comm]
          omega
        obtain ⟨d, d0, d1, hd⟩ := sumR_there ht f (h - top h) R (by omega) (by omega) hr0 (by omega)
        have ok := sumR_ok ht f (h - top h) d (by omega) d0 d1
        have hnn := gl_nn ok.w0 hd
        refine ⟨top h + d, by omega, by omega, ?_⟩
        unfold sumR
        rw [if_pos hh, if_neg (by omega)]
        have e4 : top h + d - top h = d := by omega
        rw [e4, sumR_wl (by omega), gl_app]
        have e5 : p - (1 * 2 ^ (top h).toNat - 1 + (sumR top f (h - top h) d).1) = b * (1 * 2 ^ (h - top h).toNat - 1) + (R - (sumR top f (h - top h) d).1) := by
          rw [Int.mul_comm b]
          omega
        have hn0 := ok.n0
        rw [e5, gl_wl hsz hnn (by omega) _ b hb0 hb1]
        exact hd
    · have e2 : h = 1 := by omega
      subst e2
      have e3 : p = 0 := by
        have : (2 : Int) ^ (1 : Int).toNat = 2 := by decide
        omega
      subst e3
      refine ⟨0, Int.le_refl 0, by decide, ?_⟩
      unfold sumR
      rw [if_neg hh]
      rfl
end Q46
namespace Q46
open PySem L2
def topS (i : Nat) : Stmt := PySem.Challenge.pw_storedtrees_k46_whole_console_and_functi.main.body.getD i (.Pass ⟨0, 0, 0, 0⟩)
abbrev s_is_int : Stmt := topS 17
abbrev n_is_int : List Str := ["value"]
theorem sc_is_int : FnScope n_is_int ["value"] (defScope s_is_int) := ⟨rfl, rfl, rfl, by decide +kernel, rfl, by decide +kernel, by decide +kernel⟩
abbrev s_is_whole : Stmt := topS 18
abbrev n_is_whole : List Str := ["value", "low", "high"]
theorem sc_is_whole : FnScope n_is_whole ["value", "low", "high"] (defScope s_is_whole) := ⟨rfl, rfl, rfl, by decide +kernel, rfl, by decide +kernel, by decide +kernel⟩
abbrev s_is_node : Stmt := topS 19
abbrev n_is_node : List Str := ["height", "value"]
theorem sc_is_node : FnScope n_is_node ["height", "value"] (defScope s_is_node) := ⟨rfl, rfl, rfl, by decide +kernel, rfl, by decide +kernel, by decide +kernel⟩
abbrev s_require_kind : Stmt := topS 20
abbrev n_require_kind : List Str := ["value"]
theorem sc_require_kind : FnScope n_require_kind ["value"] (defScope s_require_kind) := ⟨rfl, rfl, rfl, by decide +kernel, rfl, by decide +kernel, by decide +kernel⟩
abbrev s_require_height : Stmt := topS 21
abbrev n_require_height : List Str := ["value"]
theorem sc_require_height : FnScope n_require_height ["value"] (defScope s_require_height) := ⟨rfl, rfl, rfl, by decide +kernel, rfl, by decide +kernel, by decide +kernel⟩
abbrev s_require_node : Stmt := topS 22
abbrev n_require_node : List Str := ["height", "value"]
theorem sc_require_node : FnScope n_require_node ["height", "value"] (defScope s_require_node) := ⟨rfl, rfl, rfl, by decide +kernel, rfl, by decide +kernel, by decide +kernel⟩
abbrev s_require_place : Stmt := topS 23
abbrev n_require_place : List Str := ["height", "value"]
theorem sc_require_place : FnScope n_require_place ["height", "value"] (defScope s_require_place) := ⟨rfl, rfl, rfl, by decide +kernel, rfl, by decide +kernel, by decide +kernel⟩
abbrev s_require_span : Stmt := topS 24
abbrev n_require_span : List Str := ["height", "begin", "end"]
theorem sc_require_span : FnScope n_require_span ["height", "begin", "end"] (defScope s_require_span) := ⟨rfl, rfl, rfl, by decide +kernel, rfl, by decide +kernel, by decide +kernel⟩
abbrev s_require_size : Stmt := topS 25
abbrev n_require_size : List Str := ["value", "most"]
theorem sc_require_size : FnScope n_require_size ["value", "most"] (defScope s_require_size) := ⟨rfl, rfl, rfl, by decide +kernel, rfl, by decide +kernel, by decide +kernel⟩
abbrev s_require_shift : Stmt := topS 26
abbrev n_require_shift : List Str := ["size", "value"]
theorem sc_require_shift : FnScope n_require_shift ["size", "value"] (defScope s_require_shift) := ⟨rfl, rfl, rfl, by decide +kernel, rfl, by decide +kernel, by decide +kernel⟩
abbrev s_cut_levels : Stmt := topS 29
abbrev n_cut_levels : List Str := ["kind", "height"]
theorem sc_cut_levels : FnScope n_cut_levels ["kind", "height"] (defScope s_cut_levels) := ⟨rfl, rfl, rfl, by decide +kernel, rfl, by decide +kernel, by decide +kernel⟩
abbrev s_plain_sums : Stmt := topS 30
abbrev n_plain_sums : List Str := ["kind", "height", "depth", "steps", "step"]
theorem sc_plain_sums : FnScope n_plain_sums ["kind", "height", "depth"] (defScope s_plain_sums) := ⟨rfl, rfl, rfl, by decide +kernel, rfl, by decide +kernel, by decide +kernel⟩
abbrev s_sums_of : Stmt := topS 31
abbrev n_sums_of : List Str := ["kind", "height", "depth", "number", "found", "levels", "left", "top", "size", "step"]
theorem sc_sums_of : FnScope n_sums_of ["kind", "height", "depth"] (defScope s_sums_of) := ⟨rfl, rfl, rfl, by decide +kernel, rfl, by decide +kernel, by decide +kernel⟩
abbrev s_spot_of : Stmt := topS 32
abbrev n_spot_of : List Str := ["kind", "height", "node", "depth", "number", "found", "sums", "step", "weight"]
theorem sc_spot_of : FnScope n_spot_of ["kind", "height", "node"] (defScope s_spot_of) := ⟨rfl, rfl, rfl, by decide +kernel, rfl, by decide +kernel, by decide +kernel⟩
abbrev s_node_there : Stmt := topS 33
abbrev n_node_there : List Str := ["kind", "height", "place", "depth", "number", "sums", "left", "steps", "weight"]
theorem sc_node_there : FnScope n_node_there ["kind", "height", "place"] (defScope s_node_there) := ⟨rfl, rfl, rfl, by decide +kernel, rfl, by decide +kernel, by decide +kernel⟩
abbrev s_require_tree_orders : Stmt := topS 34
abbrev n_require_tree_orders : List Str := ["kind", "height"]
theorem sc_require_tree_orders : FnScope n_require_tree_orders ["kind", "height"] (defScope s_require_tree_orders) := ⟨rfl, rfl, rfl, by decide +kernel, rfl, by decide +kernel, by decide +kernel⟩
abbrev s_place_of : Stmt := topS 36
abbrev n_place_of : List Str := ["kind", "height", "node"]
theorem sc_place_of : FnScope n_place_of ["kind", "height", "node"] (defScope s_place_of) := ⟨rfl, rfl, rfl, by decide +kernel, rfl, by decide +kernel, by decide +kernel⟩
abbrev s_node_at : Stmt := topS 37
abbrev n_node_at : List Str := ["kind", "height", "place"]
theorem sc_node_at : FnScope n_node_at ["kind", "height", "place"] (defScope s_node_at) := ⟨rfl, rfl, rfl, by decide +kernel, rfl, by decide +kernel, by decide +kernel⟩
abbrev s_cut_trees : Stmt := topS 39
abbrev n_cut_trees : List Str := ["kind", "height", "top", "below", "begin", "levels", "part"]
theorem sc_cut_trees : FnScope n_cut_trees ["kind", "height"] (defScope s_cut_trees) := ⟨rfl, rfl, rfl, by decide +kernel, rfl, by decide +kernel, by decide +kernel⟩
abbrev s_cut_gap : Stmt := topS 40
abbrev n_cut_gap : List Str := ["kind", "levels", "top", "number", "sums", "size", "steps", "step", "weight"]
theorem sc_cut_gap : FnScope n_cut_gap ["kind", "levels", "top"] (defScope s_cut_gap) := ⟨rfl, rfl, rfl, by decide +kernel, rfl, by decide +kernel, by decide +kernel⟩
abbrev s_gaps : Stmt := topS 41
abbrev n_gaps : List Str := ["kind", "height", "depths", "depth", "step", "begin", "levels", "top"]
theorem sc_gaps : FnScope n_gaps ["kind", "height"] (defScope s_gaps) := ⟨rfl, rfl, rfl, by decide +kernel, rfl, by decide +kernel, by decide +kernel⟩
abbrev s_require_tree_ways : Stmt := topS 42
abbrev n_require_tree_ways : List Str := ["kind", "height"]
theorem sc_require_tree_ways : FnScope n_require_tree_ways ["kind", "height"] (defScope s_require_tree_ways) := ⟨rfl, rfl, rfl, by decide +kernel, rfl, by decide +kernel, by decide +kernel⟩
abbrev s_distance_sum : Stmt := topS 44
abbrev n_distance_sum : List Str := ["kind", "height", "found", "depth", "least", "steps"]
theorem sc_distance_sum : FnScope n_distance_sum ["kind", "height"] (defScope s_distance_sum) := ⟨rfl, rfl, rfl, by decide +kernel, rfl, by decide +kernel, by decide +kernel⟩
abbrev s_count_near : Stmt := topS 45
abbrev n_count_near : List Str := ["least", "steps", "number", "left", "found", "step"]
theorem sc_count_near : FnScope n_count_near ["least", "steps", "number"] (defScope s_count_near) := ⟨rfl, rfl, rfl, by decide +kernel, rfl, by decide +kernel, by decide +kernel⟩
abbrev s_require_pages : Stmt := topS 48
abbrev n_require_pages : List Str := ["kind", "height", "size", "shift", "most"]
theorem sc_require_pages : FnScope n_require_pages ["kind", "height", "size", "shift", "most"] (defScope s_require_pages) := ⟨rfl, rfl, rfl, by decide +kernel, rfl, by decide +kernel, by decide +kernel⟩
abbrev s_moved_table : Stmt := topS 49
abbrev n_moved_table : List Str := ["table", "by", "cut"]
theorem sc_moved_table : FnScope n_moved_table ["table", "by"] (defScope s_moved_table) := ⟨rfl, rfl, rfl, by decide +kernel, rfl, by decide +kernel, by decide +kernel⟩
abbrev s_stepped_table : Stmt := topS 50
abbrev n_stepped_table : List Str := ["table", "weight", "one", "other"]
theorem sc_stepped_table : FnScope n_stepped_table ["table", "weight"] (defScope s_stepped_table) := ⟨rfl, rfl, rfl, by decide +kernel, rfl, by decide +kernel, by decide +kernel⟩
abbrev s_table_at : Stmt := topS 51
abbrev n_table_at : List Str := ["size", "rest", "found"]
theorem sc_table_at : FnScope n_table_at ["size", "rest"] (defScope s_table_at) := ⟨rfl, rfl, rfl, by decide +kernel, rfl, by decide +kernel, by decide +kernel⟩
abbrev s_count_rests : Stmt := topS 52
abbrev n_count_rests : List Str := ["table", "low", "high"]
theorem sc_count_rests : FnScope n_count_rests ["table", "low", "high"] (defScope s_count_rests) := ⟨rfl, rfl, rfl, by decide +kernel, rfl, by decide +kernel, by decide +kernel⟩
abbrev s_new_in_levels : Stmt := topS 53
abbrev n_new_in_levels : List Str := ["height", "size", "shift", "found", "depth", "begin", "above", "pairs", "number", "page", "other"]
theorem sc_new_in_levels : FnScope n_new_in_levels ["height", "size", "shift"] (defScope s_new_in_levels) := ⟨rfl, rfl, rfl, by decide +kernel, rfl, by decide +kernel, by decide +kernel⟩
abbrev s_new_in_inorder : Stmt := topS 54
abbrev n_new_in_inorder : List Str := ["height", "size", "shift", "found", "sums", "depth", "half", "table", "first", "last", "many"]
theorem sc_new_in_inorder : FnScope n_new_in_inorder ["height", "size", "shift"] (defScope s_new_in_inorder) := ⟨rfl, rfl, rfl, by decide +kernel, rfl, by decide +kernel, by decide +kernel⟩
abbrev s_new_by_parents : Stmt := topS 55
abbrev n_new_by_parents : List Str := ["kind", "height", "size", "shift", "found", "sums", "depth", "number", "table", "whole", "many", "gap"]
theorem sc_new_by_parents : FnScope n_new_by_parents ["kind", "height", "size", "shift"] (defScope s_new_by_parents) := ⟨rfl, rfl, rfl, by decide +kernel, rfl, by decide +kernel, by decide +kernel⟩
abbrev s_spread_table : Stmt := topS 56
abbrev n_spread_table : List Str := ["table", "step", "many", "size", "found", "seen", "begin", "ring", "rest", "rounds", "left", "whole", "some", "spot"]
theorem sc_spread_table : FnScope n_spread_table ["table", "step", "many"] (defScope s_spread_table) := ⟨rfl, rfl, rfl, by decide +kernel, rfl, by decide +kernel, by decide +kernel⟩
abbrev s_new_in_cut : Stmt := topS 57
abbrev n_new_in_cut : List Str := ["kind", "levels", "table", "top", "bottom", "whole", "below", "here"]
theorem sc_new_in_cut : FnScope n_new_in_cut ["kind", "levels", "table"] (defScope s_new_in_cut) := ⟨rfl, rfl, rfl, by decide +kernel, rfl, by decide +kernel, by decide +kernel⟩
abbrev s_old_in_cut : Stmt := topS 58
abbrev n_old_in_cut : List Str := ["kind", "levels", "top", "table", "size", "found", "least", "steps", "ahead", "many", "child", "gap", "spot", "step", "begin"]
theorem sc_old_in_cut : FnScope n_old_in_cut ["kind", "levels", "top", "table"] (defScope s_old_in_cut) := ⟨rfl, rfl, rfl, by decide +kernel, rfl, by decide +kernel, by decide +kernel⟩
abbrev s_new_pages : Stmt := topS 59
abbrev n_new_pages : List Str := ["kind", "height", "size", "shift"]
theorem sc_new_pages : FnScope n_new_pages ["kind", "height", "size", "shift"] (defScope s_new_pages) := ⟨rfl, rfl, rfl, by decide +kernel, rfl, by decide +kernel, by decide +kernel⟩
abbrev s_leaf_page_sum : Stmt := topS 60
abbrev n_leaf_page_sum : List Str := ["kind", "height", "size", "shift", "depth", "many"]
theorem sc_leaf_page_sum : FnScope n_leaf_page_sum ["kind", "height", "size", "shift"] (defScope s_leaf_page_sum) := ⟨rfl, rfl, rfl, by decide +kernel, rfl, by decide +kernel, by decide +kernel⟩
abbrev s_page_sum : Stmt := topS 61
abbrev n_page_sum : List Str := ["kind", "height", "size", "shift", "found", "depth", "many"]
theorem sc_page_sum : FnScope n_page_sum ["kind", "height", "size", "shift"] (defScope s_page_sum) := ⟨rfl, rfl, rfl, by decide +kernel, rfl, by decide +kernel, by decide +kernel⟩
abbrev s_common_divisor : Stmt := topS 62
abbrev n_common_divisor : List Str := ["one", "other"]
theorem sc_common_divisor : FnScope n_common_divisor ["one", "other"] (defScope s_common_divisor) := ⟨rfl, rfl, rfl, by decide +kernel, rfl, by decide +kernel, by decide +kernel⟩
abbrev s_page_mean : Stmt := topS 63
abbrev n_page_mean : List Str := ["kind", "height", "size", "shift", "above", "below", "common"]
theorem sc_page_mean : FnScope n_page_mean ["kind", "height", "size", "shift"] (defScope s_page_mean) := ⟨rfl, rfl, rfl, by decide +kernel, rfl, by decide +kernel, by decide +kernel⟩
abbrev s_best_kinds : Stmt := topS 64
abbrev n_best_kinds : List Str := ["height", "size", "shift", "sums", "kind", "many"]
theorem sc_best_kinds : FnScope n_best_kinds ["height", "size", "shift"] (defScope s_best_kinds) := ⟨rfl, rfl, rfl, by decide +kernel, rfl, by decide +kernel, by decide +kernel⟩
abbrev s_level_runs : Stmt := topS 66
abbrev n_level_runs : List Str := ["height", "depth", "number", "found", "below", "first"]
theorem sc_level_runs : FnScope n_level_runs ["height", "depth", "number"] (defScope s_level_runs) := ⟨rfl, rfl, rfl, by decide +kernel, rfl, by decide +kernel, by decide +kernel⟩
abbrev s_cut_runs : Stmt := topS 67
abbrev n_cut_runs : List Str := ["kind", "height", "depth", "number", "begin", "behind", "above", "size", "first", "bottom"]
theorem sc_cut_runs : FnScope n_cut_runs ["kind", "height", "depth", "number"] (defScope s_cut_runs) := ⟨rfl, rfl, rfl, by decide +kernel, rfl, by decide +kernel, by decide +kernel⟩
abbrev s_straight_run : Stmt := topS 68
abbrev n_straight_run : List Str := ["kind", "height", "depth", "number", "at", "size", "ahead"]
theorem sc_straight_run : FnScope n_straight_run ["kind", "height", "depth", "number"] (defScope s_straight_run) := ⟨rfl, rfl, rfl, by decide +kernel, rfl, by decide +kernel, by decide +kernel⟩
abbrev s_runs : Stmt := topS 69
abbrev n_runs : List Str := ["kind", "height", "node", "depth", "number"]
theorem sc_runs : FnScope n_runs ["kind", "height", "node"] (defScope s_runs) := ⟨rfl, rfl, rfl, by decide +kernel, rfl, by decide +kernel, by decide +kernel⟩
abbrev s_count_ahead : Stmt := topS 70
abbrev n_count_ahead : List Str := ["kind", "height", "depth", "limit", "number", "weights", "left", "found", "weight"]
theorem sc_count_ahead : FnScope n_count_ahead ["kind", "height", "depth", "limit"] (defScope s_count_ahead) := ⟨rfl, rfl, rfl, by decide +kernel, rfl, by decide +kernel, by decide +kernel⟩
abbrev s_depth_counts : Stmt := topS 71
abbrev n_depth_counts : List Str := ["kind", "height", "begin", "end", "found", "depth", "many"]
theorem sc_depth_counts : FnScope n_depth_counts ["kind", "height", "begin", "end"] (defScope s_depth_counts) := ⟨rfl, rfl, rfl, by decide +kernel, rfl, by decide +kernel, by decide +kernel⟩
abbrev s_Reader_init : Stmt := inClass (topS 73) 0
abbrev n_Reader_init : List Str := ["self", "kind", "height", "size", "shift"]
theorem sc_Reader_init : FnScope n_Reader_init ["self", "kind", "height", "size", "shift"] (defScope s_Reader_init) := ⟨rfl, rfl, rfl, by decide +kernel, rfl, by decide +kernel, by decide +kernel⟩
abbrev s_Reader_kind : Stmt := inClass (topS 73) 1
abbrev n_Reader_kind : List Str := ["self"]
theorem sc_Reader_kind : FnScope n_Reader_kind ["self"] (defScope s_Reader_kind) := ⟨rfl, rfl, rfl, by decide +kernel, rfl, by decide +kernel, by decide +kernel⟩
abbrev s_Reader_height : Stmt := inClass (topS 73) 2
abbrev n_Reader_height : List Str := ["self"]
theorem sc_Reader_height : FnScope n_Reader_height ["self"] (defScope s_Reader_height) := ⟨rfl, rfl, rfl, by decide +kernel, rfl, by decide +kernel, by decide +kernel⟩
abbrev s_Reader_size : Stmt := inClass (topS 73) 3
abbrev n_Reader_size : List Str := ["self"]
theorem sc_Reader_size : FnScope n_Reader_size ["self"] (defScope s_Reader_size) := ⟨rfl, rfl, rfl, by decide +kernel, rfl, by decide +kernel, by decide +kernel⟩
abbrev s_Reader_shift : Stmt := inClass (topS 73) 4
abbrev n_Reader_shift : List Str := ["self"]
theorem sc_Reader_shift : FnScope n_Reader_shift ["self"] (defScope s_Reader_shift) := ⟨rfl, rfl, rfl, by decide +kernel, rfl, by decide +kernel, by decide +kernel⟩
abbrev s_Reader_page : Stmt := inClass (topS 73) 5
abbrev n_Reader_page : List Str := ["self"]
theorem sc_Reader_page : FnScope n_Reader_page ["self"] (defScope s_Reader_page) := ⟨rfl, rfl, rfl, by decide +kernel, rfl, by decide +kernel, by decide +kernel⟩
abbrev s_Reader_spent : Stmt := inClass (topS 73) 6
abbrev n_Reader_spent : List Str := ["self"]
theorem sc_Reader_spent : FnScope n_Reader_spent ["self"] (defScope s_Reader_spent) := ⟨rfl, rfl, rfl, by decide +kernel, rfl, by decide +kernel, by decide +kernel⟩
abbrev s_Reader_behind : Stmt := inClass (topS 73) 8
abbrev n_Reader_behind : List Str := ["self", "page", "spent", "operation", "depth", "number", "step", "node", "there"]
theorem sc_Reader_behind : FnScope n_Reader_behind ["self", "page", "spent", "operation"] (defScope s_Reader_behind) := ⟨rfl, rfl, rfl, by decide +kernel, rfl, by decide +kernel, by decide +kernel⟩
abbrev s_Reader_perform : Stmt := inClass (topS 73) 9
abbrev n_Reader_perform : List Str := ["self", "operation", "page", "spent"]
theorem sc_Reader_perform : FnScope n_Reader_perform ["self", "operation"] (defScope s_Reader_perform) := ⟨rfl, rfl, rfl, by decide +kernel, rfl, by decide +kernel, by decide +kernel⟩
abbrev s_Reader_search : Stmt := inClass (topS 73) 10
abbrev n_Reader_search : List Str := ["self", "node"]
theorem sc_Reader_search : FnScope n_Reader_search ["self", "node"] (defScope s_Reader_search) := ⟨rfl, rfl, rfl, by decide +kernel, rfl, by decide +kernel, by decide +kernel⟩
abbrev s_Reader_drop : Stmt := inClass (topS 73) 11
abbrev n_Reader_drop : List Str := ["self"]
theorem sc_Reader_drop : FnScope n_Reader_drop ["self"] (defScope s_Reader_drop) := ⟨rfl, rfl, rfl, by decide +kernel, rfl, by decide +kernel, by decide +kernel⟩
abbrev s_Reader_undo : Stmt := inClass (topS 73) 12
abbrev n_Reader_undo : List Str := ["self"]
theorem sc_Reader_undo : FnScope n_Reader_undo ["self"] (defScope s_Reader_undo) := ⟨rfl, rfl, rfl, by decide +kernel, rfl, by decide +kernel, by decide +kernel⟩
abbrev s_Reader_log : Stmt := inClass (topS 73) 13
abbrev n_Reader_log : List Str := ["self"]
theorem sc_Reader_log : FnScope n_Reader_log ["self"] (defScope s_Reader_log) := ⟨rfl, rfl, rfl, by decide +kernel, rfl, by decide +kernel, by decide +kernel⟩
abbrev s_node_text : Stmt := topS 75
abbrev n_node_text : List Str := ["node", "depth", "number", "step"]
theorem sc_node_text : FnScope n_node_text ["node"] (defScope s_node_text) := ⟨rfl, rfl, rfl, by decide +kernel, rfl, by decide +kernel, by decide +kernel⟩
abbrev s_show_node : Stmt := topS 76
abbrev n_show_node : List Str := ["node"]
theorem sc_show_node : FnScope n_show_node ["node"] (defScope s_show_node) := ⟨rfl, rfl, rfl, by decide +kernel, rfl, by decide +kernel, by decide +kernel⟩
abbrev s_node_in : Stmt := topS 77
abbrev n_node_in : List Str := ["word", "number", "sign"]
theorem sc_node_in : FnScope n_node_in ["word"] (defScope s_node_in) := ⟨rfl, rfl, rfl, by decide +kernel, rfl, by decide +kernel, by decide +kernel⟩
abbrev s_number_in : Stmt := topS 82
abbrev n_number_in : List Str := ["word", "signs", "sign"]
theorem sc_number_in : FnScope n_number_in ["word"] (defScope s_number_in) := ⟨rfl, rfl, rfl, by decide +kernel, rfl, by decide +kernel, by decide +kernel⟩
abbrev s_value_in : Stmt := topS 83
abbrev n_value_in : List Str := ["form", "word"]
theorem sc_value_in : FnScope n_value_in ["form", "word"] (defScope s_value_in) := ⟨rfl, rfl, rfl, by decide +kernel, rfl, by decide +kernel, by decide +kernel⟩
abbrev s_values_behind : Stmt := topS 84
abbrev n_values_behind : List Str := ["words", "forms", "values", "form", "word"]
theorem sc_values_behind : FnScope n_values_behind ["words"] (defScope s_values_behind) := ⟨rfl, rfl, rfl, by decide +kernel, rfl, by decide +kernel, by decide +kernel⟩
abbrev s_Console_init : Stmt := inClass (topS 85) 0
abbrev n_Console_init : List Str := ["self"]
theorem sc_Console_init : FnScope n_Console_init ["self"] (defScope s_Console_init) := ⟨rfl, rfl, rfl, by decide +kernel, rfl, by decide +kernel, by decide +kernel⟩
abbrev s_Console_execute : Stmt := inClass (topS 85) 1
abbrev n_Console_execute : List Str := ["self", "command", "words", "values"]
theorem sc_Console_execute : FnScope n_Console_execute ["self", "command"] (defScope s_Console_execute) := ⟨rfl, rfl, rfl, by decide +kernel, rfl, by decide +kernel, by decide +kernel⟩
abbrev s_Console_change : Stmt := inClass (topS 85) 2
abbrev n_Console_change : List Str := ["self", "head", "values"]
theorem sc_Console_change : FnScope n_Console_change ["self", "head", "values"] (defScope s_Console_change) := ⟨rfl, rfl, rfl, by decide +kernel, rfl, by decide +kernel, by decide +kernel⟩
abbrev s_Console_answer : Stmt := inClass (topS 85) 3
abbrev n_Console_answer : List Str := ["self", "head", "values", "reader", "kind", "height", "size", "shift", "rows", "above", "below", "first", "last", "depth", "many"]
theorem sc_Console_answer : FnScope n_Console_answer ["self", "head", "values"] (defScope s_Console_answer) := ⟨rfl, rfl, rfl, by decide +kernel, rfl, by decide +kernel, by decide +kernel⟩
abbrev s_law_bag : Stmt := topS 87
abbrev n_law_bag : List Str := ["_law_cell"]
theorem sc_law_bag : FnScope n_law_bag ["_law_cell"] (defScope s_law_bag) := ⟨rfl, rfl, rfl, by decide +kernel, rfl, by decide +kernel, by decide +kernel⟩
abbrev s_law_pick : Stmt := topS 88
abbrev n_law_pick : List Str := ["_law_bag_here", "_law_many", "_law_told", "_law_seed", "_law_turn", "_law_first", "_law_second", "_law_drawn"]
theorem sc_law_pick : FnScope n_law_pick ["_law_bag_here", "_law_many"] (defScope s_law_pick) := ⟨rfl, rfl, rfl, by decide +kernel, rfl, by decide +kernel, by decide +kernel⟩
abbrev s_law_kinds : Stmt := topS 89
abbrev n_law_kinds : List Str := []
theorem sc_law_kinds : FnScope n_law_kinds [] (defScope s_law_kinds) := ⟨rfl, rfl, rfl, by decide +kernel, rfl, by decide +kernel, by decide +kernel⟩
abbrev s_law_node : Stmt := topS 93
abbrev n_law_node : List Str := ["_law_bag_here", "_law_levels_here", "_law_down"]
theorem sc_law_node : FnScope n_law_node ["_law_bag_here", "_law_levels_here"] (defScope s_law_node) := ⟨rfl, rfl, rfl, by decide +kernel, rfl, by decide +kernel, by decide +kernel⟩
abbrev s_law_word : Stmt := topS 94
abbrev n_law_word : List Str := ["_law_node_here", "_law_step"]
theorem sc_law_word : FnScope n_law_word ["_law_node_here"] (defScope s_law_word) := ⟨rfl, rfl, rfl, by decide +kernel, rfl, by decide +kernel, by decide +kernel⟩
abbrev s_law_pairs : Stmt := topS 95
abbrev n_law_pairs : List Str := ["_law_pairs_here", "_law_sign", "_law_one", "_law_other"]
theorem sc_law_pairs : FnScope n_law_pairs ["_law_pairs_here", "_law_sign"] (defScope s_law_pairs) := ⟨rfl, rfl, rfl, by decide +kernel, rfl, by decide +kernel, by decide +kernel⟩
abbrev s_law_answers_right : Stmt := topS 96
abbrev n_law_answers_right : List Str := ["_law_bag_here", "_law_console", "_law_reader", "_law_kind_here", "_law_levels_here", "_law_many", "_law_node_here", "_law_spot", "_law_end", "_law_told", "_law_due"]
theorem sc_law_answers_right : FnScope n_law_answers_right ["_law_bag_here", "_law_console", "_law_reader"] (defScope s_law_answers_right) := ⟨rfl, rfl, rfl, by decide +kernel, rfl, by decide +kernel, by decide +kernel⟩
abbrev s_law_sums_right : Stmt := topS 97
abbrev n_law_sums_right : List Str := ["_law_console", "_law_reader", "_law_kind_here", "_law_levels_here", "_law_size_here", "_law_shift_here", "_law_told", "_law_due", "_law_above", "_law_below", "_law_command"]
theorem sc_law_sums_right : FnScope n_law_sums_right ["_law_console", "_law_reader"] (defScope s_law_sums_right) := ⟨rfl, rfl, rfl, by decide +kernel, rfl, by decide +kernel, by decide +kernel⟩
abbrev s_law_changed : Stmt := topS 98
abbrev n_law_changed : List Str := ["_law_bag_here", "_law_console", "_law_reader", "_law_way_here", "_law_node_here"]
theorem sc_law_changed : FnScope n_law_changed ["_law_bag_here", "_law_console", "_law_reader"] (defScope s_law_changed) := ⟨rfl, rfl, rfl, by decide +kernel, rfl, by decide +kernel, by decide +kernel⟩
abbrev s_law_right : Stmt := topS 99
abbrev n_law_right : List Str := ["_law_bag_here", "_law_most", "_law_is_summed", "_law_kind_here", "_law_levels_here", "_law_size_here", "_law_shift_here", "_law_console", "_law_reader", "_law_words", "_law_turn"]
theorem sc_law_right : FnScope n_law_right ["_law_bag_here", "_law_most", "_law_is_summed"] (defScope s_law_right) := ⟨rfl, rfl, rfl, by decide +kernel, rfl, by decide +kernel, by decide +kernel⟩
abbrev s_law : Stmt := topS 100
abbrev n_law : List Str := ["_law_script", "_law_k", "_law_cell", "_law_bag_here"]
theorem sc_law : FnScope n_law ["_law_script"] (defScope s_law) := ⟨rfl, rfl, rfl, by decide +kernel, rfl, by decide +kernel, by decide +kernel⟩
def changesT : List Str := ["reader", "search", "drop", "undo"]
def formsT : List (Str × Str) := [("reader", "KNNN"), ("search", "W"), ("drop", ""), ("undo", ""), ("spent", ""), ("page", ""), ("place", "W"), ("node", "N"), ("runs", "W"), ("depths", "NN"), ("distance", ""), ("leaves", ""), ("sum", ""), ("mean", ""), ("best", "")]
structure Bt (w : World) (K : PySem.W.Frag) (mg : Str → Option Value) : Type where
  len : mg "len" = none
  sum : mg "sum" = none
  all : mg "all" = none
  max : mg "max" = none
  min : mg "min" = none
  divmod : mg "divmod" = none
  isinstance : mg "isinstance" = none
  int : mg "int" = none
  str : mg "str" = none
  list : mg "list" = none
  tuple : mg "tuple" = none
  bool : mg "bool" = none
  range : mg "range" = none
  enumerate : mg "enumerate" = none
  zip : mg "zip" = none
  p_KINDS : Addr
  c_KINDS : mg "KINDS" = some (.ref p_KINDS)
  r_KINDS : RelV (.ref p_KINDS) (.ref p_KINDS)
  t_KINDS : ∀ H, SqT K H p_KINDS (kinds.map V.str)
  p_CUT_KINDS : Addr
  c_CUT_KINDS : mg "CUT_KINDS" = some (.ref p_CUT_KINDS)
  r_CUT_KINDS : RelV (.ref p_CUT_KINDS) (.ref p_CUT_KINDS)
  t_CUT_KINDS : ∀ H, SqT K H p_CUT_KINDS (cutK.map V.str)
  p_CHANGES : Addr
  c_CHANGES : mg "CHANGES" = some (.ref p_CHANGES)
  r_CHANGES : RelV (.ref p_CHANGES) (.ref p_CHANGES)
  t_CHANGES : ∀ H, SqT K H p_CHANGES (changesT.map V.str)
  u_MOST_HEIGHT : Value
  c_MOST_HEIGHT : mg "MOST_HEIGHT" = some u_MOST_HEIGHT
  r_MOST_HEIGHT : RelV (.int 100) u_MOST_HEIGHT
  u_MOST_SIZE : Value
  c_MOST_SIZE : mg "MOST_SIZE" = some u_MOST_SIZE
  r_MOST_SIZE : RelV (.int 1000000000000000000000000000000) u_MOST_SIZE
  u_MOST_COUNTED : Value
  c_MOST_COUNTED : mg "MOST_COUNTED" = some u_MOST_COUNTED
  r_MOST_COUNTED : RelV (.int 512) u_MOST_COUNTED
  u_MOST_DIGITS : Value
  c_MOST_DIGITS : mg "MOST_DIGITS" = some u_MOST_DIGITS
  r_MOST_DIGITS : RelV (.int 100) u_MOST_DIGITS
  p_FORMS : Addr
  c_FORMS : mg "FORMS" = some (.ref p_FORMS)
  r_FORMS : RelV (.ref p_FORMS) (.ref p_FORMS)
  es_FORMS : Array DictEntry
  n_FORMS : Nat
  D_FORMS : KDict K w p_FORMS es_FORMS n_FORMS
  g_FORMS : ∀ p ∈ formsT, ∃ u, PySem.W.nsIn K p_FORMS p.1 = some (some u) ∧ RelV (.str p.2) u
structure Cal (P : Program) (w : World) (K : PySem.W.Frag) (mg : Str → Option Value) (base : Heap) (x : Str) (k : Nat) (ps : List Str) (sp : Sp) : Prop where
  ex : ∃ (f : Addr) (fd : FuncData), FnOk P w K mg base CX0 k f fd ps sp ∧ mg x = some (.ref f) ∧ PySem.W.keepIn K (.ref f) = true ∧ Binds K fd ps []
structure CalM (P : Program) (w : World) (K : PySem.W.Frag) (mg : Str → Option Value) (base : Heap) (C : Addr) (m : Str) (k : Nat) (ps : List Str) (sp : Sp) : Prop where
  cl : Cls K C
  ex : ∃ (f : Addr) (fd : FuncData), FnOk P w K mg base CX0 k f fd ps sp ∧ Meth K C m f ∧ Binds K fd ps []
structure CalP (P : Program) (w : World) (K : PySem.W.Frag) (mg : Str → Option Value) (base : Heap) (C : Addr) (m : Str) (k : Nat) (sp : Sp) : Prop where
  cl : Cls K C
  ex : ∃ (p f : Addr) (fd : FuncData), FnOk P w K mg base CX0 k f fd ["self"] sp ∧ PropOf K C m p f ∧ Binds K fd ["self"] []
structure CalC (P : Program) (w : World) (K : PySem.W.Frag) (mg : Str → Option Value) (base : Heap) (x : Str) (C : Addr) (k : Nat) (ps : List Str) (sp : Sp) : Prop where
  ex : ∃ (f : Addr) (fd : FuncData), FnOk P w K mg base CX0 k f fd ps sp ∧ mg x = some (.ref C) ∧ Mk K C f ∧ Binds K fd ps []
section
variable {X : Cx} {x m : Str} {k j : Nat} {ps : List Str} {sp : Sp} {e o : Expr} {es : List Expr} {t : TA} {ta : TE} {p pos apos : Pos} {C : Addr}
theorem hu64 {A : Around} {k : Nat} (hr : Room k A) : A.units + 64 < cLine := by have := hr.un; omega
theorem hu65 {A : Around} {k : Nat} (hr : Room k A) : A.units + 65 < cLine := by have := hr.un; omega
theorem pe_callC (c : Cal X.prog X.w X.K X.mg X.base x k ps sp) (hr : Room j X.A) (hg : Gl X x) (ha : PA X (e :: es) t) (hk : k ≤ j := by first | decide | omega) (hdb : (x == ("__debug__" : Str)) = false := by decide) (he : starEach (e :: es) X.env = (false, eval e X.env) :: starEach es X.env := by rfl) (hpl : (backTo pos (starEach es X.env)).any (·.1) = false := by rfl) :
    PE X (.Call (.Name x p) (e :: es) [] pos) (tCall sp [] E0 t) := by
  obtain ⟨f, fd, F, hm, hkp, hb⟩ := c.ex
  exact pe_call F (hr.mono hk) hg hm hkp hb .nil pass0 ha hdb he hpl
theorem pe_callC0 (c : Cal X.prog X.w X.K X.mg X.base x k ps sp) (hr : Room j X.A) (hg : Gl X x) (hk : k ≤ j := by first | decide | omega) (hdb : (x == ("__debug__" : Str)) = false := by decide) :
    PE X (.Call (.Name x p) [] [] pos) (tCall sp [] E0 tNil) := by
  obtain ⟨f, fd, F, hm, hkp, hb⟩ := c.ex
  exact pe_call0 F (hr.mono hk) hg hm hkp hb .nil pass0 hdb
theorem pe_methC {pl : Sem Bool} (c : CalM X.prog X.w X.K X.mg X.base C m k ps sp) (hr : Room j X.A) (ho : PE X o ta) (ha : PA X (e :: es) t) (hk : k ≤ j := by first | decide | omega)
    (hst : starEach (e :: es) X.env = (false, eval e X.env) :: starEach es X.env := by rfl) (hpl : (backTo pos (starEach es X.env)).any (·.1) = false := by rfl)
    (ht : eval (.Call (.Attribute o m apos) (e :: es) [] pos) X.env = (do
      let ov ← eval o X.env
      standAt apos.atName
      let (f, first) ← holding [ov] (getMethod ov m pl)
      callWith pos f first (backTo pos (starEach (e :: es) X.env)) (backToKw pos (keywordEach [] X.env))) := by rfl) :
    PE X (.Call (.Attribute o m apos) (e :: es) [] pos) (tMeth C m sp [] E0 ta t) := by
  obtain ⟨f, fd, F, hm, hb⟩ := c.ex
  exact pe_meth ho c.cl hm F (hr.mono hk) hb .nil pass0 ha hst hpl ht
theorem pe_methC0 {pl : Sem Bool} (c : CalM X.prog X.w X.K X.mg X.base C m k ps sp) (hr : Room j X.A) (ho : PE X o ta) (hk : k ≤ j := by first | decide | omega)
    (ht : eval (.Call (.Attribute o m apos) [] [] pos) X.env = (do
      let ov ← eval o X.env
      standAt apos.atName
      let (f, first) ← holding [ov] (getMethod ov m pl)
      callWith pos f first (backTo pos (starEach [] X.env)) (backToKw pos (keywordEach [] X.env))) := by rfl) :
    PE X (.Call (.Attribute o m apos) [] [] pos) (tMeth C m sp [] E0 ta tNil) := by
  obtain ⟨f, fd, F, hm, hb⟩ := c.ex
  exact pe_meth0 ho c.cl hm F (hr.mono hk) hb .nil pass0 ht
theorem pe_propC (c : CalP X.prog X.w X.K X.mg X.base C m k sp) (hr : Room j X.A) (ho : PE X o ta) (hk : k + 1 ≤ j := by first | decide | omega) (hab : attributeBase o m X.env (eval o X.env) = eval o X.env := by rfl) :
    PE X (.Attribute o m pos) (tProp C sp [] E0 ta) := by
  obtain ⟨p, f, fd, F, hp, hb⟩ := c.ex
  exact pe_prop ho c.cl hp F (hr.mono hk) hb .nil pass0 hab
theorem pe_makeC (c : CalC X.prog X.w X.K X.mg X.base x C k ps sp) (hr : Room j X.A) (hg : Gl X x) (ha : PA X (e :: es) t) (hk : k + 1 ≤ j := by first | decide | omega) (hdb : (x == ("__debug__" : Str)) = false := by decide) (he : starEach (e :: es) X.env = (false, eval e X.env) :: starEach es X.env := by rfl) (hpl : (backTo pos (starEach es X.env)).any (·.1) = false := by rfl) :
    PE X (.Call (.Name x p) (e :: es) [] pos) (tMake C sp [] E0 t) := by
  obtain ⟨f, fd, F, hm, M, hb⟩ := c.ex
  exact pe_make M F (hr.mono hk) hg hm hb .nil pass0 ha hdb he hpl
theorem pe_makeC0 (c : CalC X.prog X.w X.K X.mg X.base x C k ps sp) (hr : Room j X.A) (hg : Gl X x) (hk : k + 1 ≤ j := by first | decide | omega) (hdb : (x == ("__debug__" : Str)) = false := by decide) :
    PE X (.Call (.Name x p) [] [] pos) (tMake C sp [] E0 tNil) := by
  obtain ⟨f, fd, F, hm, M, hb⟩ := c.ex
  exact pe_make0 M F (hr.mono hk) hg hm hb .nil pass0 hdb
theorem iop_mulW : PIp X .Mult (rI CMulW fun i j => .int (i * j)) := by
  intro pins s σ H x y v u Q I rx ry h
  obtain ⟨i, j, rfl, rfl, hc, q⟩ := h
  obtain ⟨t, rfl⟩ := rx
  obtain ⟨t', rfl⟩ := ry
  exact PyProof.Rows.imul_int ⟨.int _, H, I.tok _, ⟨_, rfl⟩, q⟩ hc.ok
def tKGet (K : PySem.W.Frag) (d : Addr) (td ty : TE) : TE := fun σ H Q => td σ H fun x H1 => x = .ref d ∧ ty σ H1 fun y H2 => ∃ z u v, y = .str z ∧ PySem.W.nsIn K d z = some (some u) ∧ RelV v u ∧ Q v H2
theorem pe_kget {d : Addr} {es : Array DictEntry} {n : Nat} {td ty : TE} (D : KDict X.K X.w d es n) (ho : PE X o td) (he : PE X e ty) (m : M1 X o "get" apos e pos) : PE X (.Call (.Attribute o "get" apos) [e] [] pos) (tKGet X.K d td ty) := by
  refine ⟨fun pins s σ H Q I h => ?_⟩
  refine wpAny_Call_method m.base m.few m.line PySem.F.plainAttrs_dict PySem.F.slot_dict_get PySem.F.type_dict_get (thn (ho.run pins s σ H _ I h) fun u s1 ⟨x, H1, I1, rx, ex, q1⟩ => ?_)
  subst ex
  obtain rfl : u = Value.ref d := rx
  have hm := PySem.W.mapOf_K (prog := X.prog) (w := X.w) I1.kIn D.at_ D.lit
  refine ⟨hm.typeIs, hm.noDict, ?_⟩
  rw [m.trees]
  refine Calls.callWith_builtin rfl (Calls.evalArgs_plain (Calls.spliced_cons (thn (he.run pins s1 σ H1 _ I1 q1) fun iv s2 ⟨y, H2, I2, ry, z, u, v, ey, hn, rv, q2⟩ => Calls.spliced_nil ?_)))
  subst ey
  obtain ⟨t, rfl⟩ := ry
  have hm2 := PySem.W.mapOf_K (prog := X.prog) (w := X.w) I2.kIn D.at_ D.lit
  refine call_meetsIn PySem.F.slot_dict_get hm2.typeIs PySem.F.entry_dict_get (PySem.F.args_dict_get_2 _ _) (meets_dict_get (strKind X.prog X.w) d (strKind_is X.prog X.w z t) D.low) ⟨_, hm2, ?_⟩
  rw [PySem.W.find_K D.at_ hn]
  exact ⟨v, H2, I2.tok _, rv, q2⟩
end
theorem ev_kget {K : PySem.W.Frag} {d : Addr} {ty : TE} {r : List QV} {z x : Str} {u : Value} (h : Ev K ty r (.str z)) (hn : PySem.W.nsIn K d z = some (some u)) (hu : RelV (.str x) u) : Ev K (tKGet K d (tC (.ref d)) ty) r (.str x) := fun G σ H l Q q =>
  ⟨rfl, h G σ H l _ fun y G1 H1 g1 d1 => by
    cases d1
    exact ⟨z, u, .str x, rfl, hn, hu, q _ G1 H1 g1 (.str x)⟩⟩
def Df (K : PySem.W.Frag) (mg : Str → Option Value) (x nm : Str) (st : Stmt) : Prop := ∃ (f : Addr) (fd : FuncData), FunD K nm nm (defArgs st) (defBody st) (defScope st) [] [] f fd ∧ mg x = some (.ref f)
end Q46
namespace Q46
open PySem L2
def gOf (K : PySem.W.Frag) (C : Addr) (m : Str) : Addr := match PySem.W.recIn K (He.ma K C m) "property" with
  | some (.ref g :: _) => g
  | _ => 0
def fnB (K : PySem.W.Frag) (a : Addr) (q : Str) : Bool := match K.lookup a with
  | some ⟨_, _, .func d, _⟩ => PySem.W.codeIn K d.code q && (He.dflB K d.defaults [] && He.kwdB K d.kwdefaults [])
  | _ => false
def fnT (K : PySem.W.Frag) (a : Addr) : He.FnW := match K.lookup a with
  | some ⟨_, _, .func d, _⟩ => some (d.name, d.qualname, d.params, d.body, d.scope, d.globals, d.closure, d.builtins)
  | _ => none
def prB (K : PySem.W.Frag) (C : Addr) (m q : Str) : Bool := He.eqO (PySem.W.findIn K (.ref C) m) (some (some (.ref (He.ma K C m)))) && (He.eqO (PySem.W.specialIn K (.ref (He.ma K C m)) "__get__") (some (some (.builtin "property.__get__"))) &&
  (decide (PySem.W.takesIn K (.ref (He.ma K C m)) = some true) && ((match PySem.W.recIn K (He.ma K C m) "property" with
  | some (.ref _ :: _) => true
  | _ => false) && (PySem.W.keepIn K (.ref (gOf K C m)) && fnB K (gOf K C m) q))))
def hfa0 : List He.Fa := [.glo "is_int", .glo "is_whole", .glo "is_node", .glo "require_kind", .glo "require_height", .glo "require_node", .glo "require_place", .glo "require_span", .glo "require_size", .glo "require_shift", .glo "cut_levels", .glo "plain_sums", .glo "sums_of", .glo "spot_of", .glo "node_there", .glo "require_tree_orders", .glo "require_tree_ways", .glo "place_of", .glo "node_at", .glo "cut_trees", .glo "cut_gap", .glo "gaps", .glo "distance_sum", .glo "count_near", .glo "require_pages"]
def hfa1 : List He.Fa := [.glo "moved_table", .glo "stepped_table", .glo "table_at", .glo "count_rests", .glo "new_in_levels", .glo "new_in_inorder", .glo "new_by_parents", .glo "spread_table", .glo "old_in_cut", .glo "common_divisor", .glo "new_in_cut", .glo "new_pages", .glo "leaf_page_sum", .glo "page_sum", .glo "page_mean", .glo "best_kinds", .glo "level_runs", .glo "cut_runs", .glo "straight_run", .glo "runs", .glo "count_ahead", .glo "depth_counts", .glo "node_text", .glo "_law_word", .glo "show_node"]
def hfa2 : List He.Fa := [.glo "node_in", .glo "number_in", .glo "value_in", .glo "values_behind", .glo "_law_pairs", .glo "_law_kinds", .glo "_law_bag", .glo "_law_pick", .glo "_law_node", .glo "_law_answers_right", .glo "_law_sums_right", .glo "_law_changed", .glo "_law_right", .glo "law", .glo "Reader", .glo "Console", .glo "KINDS", .glo "CUT_KINDS", .glo "CHANGES", .glo "FORMS", .free "len", .free "sum", .free "all", .free "max", .free "min"]
def hfa3 : List He.Fa := [.free "divmod", .free "isinstance", .free "int", .free "str", .free "list", .free "tuple", .free "bool", .free "range", .free "enumerate", .free "zip", .int "MOST_HEIGHT" 100, .int "MOST_SIZE" 1000000000000000000000000000000, .int "MOST_COUNTED" 512, .int "MOST_DIGITS" 100, .cls "Reader", .cls "Console", .noat "Reader" "own_budget", .noat "Reader" "own_kind", .noat "Reader" "own_height", .noat "Reader" "own_size", .noat "Reader" "own_shift", .noat "Reader" "own_page", .noat "Reader" "own_spent", .noat "Reader" "own_calls", .noat "Reader" "own_past"]
def hfa4 : List He.Fa := [.noat "Console" "own_reader", .meth "Reader" "behind", .meth "Reader" "perform", .meth "Reader" "search", .meth "Reader" "drop", .meth "Reader" "undo", .meth "Reader" "log", .meth "Console" "execute", .meth "Console" "change", .meth "Console" "answer", .mkr "Reader", .mkr "Console"]
def hfa : List He.Fa := hfa0 ++ (hfa1 ++ (hfa2 ++ (hfa3 ++ (hfa4))))
def d_is_int : He.DefD := ⟨("is_int", none), "is_int", "is_int", defArgs s_is_int, defBody s_is_int, defScope s_is_int, [], []⟩
def d_is_whole : He.DefD := ⟨("is_whole", none), "is_whole", "is_whole", defArgs s_is_whole, defBody s_is_whole, defScope s_is_whole, [], []⟩
def d_is_node : He.DefD := ⟨("is_node", none), "is_node", "is_node", defArgs s_is_node, defBody s_is_node, defScope s_is_node, [], []⟩
def d_require_kind : He.DefD := ⟨("require_kind", none), "require_kind", "require_kind", defArgs s_require_kind, defBody s_require_kind, defScope s_require_kind, [], []⟩
def d_require_height : He.DefD := ⟨("require_height", none), "require_height", "require_height", defArgs s_require_height, defBody s_require_height, defScope s_require_height, [], []⟩
def d_require_node : He.DefD := ⟨("require_node", none), "require_node", "require_node", defArgs s_require_node, defBody s_require_node, defScope s_require_node, [], []⟩
def d_require_place : He.DefD := ⟨("require_place", none), "require_place", "require_place", defArgs s_require_place, defBody s_require_place, defScope s_require_place, [], []⟩
def d_require_span : He.DefD := ⟨("require_span", none), "require_span", "require_span", defArgs s_require_span, defBody s_require_span, defScope s_require_span, [], []⟩
def d_require_size : He.DefD := ⟨("require_size", none), "require_size", "require_size", defArgs s_require_size, defBody s_require_size, defScope s_require_size, [], []⟩
def d_require_shift : He.DefD := ⟨("require_shift", none), "require_shift", "require_shift", defArgs s_require_shift, defBody s_require_shift, defScope s_require_shift, [], []⟩
def d_cut_levels : He.DefD := ⟨("cut_levels", none), "cut_levels", "cut_levels", defArgs s_cut_levels, defBody s_cut_levels, defScope s_cut_levels, [], []⟩
def d_plain_sums : He.DefD := ⟨("plain_sums", none), "plain_sums", "plain_sums", defArgs s_plain_sums, defBody s_plain_sums, defScope s_plain_sums, [], []⟩
def d_sums_of : He.DefD := ⟨("sums_of", none), "sums_of", "sums_of", defArgs s_sums_of, defBody s_sums_of, defScope s_sums_of, [], []⟩
def d_spot_of : He.DefD := ⟨("spot_of", none), "spot_of", "spot_of", defArgs s_spot_of, defBody s_spot_of, defScope s_spot_of, [], []⟩
def d_node_there : He.DefD := ⟨("node_there", none), "node_there", "node_there", defArgs s_node_there, defBody s_node_there, defScope s_node_there, [], []⟩
def d_require_tree_orders : He.DefD := ⟨("require_tree_orders", none), "require_tree", "require_tree", defArgs s_require_tree_orders, defBody s_require_tree_orders, defScope s_require_tree_orders, [], []⟩
def d_require_tree_ways : He.DefD := ⟨("require_tree_ways", none), "require_tree", "require_tree", defArgs s_require_tree_ways, defBody s_require_tree_ways, defScope s_require_tree_ways, [], []⟩
def d_place_of : He.DefD := ⟨("place_of", none), "place_of", "place_of", defArgs s_place_of, defBody s_place_of, defScope s_place_of, [], []⟩
def d_node_at : He.DefD := ⟨("node_at", none), "node_at", "node_at", defArgs s_node_at, defBody s_node_at, defScope s_node_at, [], []⟩
def d_cut_trees : He.DefD := ⟨("cut_trees", none), "cut_trees", "cut_trees", defArgs s_cut_trees, defBody s_cut_trees, defScope s_cut_trees, [], []⟩
def d_cut_gap : He.DefD := ⟨("cut_gap", none), "cut_gap", "cut_gap", defArgs s_cut_gap, defBody s_cut_gap, defScope s_cut_gap, [], []⟩
def d_gaps : He.DefD := ⟨("gaps", none), "gaps", "gaps", defArgs s_gaps, defBody s_gaps, defScope s_gaps, [], []⟩
def d_distance_sum : He.DefD := ⟨("distance_sum", none), "distance_sum", "distance_sum", defArgs s_distance_sum, defBody s_distance_sum, defScope s_distance_sum, [], []⟩
def d_count_near : He.DefD := ⟨("count_near", none), "count_near", "count_near", defArgs s_count_near, defBody s_count_near, defScope s_count_near, [], []⟩
def d_require_pages : He.DefD := ⟨("require_pages", none), "require_pages", "require_pages", defArgs s_require_pages, defBody s_require_pages, defScope s_require_pages, [], []⟩
def d_moved_table : He.DefD := ⟨("moved_table", none), "moved_table", "moved_table", defArgs s_moved_table, defBody s_moved_table, defScope s_moved_table, [], []⟩
def d_stepped_table : He.DefD := ⟨("stepped_table", none), "stepped_table", "stepped_table", defArgs s_stepped_table, defBody s_stepped_table, defScope s_stepped_table, [], []⟩
def d_table_at : He.DefD := ⟨("table_at", none), "table_at", "table_at", defArgs s_table_at, defBody s_table_at, defScope s_table_at, [], []⟩
def d_count_rests : He.DefD := ⟨("count_rests", none), "count_rests", "count_rests", defArgs s_count_rests, defBody s_count_rests, defScope s_count_rests, [], []⟩
def d_new_in_levels : He.DefD := ⟨("new_in_levels", none), "new_in_levels", "new_in_levels", defArgs s_new_in_levels, defBody s_new_in_levels, defScope s_new_in_levels, [], []⟩
def d_new_in_inorder : He.DefD := ⟨("new_in_inorder", none), "new_in_inorder", "new_in_inorder", defArgs s_new_in_inorder, defBody s_new_in_inorder, defScope s_new_in_inorder, [], []⟩
def d_new_by_parents : He.DefD := ⟨("new_by_parents", none), "new_by_parents", "new_by_parents", defArgs s_new_by_parents, defBody s_new_by_parents, defScope s_new_by_parents, [], []⟩
def d_spread_table : He.DefD := ⟨("spread_table", none), "spread_table", "spread_table", defArgs s_spread_table, defBody s_spread_table, defScope s_spread_table, [], []⟩
def d_old_in_cut : He.DefD := ⟨("old_in_cut", none), "old_in_cut", "old_in_cut", defArgs s_old_in_cut, defBody s_old_in_cut, defScope s_old_in_cut, [], []⟩
def d_common_divisor : He.DefD := ⟨("common_divisor", none), "common_divisor", "common_divisor", defArgs s_common_divisor, defBody s_common_divisor, defScope s_common_divisor, [], []⟩
def d_new_in_cut : He.DefD := ⟨("new_in_cut", none), "new_in_cut", "new_in_cut", defArgs s_new_in_cut, defBody s_new_in_cut, defScope s_new_in_cut, [], []⟩
def d_new_pages : He.DefD := ⟨("new_pages", none), "new_pages", "new_pages", defArgs s_new_pages, defBody s_new_pages, defScope s_new_pages, [], []⟩
def d_leaf_page_sum : He.DefD := ⟨("leaf_page_sum", none), "leaf_page_sum", "leaf_page_sum", defArgs s_leaf_page_sum, defBody s_leaf_page_sum, defScope s_leaf_page_sum, [], []⟩
def d_page_sum : He.DefD := ⟨("page_sum", none), "page_sum", "page_sum", defArgs s_page_sum, defBody s_page_sum, defScope s_page_sum, [], []⟩
def d_page_mean : He.DefD := ⟨("page_mean", none), "page_mean", "page_mean", defArgs s_page_mean, defBody s_page_mean, defScope s_page_mean, [], []⟩
def d_best_kinds : He.DefD := ⟨("best_kinds", none), "best_kinds", "best_kinds", defArgs s_best_kinds, defBody s_best_kinds, defScope s_best_kinds, [], []⟩
def d_level_runs : He.DefD := ⟨("level_runs", none), "level_runs", "level_runs", defArgs s_level_runs, defBody s_level_runs, defScope s_level_runs, [], []⟩
def d_cut_runs : He.DefD := ⟨("cut_runs", none), "cut_runs", "cut_runs", defArgs s_cut_runs, defBody s_cut_runs, defScope s_cut_runs, [], []⟩
def d_straight_run : He.DefD := ⟨("straight_run", none), "straight_run", "straight_run", defArgs s_straight_run, defBody s_straight_run, defScope s_straight_run, [], []⟩
def d_runs : He.DefD := ⟨("runs", none), "runs", "runs", defArgs s_runs, defBody s_runs, defScope s_runs, [], []⟩
def d_count_ahead : He.DefD := ⟨("count_ahead", none), "count_ahead", "count_ahead", defArgs s_count_ahead, defBody s_count_ahead, defScope s_count_ahead, [], []⟩
def d_depth_counts : He.DefD := ⟨("depth_counts", none), "depth_counts", "depth_counts", defArgs s_depth_counts, defBody s_depth_counts, defScope s_depth_counts, [], []⟩
def d_node_text : He.DefD := ⟨("node_text", none), "node_text", "node_text", defArgs s_node_text, defBody s_node_text, defScope s_node_text, [], []⟩
def d_law_word : He.DefD := ⟨("_law_word", none), "_law_word", "_law_word", defArgs s_law_word, defBody s_law_word, defScope s_law_word, [], []⟩
def d_show_node : He.DefD := ⟨("show_node", none), "show_node", "show_node", defArgs s_show_node, defBody s_show_node, defScope s_show_node, [], []⟩
def d_node_in : He.DefD := ⟨("node_in", none), "node_in", "node_in", defArgs s_node_in, defBody s_node_in, defScope s_node_in, [], []⟩
def d_number_in : He.DefD := ⟨("number_in", none), "number_in", "number_in", defArgs s_number_in, defBody s_number_in, defScope s_number_in, [], []⟩
def d_value_in : He.DefD := ⟨("value_in", none), "value_in", "value_in", defArgs s_value_in, defBody s_value_in, defScope s_value_in, [], []⟩
def d_values_behind : He.DefD := ⟨("values_behind", none), "values_behind", "values_behind", defArgs s_values_behind, defBody s_values_behind, defScope s_values_behind, [], []⟩
def d_law_pairs : He.DefD := ⟨("_law_pairs", none), "_law_pairs", "_law_pairs", defArgs s_law_pairs, defBody s_law_pairs, defScope s_law_pairs, [], []⟩
def d_law_kinds : He.DefD := ⟨("_law_kinds", none), "_law_kinds", "_law_kinds", defArgs s_law_kinds, defBody s_law_kinds, defScope s_law_kinds, [], []⟩
def d_law_bag : He.DefD := ⟨("_law_bag", none), "_law_bag", "_law_bag", defArgs s_law_bag, defBody s_law_bag, defScope s_law_bag, [], []⟩
def d_law_pick : He.DefD := ⟨("_law_pick", none), "_law_pick", "_law_pick", defArgs s_law_pick, defBody s_law_pick, defScope s_law_pick, [], []⟩
def d_law_node : He.DefD := ⟨("_law_node", none), "_law_node", "_law_node", defArgs s_law_node, defBody s_law_node, defScope s_law_node, [], []⟩
def d_law_answers_right : He.DefD := ⟨("_law_answers_right", none), "_law_answers_right", "_law_answers_right", defArgs s_law_answers_right, defBody s_law_answers_right, defScope s_law_answers_right, [], []⟩
def d_law_sums_right : He.DefD := ⟨("_law_sums_right", none), "_law_sums_right", "_law_sums_right", defArgs s_law_sums_right, defBody s_law_sums_right, defScope s_law_sums_right, [], []⟩
def d_law_changed : He.DefD := ⟨("_law_changed", none), "_law_changed", "_law_changed", defArgs s_law_changed, defBody s_law_changed, defScope s_law_changed, [], []⟩
def d_law_right : He.DefD := ⟨("_law_right", none), "_law_right", "_law_right", defArgs s_law_right, defBody s_law_right, defScope s_law_right, [], []⟩
def d_law : He.DefD := ⟨("law", none), "law", "law", defArgs s_law, defBody s_law, defScope s_law, [], []⟩
def d_Reader_behind : He.DefD := ⟨("Reader", some "behind"), "behind", "Reader.behind", defArgs s_Reader_behind, defBody s_Reader_behind, defScope s_Reader_behind, [], []⟩
def d_Reader_perform : He.DefD := ⟨("Reader", some "perform"), "perform", "Reader.perform", defArgs s_Reader_perform, defBody s_Reader_perform, defScope s_Reader_perform, [], []⟩
def d_Reader_search : He.DefD := ⟨("Reader", some "search"), "search", "Reader.search", defArgs s_Reader_search, defBody s_Reader_search, defScope s_Reader_search, [], []⟩
def d_Reader_drop : He.DefD := ⟨("Reader", some "drop"), "drop", "Reader.drop", defArgs s_Reader_drop, defBody s_Reader_drop, defScope s_Reader_drop, [], []⟩
def d_Reader_undo : He.DefD := ⟨("Reader", some "undo"), "undo", "Reader.undo", defArgs s_Reader_undo, defBody s_Reader_undo, defScope s_Reader_undo, [], []⟩
def d_Reader_log : He.DefD := ⟨("Reader", some "log"), "log", "Reader.log", defArgs s_Reader_log, defBody s_Reader_log, defScope s_Reader_log, [], []⟩
def d_Console_execute : He.DefD := ⟨("Console", some "execute"), "execute", "Console.execute", defArgs s_Console_execute, defBody s_Console_execute, defScope s_Console_execute, [], []⟩
def d_Console_change : He.DefD := ⟨("Console", some "change"), "change", "Console.change", defArgs s_Console_change, defBody s_Console_change, defScope s_Console_change, [], []⟩
def d_Console_answer : He.DefD := ⟨("Console", some "answer"), "answer", "Console.answer", defArgs s_Console_answer, defBody s_Console_answer, defScope s_Console_answer, [], []⟩
def d_Reader_init : He.DefD := ⟨("Reader", some "__init__"), "__init__", "Reader.__init__", defArgs s_Reader_init, defBody s_Reader_init, defScope s_Reader_init, [], []⟩
def d_Console_init : He.DefD := ⟨("Console", some "__init__"), "__init__", "Console.__init__", defArgs s_Console_init, defBody s_Console_init, defScope s_Console_init, [], []⟩
def hfn0 : List He.DefD := [d_is_int, d_is_whole, d_is_node, d_require_kind, d_require_height, d_require_node, d_require_place, d_require_span, d_require_size, d_require_shift, d_cut_levels, d_plain_sums, d_sums_of, d_spot_of, d_node_there, d_require_tree_orders, d_require_tree_ways, d_place_of, d_node_at, d_cut_trees, d_cut_gap, d_gaps, d_distance_sum, d_count_near, d_require_pages]
def hfn1 : List He.DefD := [d_moved_table, d_stepped_table, d_table_at, d_count_rests, d_new_in_levels, d_new_in_inorder, d_new_by_parents, d_spread_table, d_old_in_cut, d_common_divisor, d_new_in_cut, d_new_pages, d_leaf_page_sum, d_page_sum, d_page_mean, d_best_kinds, d_level_runs, d_cut_runs, d_straight_run, d_runs, d_count_ahead, d_depth_counts, d_node_text, d_law_word, d_show_node]
def hfn2 : List He.DefD := [d_node_in, d_number_in, d_value_in, d_values_behind, d_law_pairs, d_law_kinds, d_law_bag, d_law_pick, d_law_node, d_law_answers_right, d_law_sums_right, d_law_changed, d_law_right, d_law, d_Reader_behind, d_Reader_perform, d_Reader_search, d_Reader_drop, d_Reader_undo, d_Reader_log, d_Console_execute, d_Console_change, d_Console_answer, d_Reader_init, d_Console_init]
def hfn : List He.DefD := hfn0 ++ (hfn1 ++ (hfn2))
def hts : List He.Tab := [(fun K => He.ga K "FORMS", formsT.map Prod.fst)]
def hkv : List (Str × He.Dv) := formsT.map fun p => (p.1, .str p.2)
def hps : List (Str × Str × Stmt) := [("kind", "Reader.kind", s_Reader_kind), ("height", "Reader.height", s_Reader_height), ("size", "Reader.size", s_Reader_size), ("shift", "Reader.shift", s_Reader_shift), ("page", "Reader.page", s_Reader_page), ("spent", "Reader.spent", s_Reader_spent)]
def hex (K : PySem.W.Frag) : Bool := He.tupB K "KINDS" (kinds.map .str) && (He.tupB K "CUT_KINDS" (cutK.map .str) && (He.tupB K "CHANGES" (changesT.map .str) && (He.valsB K (He.ga K "FORMS") hkv && hps.all fun p => prB K (He.ga K "Reader") p.1 p.2.1)))
abbrev AlQ : Type := He.AlT × (Bool × List He.FnW)
def obK (K : PySem.W.Frag) : AlQ := (He.obsT hfa hfn hts K, (hex K, hps.map fun p => fnT K (gOf K (He.ga K "Reader") p.1)))
def valQ (w : World) : AlQ := (He.valT hfn hts w, (true, hps.map fun p => some (p.1, p.2.1, defArgs p.2.2, .stmts (defBody p.2.2), defScope p.2.2, mainGlobals, [], builtinsNs)))
def rfK (o : Obj) : List Addr := match o.data with
  | .dict es _ => es.toList.flatMap fun e => He.refV e.val
  | .func d => He.refV d.code
  | .cls cd => [cd.ns]
  | .fields vs => (match o.cls with
    | .type c => (match decide (c = "property") with
      | true => vs.toList.flatMap He.refV
      | false => [])
    | _ => [])
  | _ => []
def nxK (g : Addr → Option Obj) (as : List Addr) : List Addr := as.flatMap fun a => match g a with
  | some o => rfK o
  | none => []
def lvK (g : Addr → Option Obj) : Nat → List Addr → List Addr
  | 0, as => as
  | n + 1, as => as ++ lvK g n (nxK g as)
def frK (g : Addr → Option Obj) : PySem.W.Frag := He.frG g (lvK g 5 [mainGlobals])
def hkQ : PySem.W.Hook where
  α := AlQ
  obs := fun s => obK (frK s.heap.get?)
  val := fun w => valQ w
  says := fun w h => ∃ K : PySem.W.Frag, K.In h ∧ obK K = valQ w
  of := fun _ _ e => ⟨_, He.frG_in, e⟩
  keeps := fun _ _ _ ⟨K, hK, c⟩ k => ⟨K, PySem.W.Frag.In.keeps hK k, c⟩
def obQ (s : PySem.W.SharedT) : AlQ := obK (frK (HandSHeadRun.getT s))
theorem obQ_eq (s : PySem.W.SharedT) : obQ s = hkQ.obs s.abs := by
  have e : HandSHeadRun.getT s = s.abs.heap.get? := funext (HandSHeadRun.getT_eq s)
  unfold obQ
  rw [e]
  rfl
end Q46
namespace Q46
open PySem L2
def lz0 : List Str := ["_wall", "__name__", "TreeError", "OverBudget", "InvalidKind", "InvalidHeight", "InvalidNode", "InvalidPlace", "InvalidSpan", "InvalidSize", "InvalidShift", "Nothing", "InvalidCommand", "KINDS", "MOST_HEIGHT", "MOST_SIZE", "is_int", "is_whole", "is_node", "require_kind", "require_height", "require_node", "require_place", "require_span", "require_size", "require_shift", "CUT_KINDS", "cut_levels", "plain_sums", "sums_of"]
def lz1 : List Str := ["spot_of", "node_there", "require_tree", "require_tree_orders", "place_of", "node_at", "cut_trees", "cut_gap", "gaps", "require_tree_ways", "distance_sum", "count_near", "MOST_COUNTED", "require_pages", "moved_table", "stepped_table", "table_at", "count_rests", "new_in_levels", "new_in_inorder", "new_by_parents", "spread_table", "new_in_cut", "old_in_cut", "new_pages", "leaf_page_sum", "page_sum", "common_divisor", "page_mean", "best_kinds"]
def lz2 : List Str := ["level_runs", "cut_runs", "straight_run", "runs", "count_ahead", "depth_counts", "Reader", "node_text", "show_node", "node_in", "MOST_DIGITS", "FORMS", "CHANGES", "number_in", "value_in", "values_behind", "Console", "_law_bag", "_law_pick", "_law_kinds", "_law_under", "_law_built", "_law_way", "_law_node", "_law_word", "_law_pairs", "_law_answers_right", "_law_sums_right", "_law_changed", "_law_right"]
def loose : List Str := (lz0 ++ (lz1 ++ lz2))
abbrev Rw : PySem.W.OpenRow := PySem.W.OpenLaw.row PySem.Challenge.rw_storedtrees_k46_whole_console_and_functi
theorem runF (w : World) : HandSHeadRun.RunEq Rw (PySem.W.view Rw.prog [100]) hkQ obQ 20000 loose (w.withFollow "special-get-raises" false) := by
  intro os
  kernel_rfl
theorem runT (w : World) : HandSHeadRun.RunEq Rw (PySem.W.view Rw.prog [100]) hkQ obQ 20000 loose (w.withFollow "special-get-raises" true) := by
  intro os
  kernel_rfl
theorem run (w : World) : HandSHeadRun.RunEq Rw (PySem.W.view Rw.prog [100]) hkQ obQ 20000 loose w :=
  PySem.W.byRow2 "special-get-raises" (P := fun w => HandSHeadRun.RunEq Rw (PySem.W.view Rw.prog [100]) hkQ obQ 20000 loose w) runF runT w
end Q46
namespace Q46
open PySem
def plF (k : Str) (h d : Int) : Int × List Int :=
  if k = "levels" then (1 * 2 ^ d.toNat - 1, (rgI 1 (d + 1)).map fun s => 1 * 2 ^ (d - s).toNat)
  else if k = "inorder" then (1 * 2 ^ (h - 1 - d).toNat - 1, (rgI 1 (d + 1)).map fun s => 1 * 2 ^ (h - s).toNat)
  else if k = "preorder" then (d, (rgI 1 (d + 1)).map fun s => 1 * 2 ^ (h - s).toNat - 1)
  else (1 * 2 ^ (h - d).toNat - 2, (rgI 1 (d + 1)).map fun s => 1 * 2 ^ (h - s).toNat - 1)
structure SmOk (h d : Int) (r : Int × List Int) : Prop where
  len : (r.2.length : Int) = d
  n0 : 0 ≤ r.1
  n1 : r.1 ≤ 2 ^ h.toNat
  w0 : ∀ w ∈ r.2, 0 < w
  w1 : ∀ w ∈ r.2, w ≤ 2 ^ h.toNat
theorem rg_mem {a b n : Int} (h : n ∈ rgI a b) : a ≤ n ∧ n < b := mem_rgI h
theorem d_le {h d : Int} (h0 : 0 ≤ d) (h1 : d < h) : d ≤ 2 ^ h.toNat := by
  have : d.toNat < 2 ^ d.toNat := Nat.lt_two_pow_self
  have e := p2 d.toNat
  have := p2le (a := d.toNat) (b := h.toNat) (by omega)
  omega
theorem plF_ok (k : Str) {h d : Int} (h0 : 0 ≤ d) (h1 : d < h) : SmOk h d (plF k h d) := by
  have hl : ∀ g : Int → Int, (((rgI 1 (d + 1)).map g).length : Int) = d := fun g => by
    rw [List.length_map, rgI_len']
    omega
  have mb : ∀ {g : Int → Int} {T : Int → Prop}, (∀ s, 1 ≤ s → s ≤ d → T (g s)) → ∀ w ∈ (rgI 1 (d + 1)).map g, T w := fun {g T} hg w hw => by
    obtain ⟨s, hs, rfl⟩ := List.mem_map.mp hw
    have := rg_mem hs
    exact hg s (by omega) (by omega)
  unfold plF
  have q0 := p2le (a := d.toNat) (b := h.toNat) (by omega)
  have q1 := p2le (a := (h - 1 - d).toNat) (b := h.toNat) (by omega)
  have q2 := p2le (a := (h - d).toNat) (b := h.toNat) (by omega)
  have z0 := p2pos d.toNat
  have z1 := p2pos (h - 1 - d).toNat
  have z2 : (2 : Int) ^ (1 : Nat) ≤ 2 ^ (h - d).toNat := p2le (by omega)
  have q3 : ∀ s : Int, 1 ≤ s → s ≤ d → (2 : Int) ^ (d - s).toNat ≤ 2 ^ h.toNat := fun s a b => p2le (by omega)
  have q4 : ∀ s : Int, 1 ≤ s → s ≤ d → (2 : Int) ^ (h - s).toNat ≤ 2 ^ h.toNat := fun s a b => p2le (by omega)
  have q5 : ∀ s : Int, 1 ≤ s → s ≤ d → (2 : Int) ^ (1 : Nat) ≤ 2 ^ (h - s).toNat := fun s a b => p2le (by omega)
  have z4 := p2pos
  split
  · exact ⟨hl _, by show 0 ≤ 1 * 2 ^ d.toNat - 1; omega, by show 1 * 2 ^ d.toNat - 1 ≤ _; omega, mb fun s a b => by have := z4 (d - s).toNat; omega, mb fun s a b => by have := q3 s a b; omega⟩
  · split
    · exact ⟨hl _, by show 0 ≤ 1 * 2 ^ (h - 1 - d).toNat - 1; omega, by show 1 * 2 ^ (h - 1 - d).toNat - 1 ≤ _; omega, mb fun s a b => by have := z4 (h - s).toNat; omega, mb fun s a b => by have := q4 s a b; omega⟩
    · split
      · exact ⟨hl _, by show 0 ≤ d; omega, d_le h0 h1, mb fun s a b => by have := q5 s a b; omega, mb fun s a b => by have := q4 s a b; omega⟩
      · exact ⟨hl _, by show 0 ≤ 1 * 2 ^ (h - d).toNat - 2; omega, by show 1 * 2 ^ (h - d).toNat - 2 ≤ _; omega, mb fun s a b => by have := q5 s a b; omega, mb fun s a b => by have := q4 s a b; omega⟩
theorem log_ex {m : Nat} (h : m ≠ 0) : ∃ k, 2 ^ k ≤ m ∧ m < 2 ^ (k + 1) := ⟨m.log2, Nat.log2_self_le h, Nat.lt_log2_self⟩
theorem odd_ex : ∀ (n m : Nat), m ≤ n → m ≠ 0 → ∃ k b, m = 2 ^ k * (2 * b + 1)
  | 0, m, h, h0 => by omega
  | n + 1, m, h, h0 => by
    by_cases e : m % 2 = 0
    · obtain ⟨k, b, q⟩ := odd_ex n (m / 2) (by omega) (by omega)
      refine ⟨k + 1, b, ?_⟩
      rw [Nat.pow_succ, Nat.mul_assoc, Nat.mul_left_comm, ← q]
      omega
    · exact ⟨0, m / 2, by omega⟩
theorem levels_there {h p : Int} (h1 : 1 ≤ h) (h0 : 0 ≤ p) (hp : p < 2 ^ h.toNat - 1) : ∃ d, 0 ≤ d ∧ d < h ∧ gl (plF "levels" h d).2 (p - (plF "levels" h d).1) = 0 := by
  obtain ⟨k, a, b⟩ := log_ex (m := (p + 1).toNat) (by omega)
  have a2 : (2 : Int) ^ k ≤ p + 1 := by rw [p2]; omega
  have b2 : p + 1 < 2 ^ (k + 1) := by rw [p2]; omega
  have hk : k < h.toNat := by
    apply Classical.byContradiction
    intro hn
    have := p2le (a := h.toNat) (b := k) (by omega)
    omega
  refine ⟨k, by omega, by omega, ?_⟩
  show gl ((rgI 1 ((k : Int) + 1)).map fun s => 1 * 2 ^ ((k : Int) - s).toNat) (p - (1 * 2 ^ ((k : Int)).toNat - 1)) = 0
  rw [wl_eq 1 k, Int.toNat_natCast]
  have := gl_wl (size := 1) (x := 0) (by decide) (by decide) (by decide) k (p - (1 * 2 ^ k - 1)) (by omega) (by rw [p2succ] at b2; omega)
  rw [Int.mul_one, Int.add_zero] at this
  exact this
theorem inorder_there {h p : Int} (h1 : 1 ≤ h) (h0 : 0 ≤ p) (hp : p < 2 ^ h.toNat - 1) : ∃ d, 0 ≤ d ∧ d < h ∧ gl (plF "inorder" h d).2 (p - (plF "inorder" h d).1) = 0 := by
  obtain ⟨k, b, e⟩ := odd_ex _ (p + 1).toNat (Nat.le_refl _) (by omega)
  have e2 : p + 1 = 2 ^ k * (2 * (b : Int) + 1) := by
    have : ((p + 1).toNat : Int) = ((2 ^ k * (2 * b + 1) : Nat) : Int) := by rw [e]
    rw [p2]
    push_cast at this
    push_cast
    omega
  have hk0 := p2pos k
  have hk : k < h.toNat := by
    apply Classical.byContradiction
    intro hn
    have q := p2le (a := h.toNat) (b := k) (by omega)
    have : (2 : Int) ^ k * 1 ≤ 2 ^ k * (2 * (b : Int) + 1) := Int.mul_le_mul_of_nonneg_left (by omega) (by omega)
    omega
  refine ⟨h - 1 - k, by omega, by omega, ?_⟩
  show gl ((rgI 1 (h - 1 - (k : Int) + 1)).map fun s => 1 * 2 ^ (h - s).toNat) (p - (1 * 2 ^ (h - 1 - (h - 1 - (k : Int))).toNat - 1)) = 0
  have e3 : (h - 1 - (h - 1 - (k : Int))).toNat = k := by omega
  rw [e3]
  have e4 : (rgI 1 (h - 1 - (k : Int) + 1)).map (fun s => 1 * (2 : Int) ^ (h - s).toNat) = wl (2 ^ (k + 1)) (h - 1 - k).toNat := by
    rw [← wl_eq (2 ^ (k + 1)) (h - 1 - k).toNat]
    have e5 : (((h - 1 - (k : Int)).toNat : Nat) : Int) = h - 1 - k := by omega
    rw [e5]
    apply List.map_congr_left
    intro s hs
    have := rg_mem hs
    rw [Int.one_mul, ← Int.pow_add]
    congr 1
    omega
  rw [e4]
  have hb : (b : Int) < 2 ^ (h - 1 - (k : Int)).toNat := by
    have e5 : (2 : Int) ^ h.toNat = 2 ^ k * 2 * 2 ^ (h - 1 - (k : Int)).toNat := by
      rw [← Int.pow_succ, ← Int.pow_add]
      congr 1
      omega
    apply Classical.byContradiction
    intro hn
    have : (2 : Int) ^ k * 2 * 2 ^ (h - 1 - (k : Int)).toNat ≤ 2 ^ k * 2 * b := Int.mul_le_mul_of_nonneg_left (by omega) (by omega)
    rw [Int.mul_add, Int.mul_one, ← Int.mul_assoc] at e2
    omega
  have := gl_wl (size := 2 ^ (k + 1)) (x := 0) (p2pos _) (by decide) (p2pos _) (h - 1 - k).toNat b (by omega) hb
  rw [Int.add_zero] at this
  have e6 : p - (1 * 2 ^ k - 1) = (b : Int) * 2 ^ (k + 1) := by
    rw [p2succ, Int.mul_left_comm, Int.mul_comm (b : Int), Int.mul_add, Int.mul_one] at *
    rw [Int.mul_left_comm] at e2
    omega
  rw [e6]
  exact this
def gS (n : Nat) : Int := 1 * 2 ^ n - 1
theorem gS_pos {n : Nat} (h : 1 ≤ n) : 0 < gS n := by
  have : (2 : Int) ^ 1 ≤ 2 ^ n := p2le h
  unfold gS
  omega
theorem wdS_pos {d h : Nat} (hd : d < h) : ∀ w ∈ wd gS h d, 0 < w := by
  induction d generalizing h with
  | zero => intro w hw; cases hw
  | succ d ih =>
    intro w hw
    rcases List.mem_cons.mp hw with rfl | hw
    · exact gS_pos (by omega)
    · exact ih (by omega) w hw
theorem pre_there : ∀ (h : Nat) (p : Int), 1 ≤ h → 0 ≤ p → p < 2 ^ h - 1 → ∃ d : Nat, d < h ∧ gl (wd gS h d) (p - d) = 0
  | 0, p, h, _, _ => by omega
  | h + 1, p, _, h0, hp => by
    by_cases e : p = 0
    · subst e
      exact ⟨0, by omega, rfl⟩
    · rw [p2succ] at hp
      have hh : 1 ≤ h := by
        apply Classical.byContradiction
        intro hn
        have : h = 0 := by omega
        subst this
        have : (2 : Int) ^ 0 = 1 := by decide
        omega
      by_cases c : p - 1 < 2 ^ h - 1
      · obtain ⟨d, hd, q⟩ := pre_there h (p - 1) hh (by omega) c
        refine ⟨d + 1, by omega, ?_⟩
        have := gl_nn (wdS_pos hd) q
        show gl (wd gS h d) (if gS h ≤ p - ((d + 1 : Nat) : Int) then _ else p - ((d + 1 : Nat) : Int)) = 0
        have e3 : gS h = 1 * 2 ^ h - 1 := rfl
        rw [if_neg (by omega)]
        have e2 : p - ((d + 1 : Nat) : Int) = p - 1 - d := by omega
        rw [e2]
        exact q
      · obtain ⟨d, hd, q⟩ := pre_there h (p - 1 - (2 ^ h - 1)) hh (by omega) (by omega)
        refine ⟨d + 1, by omega, ?_⟩
        have := gl_nn (wdS_pos hd) q
        show gl (wd gS h d) (if gS h ≤ p - ((d + 1 : Nat) : Int) then p - ((d + 1 : Nat) : Int) - gS h else p - ((d + 1 : Nat) : Int)) = 0
        have e3 : gS h = 1 * 2 ^ h - 1 := rfl
        rw [if_pos (by omega)]
        have e2 : p - ((d + 1 : Nat) : Int) - gS h = p - 1 - (2 ^ h - 1) - d := by omega
        rw [e2]
        exact q
theorem post_there : ∀ (h : Nat) (p : Int), 1 ≤ h → 0 ≤ p → p < 2 ^ h - 1 → ∃ d : Nat, d < h ∧ gl (wd gS h d) (p - (1 * 2 ^ (h - d) - 2)) = 0
  | 0, p, h, _, _ => by omega
  | h + 1, p, _, h0, hp => by
    by_cases e : p = 2 ^ (h + 1) - 2
    · subst e
      refine ⟨0, by omega, ?_⟩
      show (2 : Int) ^ (h + 1) - 2 - (1 * 2 ^ (h + 1) - 2) = 0
      omega
    · rw [p2succ] at hp e
      have hh : 1 ≤ h := by
        apply Classical.byContradiction
        intro hn
        have : h = 0 := by omega
        subst this
        have : (2 : Int) ^ 0 = 1 := by decide
        omega
      have hn : ∀ d : Nat, d < h → (0 : Int) ≤ 1 * 2 ^ (h - d) - 2 := fun d hd => by
        have : (2 : Int) ^ 1 ≤ 2 ^ (h - d) := p2le (by omega)
        omega
      by_cases c : p < 2 ^ h - 1
      · obtain ⟨d, hd, q⟩ := post_there h p hh (by omega) c
        refine ⟨d + 1, by omega, ?_⟩
        have e4 : h + 1 - (d + 1) = h - d := by omega
        rw [e4]
        have := hn d hd
        show gl (wd gS h d) (if gS h ≤ p - (1 * 2 ^ (h - d) - 2) then _ else p - (1 * 2 ^ (h - d) - 2)) = 0
        have e3 : gS h = 1 * 2 ^ h - 1 := rfl
        rw [if_neg (by omega)]
        exact q
      · obtain ⟨d, hd, q⟩ := post_there h (p - (2 ^ h - 1)) hh (by omega) (by omega)
        refine ⟨d + 1, by omega, ?_⟩
        have e4 : h + 1 - (d + 1) = h - d := by omega
        rw [e4]
        have := gl_nn (wdS_pos hd) q
        show gl (wd gS h d) (if gS h ≤ p - (1 * 2 ^ (h - d) - 2) then p - (1 * 2 ^ (h - d) - 2) - gS h else p - (1 * 2 ^ (h - d) - 2)) = 0
        have e3 : gS h = 1 * 2 ^ h - 1 := rfl
        rw [if_pos (by omega)]
        have e2 : p - (1 * 2 ^ (h - d) - 2) - gS h = p - (2 ^ h - 1) - (1 * 2 ^ (h - d) - 2) := by omega
        rw [e2]
        exact q
def smF (k : Str) (h d : Int) : Int × List Int := if k ∈ cutK then sumR (cutLv k) h.toNat h d else plF k h d
theorem smF_ok (k : Str) {h d : Int} (h0 : 0 ≤ d) (h1 : d < h) : SmOk h d (smF k h d) := by
  unfold smF
  split
  · have o := sumR_ok (top := cutLv k) (fun h h2 => ⟨(cutLv_bd h2).1, (cutLv_bd h2).2.1⟩) h.toNat h d (by omega) h0 h1
    have q := p2le (a := (h - 1).toNat) (b := h.toNat) (by omega)
    exact ⟨o.len, o.n0, by have := o.n1; omega, o.w0, fun w hw => by have := o.w1 w hw; omega⟩
  · exact plF_ok k h0 h1
theorem smF_there {k : Str} (hk : k ∈ kinds) {h p : Int} (h1 : 1 ≤ h) (h0 : 0 ≤ p) (hp : p < 2 ^ h.toNat - 1) : ∃ d, 0 ≤ d ∧ d < h ∧ gl (smF k h d).2 (p - (smF k h d).1) = 0 := by
  by_cases hc : k ∈ cutK
  · have e : ∀ d, smF k h d = sumR (cutLv k) h.toNat h d := fun d => if_pos hc
    simp only [e]
    exact sumR_there (top := cutLv k) (fun h h2 => ⟨(cutLv_bd h2).1, (cutLv_bd h2).2.1⟩) h.toNat h p (by omega) h1 h0 hp
  · have e : ∀ d, smF k h d = plF k h d := fun d => if_neg hc
    simp only [e]
    clear e
    have hS : ∀ d : Nat, d ≤ h.toNat → (rgI 1 ((d : Int) + 1)).map (fun s => 1 * (2 : Int) ^ (h - s).toNat - 1) = wd gS h.toNat d := fun d hd => by
      rw [← wd_eq gS d h.toNat hd]
      have e : ((h.toNat : Nat) : Int) = h := by omega
      rw [e]
      rfl
    have hm : k = "levels" ∨ k = "inorder" ∨ k = "preorder" ∨ k = "postorder" := by
      have : k = "levels" ∨ k = "inorder" ∨ k = "preorder" ∨ k = "postorder" ∨ k = "lesser" ∨ k = "greater" ∨ k = "powers" := by
        unfold kinds at hk
        simpa using hk
      have hc2 : ¬ (k = "lesser" ∨ k = "greater" ∨ k = "powers") := by
        unfold cutK at hc
        simpa using hc
      rcases this with a | a | a | a | a
      · exact .inl a
      · exact .inr (.inl a)
      · exact .inr (.inr (.inl a))
      · exact .inr (.inr (.inr a))
      · exact absurd a hc2
    rcases hm with rfl | rfl | rfl | rfl
    · exact levels_there h1 h0 hp
    · exact inorder_there h1 h0 hp
    · obtain ⟨d, hd, q⟩ := pre_there h.toNat p (by omega) h0 hp
      refine ⟨d, by omega, by omega, ?_⟩
      show gl ((rgI 1 ((d : Int) + 1)).map fun s => 1 * 2 ^ (h - s).toNat - 1) (p - d) = 0
      rw [hS d (by omega)]
      exact q
    · obtain ⟨d, hd, q⟩ := post_there h.toNat p (by omega) h0 hp
      refine ⟨d, by omega, by omega, ?_⟩
      show gl ((rgI 1 ((d : Int) + 1)).map fun s => 1 * 2 ^ (h - s).toNat - 1) (p - (1 * 2 ^ (h - (d : Int)).toNat - 2)) = 0
      rw [hS d (by omega)]
      have e : (h - (d : Int)).toNat = h.toNat - d := by omega
      rw [e]
      exact q
end Q46
namespace Q46
open PySem
def cntF (st : Int × Int) (s : Int) : Int × Int := if s ≤ st.1 then (st.1 - s, st.2 * 2 + 1) else (st.1, st.2 * 2)
def cnt (least : Int) (steps : List Int) (number : Int) : Int := if number - least < 0 then 0 else (steps.foldl cntF (number - least, 0)).2 + 1
def Dom : List Int → Prop
  | [] => True
  | s :: ss => 0 ≤ s ∧ ss.sum ≤ s ∧ Dom ss
theorem Dom.nn : ∀ {ss : List Int}, Dom ss → 0 ≤ ss.sum
  | [], _ => Int.le_refl 0
  | s :: ss, h => by
    have := Dom.nn h.2.2
    have := h.1
    rw [List.sum_cons]
    omega
def bit (c : Int) (n : Nat) : Int := c / 2 ^ n % 2
def gp : List Int → Int → Int
  | [], _ => 0
  | s :: ss, c => (if bit c ss.length = 1 then s else 0) + gp ss c
def grd : List Int → Int → Int
  | [], _ => 0
  | s :: ss, l => if s ≤ l then 2 ^ ss.length + grd ss (l - s) else grd ss l
theorem grd_bd : ∀ (ss : List Int) (l : Int), 0 ≤ grd ss l ∧ grd ss l < 2 ^ ss.length
  | [], l => ⟨Int.le_refl 0, (by decide : (0 : Int) < 2 ^ 0)⟩
  | s :: ss, l => by
    show 0 ≤ (if s ≤ l then 2 ^ ss.length + grd ss (l - s) else grd ss l) ∧ (if s ≤ l then 2 ^ ss.length + grd ss (l - s) else grd ss l) < 2 ^ (ss.length + 1)
    rw [p2succ]
    have := grd_bd ss l
    have := grd_bd ss (l - s)
    split <;> omega
theorem cnt_grd : ∀ (ss : List Int) (l a : Int), (ss.foldl cntF (l, a)).2 = a * 2 ^ ss.length + grd ss l
  | [], l, a => by
    show a = a * 2 ^ 0 + 0
    have : (2 : Int) ^ 0 = 1 := by decide
    rw [this]
    omega
  | s :: ss, l, a => by
    show (ss.foldl cntF (cntF (l, a) s)).2 = a * 2 ^ (ss.length + 1) + (if s ≤ l then 2 ^ ss.length + grd ss (l - s) else grd ss l)
    unfold cntF
    rw [p2succ]
    by_cases c : s ≤ l
    · rw [if_pos c, if_pos c]
      show (ss.foldl cntF (l - s, a * 2 + 1)).2 = _
      rw [cnt_grd ss, Int.add_mul, Int.one_mul, Int.mul_assoc]
      omega
    · rw [if_neg c, if_neg c]
      show (ss.foldl cntF (l, a * 2)).2 = _
      rw [cnt_grd ss, Int.mul_assoc]
theorem bit_ge {c : Int} {n : Nat} (h0 : 2 ^ n ≤ c) (h1 : c < 2 ^ (n + 1)) : bit c n = 1 := by
  unfold bit
  rw [p2succ] at h1
  have hp := p2pos n
  have e : c / 2 ^ n = 1 := by
    have q1 : 1 ≤ c / 2 ^ n := Int.le_ediv_of_mul_le hp (by omega)
    have q2 : c / 2 ^ n < 2 := Int.ediv_lt_of_lt_mul hp (by omega)
    omega
  rw [e]
  rfl
theorem bit_lt {c : Int} {n : Nat} (h0 : 0 ≤ c) (h1 : c < 2 ^ n) : bit c n = 0 := by
  unfold bit
  rw [Int.ediv_eq_zero_of_lt h0 h1]
  rfl
theorem bit_low {c : Int} {n m : Nat} (h : n < m) : bit (2 ^ m + c) n = bit c n := by
  unfold bit
  have e : (2 : Int) ^ m = 2 ^ (m - n - 1) * 2 * 2 ^ n := by
    rw [← Int.pow_succ, ← Int.pow_add]
    congr 1
    omega
  have hp := p2pos n
  rw [e, Int.add_comm, Int.add_mul_ediv_right _ _ (by omega)]
  omega
theorem gp_low : ∀ {ss : List Int} {c : Int} {m : Nat}, ss.length ≤ m → gp ss (2 ^ m + c) = gp ss c
  | [], _, _, _ => rfl
  | s :: ss, c, m, h => by
    have h : ss.length + 1 ≤ m := h
    show (if bit (2 ^ m + c) ss.length = 1 then s else 0) + gp ss (2 ^ m + c) = (if bit c ss.length = 1 then s else 0) + gp ss c
    rw [bit_low (by omega), gp_low (by omega)]
theorem gp_bd : ∀ {ss : List Int} (c : Int), Dom ss → 0 ≤ gp ss c ∧ gp ss c ≤ ss.sum
  | [], _, _ => ⟨Int.le_refl 0, Int.le_refl 0⟩
  | s :: ss, c, h => by
    have := gp_bd c h.2.2
    have := h.1
    show 0 ≤ (if bit c ss.length = 1 then s else 0) + gp ss c ∧ (if bit c ss.length = 1 then s else 0) + gp ss c ≤ (s :: ss).sum
    rw [List.sum_cons]
    split <;> omega
theorem gp_le : ∀ {ss : List Int} {c l : Int}, Dom ss → 0 ≤ l → 0 ≤ c → c ≤ grd ss l → gp ss c ≤ l
  | [], _, _, _, h, _, _ => h
  | s :: ss, c, l, hd, hl, h0, hc => by
    have hc : c ≤ (if s ≤ l then 2 ^ ss.length + grd ss (l - s) else grd ss l) := hc
    have b1 := grd_bd ss l
    have b2 := grd_bd ss (l - s)
    show (if bit c ss.length = 1 then s else 0) + gp ss c ≤ l
    by_cases a : s ≤ l
    · rw [if_pos a] at hc
      by_cases b : 2 ^ ss.length ≤ c
      · rw [if_pos (bit_ge b (by rw [p2succ]; omega))]
        have e : c = 2 ^ ss.length + (c - 2 ^ ss.length) := by omega
        rw [e, gp_low (Nat.le_refl _)]
        have := gp_le (ss := ss) (c := c - 2 ^ ss.length) (l := l - s) hd.2.2 (by omega) (by omega) (by omega)
        omega
      · rw [bit_lt h0 (by omega), if_neg (by decide)]
        have := (gp_bd c hd.2.2).2
        have := hd.2.1
        omega
    · rw [if_neg a] at hc
      rw [bit_lt h0 (by omega), if_neg (by decide)]
      have := gp_le (ss := ss) (c := c) (l := l) hd.2.2 hl h0 hc
      omega
theorem near_le {least : Int} {ss : List Int} {num c : Int} (hd : Dom ss) (h0 : 0 ≤ c) (hc : c < cnt least ss num) : least + gp ss c ≤ num := by
  unfold cnt at hc
  by_cases a : num - least < 0
  · rw [if_pos a] at hc
    omega
  · rw [if_neg a, cnt_grd, Int.zero_mul, Int.zero_add] at hc
    have := gp_le (ss := ss) (c := c) (l := num - least) hd (by omega) h0 (by omega)
    omega
def enG (size top : Int) (p : Int × Int) : Int := size * 2 ^ (top - p.1).toNat - p.2
theorem dom_enG {size top : Int} (hs : 0 ≤ size) : ∀ (ws : List Int) (k : Int), k + (ws.length : Int) = top + 1 → (∀ w ∈ ws, 0 ≤ w ∧ w ≤ size) → Dom ((enI k ws).map (enG size top)) ∧ ((enI k ws).map (enG size top)).sum ≤ size * (2 ^ ws.length - 1)
  | [], _, _, _ => ⟨trivial, by
    show (0 : Int) ≤ size * (2 ^ 0 - 1)
    have : (2 : Int) ^ 0 = 1 := by decide
    rw [this]
    omega⟩
  | w :: ws, k, hk, hw => by
    rw [List.length_cons] at hk
    obtain ⟨a, b⟩ := dom_enG (top := top) hs ws (k + 1) (by omega) fun v hv => hw v (List.mem_cons_of_mem _ hv)
    have h1 := hw w List.mem_cons_self
    have e : (top - k).toNat = ws.length := by omega
    have hp := p2pos ws.length
    have q : size * 1 ≤ size * 2 ^ ws.length := Int.mul_le_mul_of_nonneg_left (by omega) hs
    have e2 : enG size top (k, w) = size * 2 ^ ws.length - w := by
      show size * 2 ^ (top - k).toNat - w = _
      rw [e]
    rw [Int.mul_sub] at b
    constructor
    · show 0 ≤ enG size top (k, w) ∧ ((enI (k + 1) ws).map (enG size top)).sum ≤ enG size top (k, w) ∧ Dom ((enI (k + 1) ws).map (enG size top))
      rw [e2]
      exact ⟨by omega, by omega, a⟩
    · show (enG size top (k, w) :: (enI (k + 1) ws).map (enG size top)).sum ≤ size * (2 ^ (ws.length + 1) - 1)
      rw [List.sum_cons, e2, p2succ, Int.mul_sub, Int.mul_left_comm]
      omega
theorem sum_bd {C : Int} : ∀ {xs : List Int}, (∀ x ∈ xs, 0 ≤ x ∧ x ≤ C) → 0 ≤ xs.sum ∧ xs.sum ≤ C * (xs.length : Int)
  | [], _ => ⟨Int.le_refl 0, by show (0 : Int) ≤ C * 0; omega⟩
  | x :: xs, h => by
    have h1 := h x List.mem_cons_self
    have h2 := sum_bd (xs := xs) fun y hy => h y (List.mem_cons_of_mem _ hy)
    rw [List.sum_cons, List.length_cons]
    have e : C * ((xs.length + 1 : Nat) : Int) = C * (xs.length : Int) + C := by
      rw [Int.natCast_add, Int.mul_add]
      show C * (xs.length : Int) + C * 1 = _
      omega
    rw [e]
    omega
def cgF (k : Str) (levels : Int) : Int × List Int := (1 * 2 ^ (cutLv k levels).toNat - 1 - (smF k (cutLv k levels) (cutLv k levels - 1)).1, (enI 1 ((smF k (cutLv k levels) (cutLv k levels - 1)).2 ++ [0])).map (enG (1 * 2 ^ (levels - cutLv k levels).toNat - 1) (cutLv k levels)))
structure CgOk (k : Str) (levels : Int) : Prop where
  l1 : 1 ≤ (cgF k levels).1
  l2 : (cgF k levels).1 ≤ 2 ^ levels.toNat
  len : ((cgF k levels).2.length : Int) = cutLv k levels
  dom : Dom (cgF k levels).2
  sm : (cgF k levels).2.sum ≤ 2 ^ levels.toNat
theorem enI_ln : ∀ (ns : List Int) (k : Int), (enI k ns).length = ns.length
  | [], _ => rfl
  | _ :: ns, k => congrArg (· + 1) (enI_ln ns (k + 1))
theorem cg_ok {k : Str} (hk : k ∈ cutK) {levels : Int} (h2 : 2 ≤ levels) : CgOk k levels := by
  obtain ⟨t1, t2, t3⟩ := cutLv_bd (k := k) h2
  have e : smF k (cutLv k levels) (cutLv k levels - 1) = sumR (cutLv k) (cutLv k levels).toNat (cutLv k levels) (cutLv k levels - 1) := if_pos hk
  have o := sumR_ok (top := cutLv k) (fun h h2 => ⟨(cutLv_bd h2).1, (cutLv_bd h2).2.1⟩) (cutLv k levels).toNat (cutLv k levels) (cutLv k levels - 1) (by omega) (by omega) (by omega)
  rw [← e] at o
  have hl : (((smF k (cutLv k levels) (cutLv k levels - 1)).2 ++ [0]).length : Int) = cutLv k levels := by
    have := o.len
    rw [List.length_append]
    show ((_ + 1 : Nat) : Int) = _
    omega
  have hz : (2 : Int) ^ (cutLv k levels - 1).toNat ≤ 2 ^ (levels - cutLv k levels).toNat := p2le (by omega)
  have hz2 : (2 : Int) ^ (cutLv k levels).toNat ≤ 2 ^ levels.toNat := p2le (by omega)
  have hp := p2pos (levels - cutLv k levels).toNat
  have d := dom_enG (size := 1 * 2 ^ (levels - cutLv k levels).toNat - 1) (top := cutLv k levels) (by omega) ((smF k (cutLv k levels) (cutLv k levels - 1)).2 ++ [0]) 1 (by omega) (by
    intro w hw
    rcases List.mem_append.mp hw with hw | hw
    · have := o.w0 w hw
      have := o.w1 w hw
      omega
    · have e0 : w = 0 := by simpa using hw
      omega)
  refine ⟨?_, ?_, ?_, d.1, ?_⟩
  · have := o.n1
    show 1 ≤ 1 * 2 ^ (cutLv k levels).toNat - 1 - (smF k (cutLv k levels) (cutLv k levels - 1)).1
    omega
  · have := o.n0
    show 1 * 2 ^ (cutLv k levels).toNat - 1 - (smF k (cutLv k levels) (cutLv k levels - 1)).1 ≤ _
    omega
  · show ((((enI 1 ((smF k (cutLv k levels) (cutLv k levels - 1)).2 ++ [0])).map (enG (1 * 2 ^ (levels - cutLv k levels).toNat - 1) (cutLv k levels))).length : Nat) : Int) = _
    rw [List.length_map, enI_ln]
    exact hl
  · refine Int.le_trans d.2 ?_
    have e3 : ((smF k (cutLv k levels) (cutLv k levels - 1)).2 ++ [0]).length = (cutLv k levels).toNat := by omega
    rw [e3]
    have e4 : (2 : Int) ^ levels.toNat = 2 ^ (levels - cutLv k levels).toNat * 2 ^ (cutLv k levels).toNat := by
      rw [← Int.pow_add]
      congr 1
      omega
    rw [e4]
    have hp2 := p2pos (cutLv k levels).toNat
    refine Int.le_trans (Int.mul_le_mul_of_nonneg_left (c := 1 * 2 ^ (levels - cutLv k levels).toNat - 1) (b := 2 ^ (cutLv k levels).toNat) (by omega) (by omega)) (Int.mul_le_mul_of_nonneg_right (by omega) (by omega))
end Q46
namespace Q46
open PySem L2
section
variable {X : Cx} {e o tg iter : Expr} {es : List Expr} {te ta to : TE} {t : TA} {pos p apos cpos tpos : Pos} {kk : Nat} {elts : List Expr}
theorem ix_listK (K : PySem.W.Frag) (hK : X.K = K := by rfl) : IxR X (rIxL K) := by subst hK; exact ix_list
theorem ix_tupK (K : PySem.W.Frag) (hK : X.K = K := by rfl) : IxR X (rIxT K) := by subst hK; exact ix_tup
theorem sl_listK (K : PySem.W.Frag) (hK : X.K = K := by rfl) : SlR X (rSlL K) := by subst hK; exact sl_list
theorem op_in_seqK (K : PySem.W.Frag) (hK : X.K = K := by rfl) : OpR X (compareOp .In) (rIn K false) := by subst hK; exact op_in_seq
theorem op_notIn_seqK (K : PySem.W.Frag) (hK : X.K = K := by rfl) : OpR X (compareOp .NotIn) (rIn K true) := by subst hK; exact op_notIn_seq
theorem op_eqDK (K : PySem.W.Frag) (hu : X.A.units + 64 < cLine) (hK : X.K = K := by rfl) : OpR X (compareOp .Eq) (rEqD K) := by subst hK; exact op_eqD hu
theorem op_neDK (K : PySem.W.Frag) (hu : X.A.units + 64 < cLine) (hK : X.K = K := by rfl) : OpR X (compareOp .NotEq) (rNeD K) := by subst hK; exact op_neD hu
theorem op_inDK (K : PySem.W.Frag) (hu : X.A.units + 65 < cLine) (hK : X.K = K := by rfl) : OpR X (compareOp .In) (rInD K) := by subst hK; exact op_inD hu
theorem cr_sumK (K : PySem.W.Frag) (hc : X.calm = true) (hK : X.K = K := by rfl) : CallR X (.builtin "sum") (rSum K) := by subst hK; exact cr_sum hc
theorem cr_minK' (K : PySem.W.Frag) (hc : X.calm = true) (hK : X.K = K := by rfl) : CallR X (.builtin "min") (rMin K) := by subst hK; exact cr_min hc
theorem cr_allK (K : PySem.W.Frag) (hc : X.calm = true) (hK : X.K = K := by rfl) : CallR X (.builtin "all") (rAll K) := by subst hK; exact cr_all hc
theorem call_lenK (K : PySem.W.Frag) (hK : X.K = K := by rfl) : CallR X (.builtin "len") (fun xs H Q => ∃ x n, xs = [x] ∧ LenV K x H n ∧ Q (.int n) H) := by subst hK; exact call_len
theorem call_isiK' (K : PySem.W.Frag) (hK : X.K = K := by rfl) : CallR X (.builtin "isinstance") (rIsi K) := by subst hK; exact call_isi
theorem call_list_ofK (K : PySem.W.Frag) (hK : X.K = K := by rfl) : CallR X (.type "list") (fun xs H Q => ∃ p ys, xs = [.ref p] ∧ (SqL K H p ys ∨ SqT K H p ys) ∧ ∀ l, H l = none → Q (.ref l) (upd H l (.lst ys))) := by subst hK; exact call_list_of
theorem pi_listK (K : PySem.W.Frag) {l : Expr} {tl : TE} (hl : PE X l tl) (hK : X.K = K := by rfl) : PI X tg l (iList K tl) := by subst hK; exact pi_list hl
theorem pi_tupK (K : PySem.W.Frag) {l : Expr} {tl : TE} (hl : PE X l tl) (hK : X.K = K := by rfl) : PI X tg l (iTup K tl) := by subst hK; exact pi_tup hl
theorem pi_enumK (K : PySem.W.Frag) (hg : Gl X "enumerate") (hm : X.mg "enumerate" = none) (ha : PA X [e] t) (hK : X.K = K := by rfl) (hs : starEach [e] X.env = [(false, eval e X.env)] := by rfl) :
    PI X (.Tuple elts kk tpos) (.Call (.Name "enumerate" p) [e] [] pos) (iEnum K t) := by subst hK; exact pi_enum hg hm ha hs
theorem pi_enumGK (K : PySem.W.Frag) {e2 : Expr} (hg : Gl X "enumerate") (hm : X.mg "enumerate" = none) (ha : PA X [e, e2] t) (hK : X.K = K := by rfl)
    (hs : starEach [e, e2] X.env = (false, eval e X.env) :: starEach [e2] X.env := by rfl) (hpl : (backTo pos (starEach [e2] X.env)).any (·.1) = false := by rfl) :
    PI X (.Tuple elts kk tpos) (.Call (.Name "enumerate" p) [e, e2] [] pos) (iEnumG K t) := by subst hK; exact pi_enumG hg hm ha hs hpl
theorem pi_zipGK (K : PySem.W.Frag) {e2 : Expr} (hg : Gl X "zip") (hm : X.mg "zip" = none) (ha : PA X [e, e2] t) (hK : X.K = K := by rfl)
    (hs : starEach [e, e2] X.env = (false, eval e X.env) :: starEach [e2] X.env := by rfl) (hpl : (backTo pos (starEach [e2] X.env)).any (·.1) = false := by rfl) :
    PI X (.Tuple elts kk tpos) (.Call (.Name "zip" p) [e, e2] [] pos) (iZipG K t) := by subst hK; exact pi_zipG hg hm ha hs hpl
theorem pg_tupK (K : PySem.W.Frag) {es : List Expr} {k : Nat} {t : TGs} {n : Nat} (hc : X.calm = true) (h : PGs X es t) (hK : X.K = K := by rfl)
    (hn : (assignEach es X.env).length = n := by rfl) (hst : (assignEach es X.env).findIdx? (·.1) = none := by rfl) : PG X (.Tuple es k pos) (gTup K n t) := by subst hK; exact pg_tup hc h hn hst
theorem pa_starK (K : PySem.W.Frag) (he : PE X e te) (hr : PA X es t) (hK : X.K = K := by rfl) (hs : starEach (.Starred e p :: es) X.env = (true, eval e X.env) :: starEach es X.env := by rfl) : PA X (.Starred e p :: es) (StX.tStar K te t) := by
  subst hK; exact StX.pa_star he hr hs
theorem pe_revLK (K : PySem.W.Frag) {k : Nat} {p1 p2 p3 : Pos} (he : PE X e te) (hK : X.K = K := by rfl) : PE X (.Subscript e (.Slice none none (some (.UnaryOp .USub (.Constant (.int 1) k p1) p2)) p3) pos) (tRevL K te) := by
  subst hK; exact pe_revL he
theorem pe_joinK (K : PySem.W.Frag) (ho : PE X o to) (he : PE X e te) (hK : X.K = K := by rfl) (hs : starEach [e] X.env = [(false, eval e X.env)] := by rfl) (hb : attributeBase o "join" X.env (eval o X.env) = eval o X.env := by rfl) (hl : (apos.endLine == pos.line) = true := by rfl) :
    PE X (.Call (.Attribute o "join" apos) [e] [] pos) (tM1 (fun x xs H Q => ∃ a p, ∃ ys : List Str, x = .str a ∧ xs = [.ref p] ∧ (SqL K H p (ys.map V.str) ∨ SqT K H p (ys.map V.str)) ∧ (ys.map (·.length)).sum + ys.length * a.length ≤ 16777216 ∧ Q (.str (Txt.join a ys)) H) to te) := by
  subst hK; exact pe_join ho he hs hb hl
theorem pe_appK (K : PySem.W.Frag) (ho : PE X o to) (he : PE X e te) (hK : X.K = K := by rfl)
    (hbase : attributeBase o "append" X.env (eval o X.env) = eval o X.env := by rfl)
    (hfew : ((backTo cpos (starEach [e] X.env)).all (fun x => !x.1) && (backToKw cpos (keywordEach [] X.env)).all (fun x => x.1.isSome)
      && decide (([e] : List Expr).length + ([] : List Keyword).length + (if ([] : List Keyword).isEmpty then 0 else 1) < 30)) = true := by rfl)
    (hline : (apos.endLine == cpos.line) = true := by rfl) (hs : starEach [e] X.env = (false, eval e X.env) :: starEach [] X.env := by rfl) :
    PE X (.Call (.Attribute o "append" apos) [e] [] cpos) (tBM K "list" rAppend to (tCons te tNil)) := by
  subst hK
  exact pe_bm PySem.F.plainAttrs_list PySem.F.slot_list_append PySem.F.type_list_append mt_append ho (pa_cons he pa_nil (hs := hs)) hbase hfew hline hs rfl
theorem pe_popK (K : PySem.W.Frag) (ho : PE X o to) (hK : X.K = K := by rfl) (hbase : attributeBase o "pop" X.env (eval o X.env) = eval o X.env := by rfl) (hline : (apos.endLine == cpos.line) = true := by rfl) :
    PE X (.Call (.Attribute o "pop" apos) [] [] cpos) (tBM0 K "list" rPop to) := by
  subst hK
  exact pe_bm0 PySem.F.plainAttrs_list PySem.F.slot_list_pop PySem.F.type_list_pop mt_pop ho hbase hline
theorem pe_fldK (K : PySem.W.Frag) {f : Str} (he : PE X e ta) (hb : attributeBase e f X.env (eval e X.env) = eval e X.env) (hK : X.K = K := by rfl) : PE X (.Attribute e f pos) (tFld K ta f) := by subst hK; exact pe_fld he hb
theorem ps_fldK (K : PySem.W.Frag) {f : Str} {value : Expr} {tv : TE} {pos' : Pos} (ha : PE X o ta) (hv : PE X value tv) (hs : swapsWith value (some (.Attribute o f pos')) pos.line X.env = pure false) (hK : X.K = K := by rfl) : PS X (.Assign [.Attribute o f pos'] value pos) (sFld K ta tv f) := by
  subst hK; exact ps_fld ha hv hs
theorem pg_fldK (K : PySem.W.Frag) {f : Str} (ha : PE X o ta) (hK : X.K = K := by rfl) (hs : ∀ v, assign (.Attribute o f pos) X.env v = (do
      let ov ← holding [v] (eval o X.env)
      standAt pos.atName
      holding [v, ov] (setAttr ov f v)
      release [v, ov] []) := by intro _; rfl) : PG X (.Attribute o f pos) (gFld K ta f) := by subst hK; exact pg_fld ha hs
theorem pe_kgetK (K : PySem.W.Frag) {w : World} {d : Addr} {es : Array DictEntry} {n : Nat} {td ty : TE} (D : KDict K w d es n) (ho : PE X o td) (he : PE X e ty) (m : M1 X o "get" apos e pos) (hK : X.K = K := by rfl) (hw : X.w = w := by rfl) :
    PE X (.Call (.Attribute o "get" apos) [e] [] pos) (tKGet K d td ty) := by subst hK; subst hw; exact pe_kget D ho he m
end
def Rt (K : PySem.W.Frag) (t : TS) (r : List QV) (d : PyData) : Prop := SD K t r (.rt d) ∨ (d = .none ∧ ∃ r1, SD K t r (.nx r1))
def Fn (P : Program) (w : World) (K : PySem.W.Frag) (mg : Str → Option Value) (base : Heap) (x : Str) (k : Nat) (ps : List Str) (Pre : List PyData → Prop) (Post : List PyData → PyData → Prop) : Prop :=
  ∃ F : List PyData → PyData, (∀ ds, Pre ds → Post ds (F ds)) ∧ Cal P w K mg base x k ps (spD K ps.length fun ds d => Pre ds ∧ d = F ds)
theorem mk_fn {P : Program} {w : World} {K : PySem.W.Frag} {mg : Str → Option Value} {base : Heap} {x nm : Str} {st : Stmt} {N ps : List Str} {k : Nat} {Pre : List PyData → Prop} {Post : List PyData → PyData → Prop}
    (D : Df K mg x nm st) (sc : FnScope N ps (defScope st)) (bd : ∀ (kV doc pm : Value) (an : Option Addr) (cdv ct : Value) (us : List Value), us.length = ps.length → bindArgs (PySem.W.fnOf nm nm (defArgs st) (defBody st) (defScope st) .none kV doc pm an cdv ct) ⟨us, []⟩ = pure (ps.zip us))
    (h : ∃ t, (∀ (cdv : Value) (A : Around) (outer : List Env) (s : Shared) (H : Hp) (E : XK) (f : Addr), Room k (A.deeper (PyProof.Rows.envOfC nm (defScope st) s.heap.objs.size f cdv)) → PSs (cxOf CX0 P w K mg base N nm (defScope st) f cdv A outer s H E).nox (defBody st) t) ∧
      ∀ ds, Pre ds → ∃ d, Post ds d ∧ Rt K t (ent N.length ds) d) : Fn P w K mg base x (k + 1) ps Pre Post := by
  classical
  obtain ⟨t, hT, hE⟩ := h
  obtain ⟨f, fd, F, hm⟩ := D
  have pick : ∀ ds, Pre ds → Post ds (if h : Pre ds then Classical.choose (hE ds h) else .none) ∧ Rt K t (ent N.length ds) (if h : Pre ds then Classical.choose (hE ds h) else .none) := fun ds h => by
    rw [dif_pos h]
    exact Classical.choose_spec (hE ds h)
  refine ⟨fun ds => if h : Pre ds then Classical.choose (hE ds h) else .none, fun ds h => (pick ds h).1, ⟨f, fd, ?_, hm, F.kp, F.bindsN bd⟩⟩
  refine F.ok sc (fun vs H Q E h => h.1) (fun cdv A outer s H vs Q E hr h => ⟨t, PSs.nox (hT cdv A outer s H E f hr), ?_⟩)
  obtain ⟨hl, G, ds, d, gh, hv, ⟨hp, rfl⟩, q⟩ := h
  rcases (pick ds hp).2 with a | ⟨e, r1, a⟩
  · exact sd_run gh hv q a
  · exact sd_runN gh hv (fun v G' H' g d1 => q v G' H' g (by
      show Dp K G' v (if h : Pre ds then Classical.choose (hE ds h) else .none)
      rw [e]
      exact d1)) a
end Q46
namespace Q46
open PySem L2
section
variable {K : PySem.W.Frag} {te ta tb : TE} {t u : TT} {r : List QV}
theorem dp_strsI {H : Hp} : ∀ {ns : List Str}, DpAll K H (ns.map V.str) (ns.map PyData.str)
  | [] => .nil
  | _ :: _ => .cons (.str _) dp_strsI
theorem use_fn {n : Nat} {Pre : List PyData → Prop} {Post : List PyData → PyData → Prop} {F : List PyData → PyData} (p : ∀ ds, Pre ds → Post ds (F ds)) (ds : List PyData) (hp : Pre ds) (hl : ds.length = n := by rfl) :
    ∃ z, Post ds z ∧ Spd K (spD K n fun ds d => Pre ds ∧ d = F ds) ds z := ⟨F ds, p ds hp, spd_of ⟨hp, rfl⟩ hl⟩
theorem et_orT (h : EvT K t r true) : EvT K (tOr t u) r true := et_is (et_or (m := true) h fun e => (Bool.noConfusion e)) rfl
theorem et_orF {k : Bool} (h : EvT K t r false) (h2 : EvT K u r k) : EvT K (tOr t u) r k := et_is (et_or h fun _ => h2) rfl
theorem et_andT {k : Bool} (h : EvT K t r true) (h2 : EvT K u r k) : EvT K (tAnd t u) r k := et_is (et_and h fun _ => h2) rfl
theorem et_andF (h : EvT K t r false) : EvT K (tAnd t u) r false := et_is (et_and (m := true) h fun e => (Bool.noConfusion e)) rfl
theorem et_notT (h : EvT K t r true) : EvT K (tNot t) r false := et_not h
theorem et_notF (h : EvT K t r false) : EvT K (tNot t) r true := et_not h
theorem ev_andT {k : Bool} (h : Ev K ta r (.bool true)) (h2 : Ev K tb r (.bool k)) : Ev K (tAndV ta tb) r (.bool k) := ev_andV h fun _ => h2
theorem ev_andF (h : Ev K ta r (.bool false)) : Ev K (tAndV ta tb) r (.bool false) := ev_andV (m := true) h fun e => (Bool.noConfusion e)
theorem ev_orF {k : Bool} (h : Ev K ta r (.bool false)) (h2 : Ev K tb r (.bool k)) : Ev K (tOrV ta tb) r (.bool k) := ev_orV h fun _ => h2
theorem ev_orT (h : Ev K ta r (.bool true)) : Ev K (tOrV ta tb) r (.bool true) := ev_orV (m := true) h fun e => (Bool.noConfusion e)
theorem ev_ifT {d : PyData} (h : EvT K t r true) (h1 : Ev K ta r d) : Ev K (tIf t ta tb) r d := ev_if h (fun _ => h1) fun e => (Bool.noConfusion e)
theorem ev_ifF {d : PyData} (h : EvT K t r false) (h1 : Ev K tb r d) : Ev K (tIf t ta tb) r d := ev_if h (fun e => (Bool.noConfusion e)) fun _ => h1
theorem ev_notT (h : Ev K ta r (.bool true)) : Ev K (tNotV ta) r (.bool false) := ev_notV h
theorem ev_notF (h : Ev K ta r (.bool false)) : Ev K (tNotV ta) r (.bool true) := ev_notV h
end
section
variable {w : World} {K : PySem.W.Frag} {mg : Str → Option Value} {r : List QV}
theorem ev_KINDS {B : Bt w K mg} : Ev K (tC (.ref B.p_KINDS)) r (.tuple (kinds.map .str)) := ev_kt B.t_KINDS fun _ => dp_strsI
theorem ev_CUT {B : Bt w K mg} : Ev K (tC (.ref B.p_CUT_KINDS)) r (.tuple (cutK.map .str)) := ev_kt B.t_CUT_KINDS fun _ => dp_strsI
theorem ev_CHANGES {B : Bt w K mg} : Ev K (tC (.ref B.p_CHANGES)) r (.tuple (changesT.map .str)) := ev_kt B.t_CHANGES fun _ => dp_strsI
end
theorem rt_nx {K : PySem.W.Frag} {t : TS} {r r1 : List QV} (h : SD K t r (.nx r1)) : Rt K t r .none := .inr ⟨rfl, r1, h⟩
theorem rt_ret {K : PySem.W.Frag} {t : TS} {r : List QV} {d : PyData} (h : SD K t r (.rt d)) : Rt K t r d := .inl h
theorem k_ii : kitB "int" "int" = some true := by decide +kernel
theorem k_ib : kitB "int" "bool" = some false := by decide +kernel
theorem k_tt : kitB "tuple" "tuple" = some true := by decide +kernel
theorem k_ss : kitB "str" "str" = some true := by decide +kernel
abbrev LI (ns : List Int) : PyData := .list (ns.map .int)
abbrev ND (d n : Int) : PyData := .tuple [.int d, .int n]
theorem li_inj {a b : List Int} (h : LI a = LI b) : a = b := by
  have h2 : a.map PyData.int = b.map PyData.int := PyData.list.inj h
  exact (List.map_inj_right (fun x y e => PyData.int.inj e)).mp h2
theorem dtr {p : Prop} [Decidable p] (h : p) : decide p = true := decide_eq_true h
theorem dfa {p : Prop} [Decidable p] (h : ¬ p) : decide p = false := decide_eq_false h
theorem and_tr {a b : Bool} (h1 : a = true) (h2 : b = true) : (a && b) = true := by rw [h1, h2]; rfl
theorem not_tr {a : Bool} (h1 : a = true) : (!a) = false := by rw [h1]; rfl
theorem not_fa {a : Bool} (h1 : a = false) : (!a) = true := by rw [h1]; rfl
section
variable {K : PySem.W.Frag} {te : TE} {r : List QV} {wi : TI} {g : TG} {tc : TT} {tb : TS} {vs : List Nat}
theorem evn_lcM {α : Type} {xs : List α} {e f : α → PyData} (hi : ItD K wi r (xs.map e)) (hl : xs.length ≤ 100000) (h : ∀ x ∈ xs, ∃ r1 js, GD K g (fgt r vs) (e x) r1 js ∧ (∀ j ∈ js, j ∈ vs) ∧ Ev K te r1 (f x)) : EvN K (tLc wi g tYes te vs) r (xs.map f) :=
  evn_lc hi (lk_map h) (by rw [List.length_map]; exact hl)
theorem evn_lcI {α : Type} {xs : List α} {e : α → PyData} {f : α → Int} (hi : ItD K wi r (xs.map e)) (hl : xs.length ≤ 100000) (h : ∀ x ∈ xs, ∃ r1 js, GD K g (fgt r vs) (e x) r1 js ∧ (∀ j ∈ js, j ∈ vs) ∧ Ev K te r1 (.int (f x))) : EvN K (tLc wi g tYes te vs) r ((xs.map f).map .int) :=
  evn_is (evn_lcM hi hl h) (by rw [List.map_map]; rfl)
theorem sd_matchS {tc : TC} {x : Str} {o : QO} (h : Ev K te r (.str x)) (hc : SD K (tc (.str x)) r o) : SD K (tMatch te tc) r o := sd_match h fun v hv => by
  cases hv (fun _ => none)
  exact hc
theorem sd_cStrT {x z : Str} {t : TS} {tr : TC} {o : QO} (e : x = z) (h : SD K t r o) : SD K (cStr z t tr (.str x)) r o := sd_cStr (by rw [if_pos e]; exact h)
theorem sd_cStrF {x z : Str} {t : TS} {tr : TC} {o : QO} (e : ¬ x = z) (h : SD K (tr (.str x)) r o) : SD K (cStr z t tr (.str x)) r o := sd_cStr (by rw [if_neg e]; exact h)
theorem wh_ex {S : Type} {fg : List Nat} (st : S → List QV) (c : S → Bool) (P : S → Prop) (mu : S → Nat)
    (hc : ∀ s, P s → EvT K tc (st s) (c s)) (hs : ∀ s, P s → c s = true → ∃ s', P s' ∧ mu s' < mu s ∧ ∃ r1, SD K tb (st s) (.go r1) ∧ fgt r1 fg = st s') :
    ∀ (n : Nat) (s : S), P s → mu s ≤ n → ∃ m s', Wh K tc tb fg m (st s) (.nx (st s')) ∧ P s' ∧ c s' = false
  | 0, s, hp, hm => by
    have h := hc s hp
    cases q : c s with
    | false =>
      rw [q] at h
      exact ⟨0, s, .done h, hp, q⟩
    | true =>
      obtain ⟨s', _, hlt, _⟩ := hs s hp q
      omega
  | n + 1, s, hp, hm => by
    have h := hc s hp
    cases q : c s with
    | false =>
      rw [q] at h
      exact ⟨0, s, .done h, hp, q⟩
    | true =>
      rw [q] at h
      obtain ⟨s', hp2, hlt, r1, a, b⟩ := hs s hp q
      obtain ⟨m, s2, w, w2⟩ := wh_ex st c P mu hc hs n s' hp2 (by omega)
      refine ⟨m + 1, s2, .step h a ?_, w2⟩
      rw [b]
      exact w
theorem sd_wex {S : Type} {u : TS} (fg : List Nat) (st : S → List QV) (c : S → Bool) (P : S → Prop) (mu : S → Nat) (s0 : S) (h0 : fgt r fg = st s0) (hp : P s0)
    (hc : ∀ s, P s → EvT K tc (st s) (c s)) (hs : ∀ s, P s → c s = true → ∃ s', P s' ∧ mu s' < mu s ∧ ∃ r1, SD K tb (st s) (.go r1) ∧ fgt r1 fg = st s') :
    ∃ s', P s' ∧ c s' = false ∧ ∀ {o : QO}, SD K u (st s') o → SD K (tSeq (tWhile tc tb) u) r o := by
  obtain ⟨m, s', w, hq, hf⟩ := wh_ex (K := K) (tc := tc) (tb := tb) (fg := fg) st c P mu hc hs (mu s0) s0 hp (Nat.le_refl _)
  refine ⟨s', hq, hf, fun h => sd_fgt fg ?_⟩
  rw [h0]
  exact sd_seq (sd_while w) h
end
theorem log_lt {x a : Nat} (h : x < 2 ^ a) : x.log2 ≤ a := by
  by_cases e : x = 0
  · subst e
    exact Nat.le_trans (by decide : Nat.log2 0 ≤ 0) (Nat.zero_le _)
  · exact Nat.le_of_lt ((Nat.log2_lt e).mpr h)
theorem div_ok {i j : Int} {a : Nat} (h0 : 0 < j) (h : j.natAbs < 2 ^ a) (ha : a ≤ 5000 := by decide) : CDivW i j := ⟨h0, by have := log_lt h; omega⟩
theorem div2_ok {i : Int} : CDivW i 2 := div_ok (a := 2) (by decide) (by decide)
def SE (K : PySem.W.Frag) (t : TS) (r : List QV) (R : PyData → Prop) : Prop := ∃ d, R d ∧ SD K t r (.rt d)
section
variable {K : PySem.W.Frag} {te : TE} {r r1 : List QV} {wi : TI} {g : TG} {tc : TT} {tb t u : TS} {R : PyData → Prop}
theorem rt_se {Post : List PyData → PyData → Prop} {ds : List PyData} (h : SE K t r (Post ds)) : ∃ d, Post ds d ∧ Rt K t r d := by
  obtain ⟨d, a, b⟩ := h
  exact ⟨d, a, .inl b⟩
theorem se_of {d : PyData} (h : SD K t r (.rt d)) (hR : R d) : SE K t r R := ⟨d, hR, h⟩
theorem se_ret {d : PyData} (h : Ev K te r d) (hR : R d) : SE K (tRet te) r R := ⟨d, hR, sd_ret h⟩
theorem se_seq (h1 : SD K t r (.nx r1)) (h2 : SE K u r1 R) : SE K (tSeq t u) r R := by
  obtain ⟨d, a, b⟩ := h2
  exact ⟨d, a, sd_seq h1 b⟩
theorem se_seqR (h1 : SE K t r R) : SE K (tSeq t u) r R := by
  obtain ⟨d, a, b⟩ := h1
  exact ⟨d, a, sd_seqR b⟩
theorem se_ifT (h : EvT K tc r true) (h2 : SE K t r R) : SE K (tIfS tc t u) r R := by
  obtain ⟨d, a, b⟩ := h2
  exact ⟨d, a, sd_ifT h b⟩
theorem se_ifF (h : EvT K tc r false) (h2 : SE K u r R) : SE K (tIfS tc t u) r R := by
  obtain ⟨d, a, b⟩ := h2
  exact ⟨d, a, sd_ifF h b⟩
theorem se_whl {S : Type} (fg : List Nat) (st : S → List QV) (c : S → Bool) (P : S → Prop) (mu : S → Nat) (s0 : S) (h0 : fgt r fg = st s0) (hp : P s0)
    (hc : ∀ s, P s → EvT K tc (st s) (c s)) (hs : ∀ s, P s → c s = true → ∃ s', P s' ∧ mu s' < mu s ∧ ∃ r1, SD K tb (st s) (.go r1) ∧ fgt r1 fg = st s')
    (rest : ∀ s', P s' → c s' = false → SE K u (st s') R) : SE K (tSeq (tWhile tc tb) u) r R := by
  obtain ⟨s', hp', hc', hT⟩ := sd_wex (K := K) (tc := tc) (tb := tb) (u := u) fg st c P mu s0 h0 hp hc hs
  obtain ⟨d, a, b⟩ := rest s' hp' hc'
  exact ⟨d, a, hT b⟩
theorem sd_whl {S : Type} {o : QO} (fg : List Nat) (st : S → List QV) (c : S → Bool) (P : S → Prop) (mu : S → Nat) (s0 : S) (h0 : fgt r fg = st s0) (hp : P s0)
    (hc : ∀ s, P s → EvT K tc (st s) (c s)) (hs : ∀ s, P s → c s = true → ∃ s', P s' ∧ mu s' < mu s ∧ ∃ r1, SD K tb (st s) (.go r1) ∧ fgt r1 fg = st s')
    (rest : ∀ s', P s' → c s' = false → SD K u (st s') o) : SD K (tSeq (tWhile tc tb) u) r o := by
  obtain ⟨s', hp', hc', hT⟩ := sd_wex (K := K) (tc := tc) (tb := tb) (u := u) fg st c P mu s0 h0 hp hc hs
  exact hT (rest s' hp' hc')
theorem se_for {S α : Type} (fg : List Nat) (st : S → List QV) (enc : α → PyData) (P : Nat → S → Prop) (xs : List α) (s0 : S) (h0 : fgt r fg = st s0) (hp : P 0 s0) (hi : ItD K wi (fgt r fg) (xs.map enc))
    (turn : ∀ j x s, j < xs.length → x ∈ xs → P j s → ∃ s', P (j + 1) s' ∧ ∃ r1 js r2, GD K g (st s) (enc x) r1 js ∧ SD K tb r1 (.go r2) ∧ fgt r2 fg = st s')
    (rest : ∀ s', P xs.length s' → SE K u (st s') R) : SE K (tSeq (tFor wi g tb) u) r R := by
  obtain ⟨s', hp', hT⟩ := sd_fex (o := .nx []) (K := K) (g := g) (tb := tb) (u := u) fg st enc P xs s0 h0 hp hi turn
  obtain ⟨d, a, b⟩ := rest s' hp'
  exact ⟨d, a, hT b⟩
theorem sd_forE {S α : Type} {o : QO} (fg : List Nat) (st : S → List QV) (enc : α → PyData) (P : Nat → S → Prop) (xs : List α) (s0 : S) (h0 : fgt r fg = st s0) (hp : P 0 s0) (hi : ItD K wi (fgt r fg) (xs.map enc))
    (turn : ∀ j x s, j < xs.length → x ∈ xs → P j s → ∃ s', P (j + 1) s' ∧ ∃ r1 js r2, GD K g (st s) (enc x) r1 js ∧ SD K tb r1 (.go r2) ∧ fgt r2 fg = st s')
    (rest : ∀ s', P xs.length s' → SD K u (st s') o) : SD K (tSeq (tFor wi g tb) u) r o := by
  obtain ⟨s', hp', hT⟩ := sd_fex (o := .nx []) (K := K) (g := g) (tb := tb) (u := u) fg st enc P xs s0 h0 hp hi turn
  exact hT (rest s' hp')
end
section
variable {K : PySem.W.Frag} {te : TE} {r r0 : List QV} {wi : TI} {g : TG} {tb u : TS} {R : PyData → Prop} {fg : List Nat} {α : Type}
theorem fr_first (enc : α → PyData) (good : α → Bool) : ∀ xs : List α, (∃ x ∈ xs, good x = true) → (∀ x ∈ xs, ∃ r1 js d r2, GD K g r0 (enc x) r1 js ∧ SD K tb r1 (if good x = true then .rt d else .go r2) ∧ (good x = true → R d) ∧ fgt r2 fg = r0) → ∃ z, R z ∧ Fr K g tb fg r0 (xs.map enc) (.rt z)
  | [], h, _ => by
    obtain ⟨x, hx, _⟩ := h
    cases hx
  | x :: xs, h, ht => by
    obtain ⟨r1, js, d, r2, h1, h2, h3, h4⟩ := ht x List.mem_cons_self
    by_cases c : good x = true
    · rw [if_pos c] at h2
      exact ⟨d, h3 c, .ret h1 h2⟩
    · rw [if_neg c] at h2
      obtain ⟨z, hz, f⟩ := fr_first enc good xs (by
        obtain ⟨y, hy, gy⟩ := h
        rcases List.mem_cons.mp hy with rfl | hy
        · exact absurd gy c
        · exact ⟨y, hy, gy⟩) fun y hy => ht y (List.mem_cons_of_mem _ hy)
      refine ⟨z, hz, .cons h1 h2 ?_⟩
      rw [h4]
      exact f
theorem se_first (fg : List Nat) (r0 : List QV) (enc : α → PyData) (good : α → Bool) (xs : List α) (h0 : fgt r fg = r0) (hi : ItD K wi r0 (xs.map enc)) (hx : ∃ x ∈ xs, good x = true) (ht : ∀ x ∈ xs, ∃ r1 js d r2, GD K g r0 (enc x) r1 js ∧ SD K tb r1 (if good x = true then .rt d else .go r2) ∧ (good x = true → R d) ∧ fgt r2 fg = r0) : SE K (tSeq (tFor wi g tb) u) r R := by
  obtain ⟨z, hz, f⟩ := fr_first (K := K) (g := g) (tb := tb) (fg := fg) (R := R) (r0 := r0) enc good xs hx ht
  refine ⟨z, hz, sd_fgt fg ?_⟩
  rw [h0]
  exact sd_seqR (sd_for hi f)
theorem it_enumI {ta : TA} {ns : List Int} (h : EvA K ta r [LI ns]) : ItD K (iEnum K ta) r ((enI 0 ns).map prD) := by
  have := it_enum h
  rw [enD_ints] at this
  exact this
theorem it_enumGI {ta : TA} {ns : List Int} {k : Int} (h : EvA K ta r [LI ns, .int k]) (h1 : -1000000 ≤ k ∧ k ≤ 1000000) : ItD K (iEnumG K ta) r ((enI k ns).map prD) := by
  have := it_enumG (SrcD.list (ns.map .int)) h h1
  rw [enD_ints] at this
  exact this
theorem enI_len : ∀ (ns : List Int) (k : Int), (enI k ns).length = ns.length
  | [], _ => rfl
  | _ :: ns, k => congrArg (· + 1) (enI_len ns (k + 1))
end
theorem fn_false {P : Program} {w : World} {K : PySem.W.Frag} {mg : Str → Option Value} {base : Heap} {x nm : Str} {st : Stmt} {N ps : List Str} {k : Nat} {Pre : List PyData → Prop} {Post : List PyData → PyData → Prop}
    (D : Df K mg x nm st) (sc : FnScope N ps (defScope st)) (bd : ∀ (kV doc pm : Value) (an : Option Addr) (cdv ct : Value) (us : List Value), us.length = ps.length → bindArgs (PySem.W.fnOf nm nm (defArgs st) (defBody st) (defScope st) .none kV doc pm an cdv ct) ⟨us, []⟩ = pure (ps.zip us))
    (h : ∀ ds, ¬ Pre ds) : Fn P w K mg base x (k + 1) ps Pre Post := by
  obtain ⟨f, fd, F, hm⟩ := D
  refine ⟨fun _ => .none, fun ds hp => absurd hp (h ds), ⟨f, fd, ?_, hm, F.kp, F.bindsN bd⟩⟩
  exact F.ok sc (fun vs H Q E h => h.1) (fun cdv A outer s H vs Q E hr h2 => by
    obtain ⟨hl, G, ds, d, gh, hv, ⟨hp, _⟩, q⟩ := h2
    exact absurd hp (h ds))
end Q46
namespace Q46
open PySem L2
section
variable {K : PySem.W.Frag} {ta tb te : TE} {r : List QV} {ds : List PyData} {e : PyData} {wi : TI} {g : TG} {tt : TT} {vs : List Nat}
theorem sd_asgOD {i j : Nat} (h : EvN K ta r ds) (h2 : Ev K tb r e) : SD K (tAsg (tTup (tCons ta (tCons tb tNil))) (gTup K 2 (gCons (gName i) (gCons (gName j) gNil)))) r (.nx ((r.set i (.own ds)).set j (.dat e))) := fun G0 H0 G σ H D l b f =>
  h G σ H l _ fun p vs G1 H1 g1 hp hg h1 d1 => h2 G1 σ H1 (l.gr g1) _ fun w G2 H2 g2 d2 => ⟨(by decide : 2 ≤ 16777216), fun T hT => by
    have g3 : Gr G2 H2 G2 (upd H2 T (.tup [.ref p, w])) := Gr.newH g2.gh hT
    have hne : p ≠ T := fun q => by
      subst q
      rw [g2.hh _ _ h1] at hT
      cases hT
    have h3 : (upd H2 T (.tup [.ref p, w])) p = some (.lst vs) := by
      unfold upd
      rw [if_neg hne]
      exact g2.hh _ _ h1
    obtain ⟨l3, b3⟩ := put_own (i := i) l b ((g1.trans g2).trans g3) hp ((g2.ag p _ h1).trans hg) h3 (dpa_mono g2.gg _ _ d1)
    exact ⟨T, [.ref p, w], rfl, .inl (.inl upd_same), rfl, .ref p, [w], rfl, w, [], rfl, rfl, f G2 _ _ (g1.gg.trans g2.gg) (l3.set d2) (b3.gd (gd_name (K := K) (d := e)) only_set)⟩⟩
theorem sd_parDO {i j : Nat} {es : List PyData} (h : Ev K ta r e) (h2 : EvN K tb r es) : SD K (tPar i j (tCons ta (tCons tb tNil))) r (.nx ((r.set i (.dat e)).set j (.own es))) := fun G0 H0 G σ H D l b f =>
  h G σ H l _ fun w G1 H1 g1 d1 => h2 G1 σ H1 (l.gr g1) _ fun p vs G2 H2 g2 hp hg h3 d2 => by
    have l1 := (l.gr g1).set (i := i) d1
    have b1 := (b.ev g1).gd (gd_name (K := K) (d := e) (i := i)) (only_set (x := some w))
    obtain ⟨l3, b3⟩ := put_own (i := j) l1 b1 g2 hp hg h3 d2
    exact ⟨_, _, rfl, f G2 _ H2 (g1.gg.trans g2.gg) l3 b3⟩
theorem lk_flt {α : Type} {e f : α → PyData} {p : α → Bool} : ∀ {xs : List α}, (∀ x ∈ xs, ∃ r1 js, GD K g r (e x) r1 js ∧ (∀ j ∈ js, j ∈ vs) ∧ EvT K tt r1 (p x) ∧ (p x = true → Ev K te r1 (f x))) → Lk K g tt te vs r (xs.map e) ((xs.filter p).map f)
  | [], _ => .nil
  | x :: xs, h => by
    obtain ⟨r1, js, a, b, c, d⟩ := h x List.mem_cons_self
    have ih := lk_flt (xs := xs) fun y hy => h y (List.mem_cons_of_mem _ hy)
    by_cases q : p x = true
    · have e2 : (x :: xs).filter p = x :: xs.filter p := List.filter_cons_of_pos q
      rw [e2]
      rw [q] at c
      exact .yes a b c (d q) ih
    · have e2 : (x :: xs).filter p = xs.filter p := List.filter_cons_of_neg q
      rw [e2]
      rw [Bool.not_eq_true] at q
      rw [q] at c
      exact .no a b c ih
theorem evn_lcFlt {α : Type} {xs : List α} {e f : α → PyData} {p : α → Bool} (hi : ItD K wi r (xs.map e)) (hl : xs.length ≤ 100000) (h : ∀ x ∈ xs, ∃ r1 js, GD K g (fgt r vs) (e x) r1 js ∧ (∀ j ∈ js, j ∈ vs) ∧ EvT K tt r1 (p x) ∧ (p x = true → Ev K te r1 (f x))) : EvN K (tLc wi g tt te vs) r ((xs.filter p).map f) :=
  evn_lc hi (lk_flt h) (by rw [List.length_map]; exact hl)
end
theorem zpD_ints : ∀ (as bs : List Int), zpD (as.map .int) (bs.map .int) = (as.zip bs).map prD
  | [], [] => rfl
  | [], _ :: _ => rfl
  | _ :: _, [] => rfl
  | a :: as, b :: bs => by
    show PyData.tuple [.int a, .int b] :: zpD (as.map .int) (bs.map .int) = _
    rw [zpD_ints as bs]
    rfl
def TB (C : Int) (ns : List Int) : Prop := ∀ x ∈ ns, -C ≤ x ∧ x ≤ C
theorem TB.sum {C : Int} (hC : 0 ≤ C) : ∀ {ns : List Int} {m : Nat}, TB C ns → ns.length ≤ m → -(C * m) ≤ ns.sum ∧ ns.sum ≤ C * m
  | [], m, _, _ => by
    have : 0 ≤ C * (m : Int) := Int.mul_nonneg hC (by omega)
    show -(C * m) ≤ 0 ∧ 0 ≤ C * (m : Int)
    omega
  | n :: ns, m, h, hl => by
    rw [List.length_cons] at hl
    have h1 := h n List.mem_cons_self
    have h2 := TB.sum hC (ns := ns) (m := m - 1) (fun x hx => h x (List.mem_cons_of_mem _ hx)) (by omega)
    have e : C * (m : Int) = C * ((m - 1 : Nat) : Int) + C := by
      have : (m : Int) = ((m - 1 : Nat) : Int) + 1 := by omega
      rw [this, Int.mul_add, Int.mul_one]
    rw [List.sum_cons, e]
    omega
theorem TB.mono {C D : Int} {ns : List Int} (h : TB C ns) (e : C ≤ D) : TB D ns := fun x hx => by
  have := h x hx
  omega
theorem TB.app {C : Int} {ns ms : List Int} (h : TB C ns) (h2 : TB C ms) : TB C (ns ++ ms) := fun x hx => by
  rcases List.mem_append.mp hx with a | a
  · exact h x a
  · exact h2 x a
theorem TB.cons {C x : Int} {ns : List Int} (h : -C ≤ x ∧ x ≤ C) (h2 : TB C ns) : TB C (x :: ns) := fun y hy => by
  rcases List.mem_cons.mp hy with rfl | a
  · exact h
  · exact h2 y a
theorem TB.one {C x : Int} (h : -C ≤ x ∧ x ≤ C) : TB C [x] := TB.cons h fun _ z => nomatch z
theorem tb_nil {C : Int} : TB C [] := fun _ z => nomatch z
theorem TB.sub {C : Int} {ns ms : List Int} (h : TB C ns) (h2 : ∀ x ∈ ms, x ∈ ns) : TB C ms := fun x hx => h x (h2 x hx)
theorem TB.set {C x : Int} {ns : List Int} (h : TB C ns) (h2 : -C ≤ x ∧ x ≤ C) (i : Nat) : TB C (ns.set i x) := fun y hy => by
  rcases List.mem_or_eq_of_mem_set hy with a | a
  · exact h y a
  · rw [a]
    exact h2
theorem cut_hi {α : Type} (xs : List α) {c : Int} (h0 : 0 ≤ c) : cutA xs none (some c) = xs.take c.toNat := by
  unfold cutA
  show List.take ((if c < 0 then (c + (xs.length : Int)).toNat else min c.toNat xs.length) - 0) (List.drop 0 xs) = _
  rw [if_neg (by omega), List.drop_zero, Nat.sub_zero]
  by_cases h : c.toNat ≤ xs.length
  · rw [Nat.min_eq_left h]
  · rw [Nat.min_eq_right (by omega), List.take_length, List.take_of_length_le (by omega)]
theorem cut_lo {α : Type} (xs : List α) {c : Int} (h0 : 0 ≤ c) (h1 : c ≤ xs.length) : cutA xs (some c) none = xs.drop c.toNat := by
  unfold cutA
  show List.take (xs.length - (if c < 0 then (c + (xs.length : Int)).toNat else min c.toNat xs.length)) (List.drop (if c < 0 then (c + (xs.length : Int)).toNat else min c.toNat xs.length) xs) = _
  rw [if_neg (by omega), Nat.min_eq_left (by omega), List.take_of_length_le]
  rw [List.length_drop]
  omega
theorem cut_mem {α : Type} {xs : List α} {lo hi : Option Int} {x : α} (h : x ∈ cutA xs lo hi) : x ∈ xs := List.mem_of_mem_drop (List.mem_of_mem_take h)
theorem cut_len {α : Type} {xs : List α} {lo hi : Option Int} : (cutA xs lo hi).length ≤ xs.length := by
  unfold cutA
  rw [List.length_take, List.length_drop]
  omega
theorem cut_map {α β : Type} (f : α → β) (xs : List α) (lo hi : Option Int) : cutA (xs.map f) lo hi = (cutA xs lo hi).map f := by
  unfold cutA
  rw [List.length_map, List.map_take, List.map_drop]
theorem ixN_in {n : Nat} {i : Int} (h0 : 0 ≤ i) (h1 : i < n) : ixN n i = some i.toNat := by
  unfold ixN
  rw [if_pos h0, if_pos h1]
theorem atI_in {α : Type} {xs : List α} {i : Int} (h0 : 0 ≤ i) (h1 : i < xs.length) : ∃ x, x ∈ xs ∧ xs[i.toNat]? = some x ∧ atI xs i = some x := by
  have hl : i.toNat < xs.length := by omega
  refine ⟨xs[i.toNat], List.getElem_mem _, List.getElem?_eq_getElem hl, ?_⟩
  unfold atI
  rw [ixN_in h0 h1]
  exact List.getElem?_eq_getElem hl
theorem atI_any {α : Type} {xs : List α} {i : Int} (h0 : -(xs.length : Int) ≤ i) (h1 : i < xs.length) : ∃ x, x ∈ xs ∧ atI xs i = some x := by
  by_cases h : 0 ≤ i
  · obtain ⟨x, a, _, b⟩ := atI_in h h1
    exact ⟨x, a, b⟩
  · have hl : (i + (xs.length : Int)).toNat < xs.length := by omega
    refine ⟨xs[(i + (xs.length : Int)).toNat], List.getElem_mem _, ?_⟩
    unfold atI ixN
    rw [if_neg h, if_pos h0]
    exact List.getElem?_eq_getElem hl
theorem atI_map {α β : Type} {f : α → β} {xs : List α} {i : Int} {x : α} (h : atI xs i = some x) : atI (xs.map f) i = some (f x) := by
  unfold atI at *
  rw [List.length_map]
  cases q : ixN xs.length i with
  | none =>
    rw [q] at h
    cases h
  | some j =>
    rw [q] at h
    have h2 : xs[j]? = some x := h
    show (xs.map f)[j]? = some (f x)
    rw [List.getElem?_map, h2]
    rfl
theorem rg_len0 {n : Int} : (rgI 0 n).length = n.toNat := by
  rw [rgI_len]
  congr 1
  omega
def SG (K : PySem.W.Frag) (t : TS) (r : List QV) (fg : List Nat) (T : List QV → Prop) : Prop := ∃ r2, T (fgt r2 fg) ∧ SD K t r (.go r2)
section
variable {K : PySem.W.Frag} {te : TE} {r r1 : List QV} {wi : TI} {g : TG} {tc : TT} {tb t u : TS} {fg : List Nat} {T : List QV → Prop}
theorem tg {S : Type} {st : S → List QV} {P : S → Prop} {d : PyData} {js : List Nat} (h1 : GD K g r d r1 js) (h : SG K tb r1 fg fun q => ∃ s', P s' ∧ q = st s') : ∃ s', P s' ∧ ∃ r1 js r2, GD K g r d r1 js ∧ SD K tb r1 (.go r2) ∧ fgt r2 fg = st s' := by
  obtain ⟨r2, ⟨s', hp, e⟩, h⟩ := h
  exact ⟨s', hp, r1, js, r2, h1, h, e⟩
theorem sg_seq (h1 : SD K t r (.nx r1)) (h2 : SG K u r1 fg T) : SG K (tSeq t u) r fg T := by
  obtain ⟨r2, a, b⟩ := h2
  exact ⟨r2, a, sd_seq h1 b⟩
theorem sg_of {r2 : List QV} (h : SD K t r (.nx r2)) (hT : T (fgt r2 fg)) : SG K t r fg T := ⟨r2, hT, sd_goN h⟩
theorem sg_ct {r2 : List QV} (h : SD K t r (.ct r2)) (hT : T (fgt r2 fg)) : SG K (tSeq t u) r fg T := ⟨r2, hT, sd_goC (sd_seqC h)⟩
theorem sg_ifT (h : EvT K tc r true) (h2 : SG K t r fg T) : SG K (tIfS tc t u) r fg T := by
  obtain ⟨d, a, b⟩ := h2
  exact ⟨d, a, sd_ifT h b⟩
theorem sg_ifF (h : EvT K tc r false) (h2 : SG K u r fg T) : SG K (tIfS tc t u) r fg T := by
  obtain ⟨d, a, b⟩ := h2
  exact ⟨d, a, sd_ifF h b⟩
theorem sg_frz {i : Nat} {ds : List PyData} (hi : r[i]? = some (.own ds)) (h : SG K t (r.set i (.dat (.list ds))) fg T) : SG K t r fg T := by
  obtain ⟨d, a, b⟩ := h
  exact ⟨d, a, sd_frz hi b⟩
theorem se_frz {i : Nat} {ds : List PyData} {R : PyData → Prop} (hi : r[i]? = some (.own ds)) (h : SE K t (r.set i (.dat (.list ds))) R) : SE K t r R := by
  obtain ⟨d, a, b⟩ := h
  exact ⟨d, a, sd_frz hi b⟩
theorem sg_fgt (is : List Nat) (h : SG K t (fgt r is) fg T) : SG K t r fg T := by
  obtain ⟨d, a, b⟩ := h
  exact ⟨d, a, sd_fgt is b⟩
theorem sg_for {S α : Type} (f2 : List Nat) (st : S → List QV) (enc : α → PyData) (P : Nat → S → Prop) (xs : List α) (s0 : S) (h0 : fgt r f2 = st s0) (hp : P 0 s0) (hi : ItD K wi (fgt r f2) (xs.map enc))
    (turn : ∀ j x s, j < xs.length → x ∈ xs → P j s → ∃ s', P (j + 1) s' ∧ ∃ r1 js r2, GD K g (st s) (enc x) r1 js ∧ SD K tb r1 (.go r2) ∧ fgt r2 f2 = st s')
    (rest : ∀ s', P xs.length s' → SG K u (st s') fg T) : SG K (tSeq (tFor wi g tb) u) r fg T := by
  obtain ⟨s', hp', hT⟩ := sd_fex (o := .nx []) (K := K) (g := g) (tb := tb) (u := u) f2 st enc P xs s0 h0 hp hi turn
  obtain ⟨d, a, b⟩ := rest s' hp'
  exact ⟨d, a, hT b⟩
theorem sg_forL {S α : Type} (f2 : List Nat) (st : S → List QV) (enc : α → PyData) (P : Nat → S → Prop) (xs : List α) (s0 : S) (h0 : fgt r f2 = st s0) (hp : P 0 s0) (hi : ItD K wi (fgt r f2) (xs.map enc))
    (turn : ∀ j x s, j < xs.length → x ∈ xs → P j s → ∃ s', P (j + 1) s' ∧ ∃ r1 js r2, GD K g (st s) (enc x) r1 js ∧ SD K tb r1 (.go r2) ∧ fgt r2 f2 = st s')
    (rest : ∀ s', P xs.length s' → T (fgt (st s') fg)) : SG K (tFor wi g tb) r fg T := by
  obtain ⟨s', hq, fr⟩ := fr_ex (K := K) (g := g) (tb := tb) (fg := f2) st enc P xs 0 s0 hp fun j x s _ hl hx => turn j x s (by omega) hx
  rw [Nat.zero_add] at hq
  rw [h0] at hi
  refine ⟨_, rest s' hq, sd_goN (sd_fgt f2 ?_)⟩
  rw [h0]
  exact sd_for hi fr
theorem sg_whl {S : Type} (f2 : List Nat) (st : S → List QV) (c : S → Bool) (P : S → Prop) (mu : S → Nat) (s0 : S) (h0 : fgt r f2 = st s0) (hp : P s0)
    (hc : ∀ s, P s → EvT K tc (st s) (c s)) (hs : ∀ s, P s → c s = true → ∃ s', P s' ∧ mu s' < mu s ∧ ∃ r1, SD K tb (st s) (.go r1) ∧ fgt r1 f2 = st s')
    (rest : ∀ s', P s' → c s' = false → SG K u (st s') fg T) : SG K (tSeq (tWhile tc tb) u) r fg T := by
  obtain ⟨s', hp', hc', hT⟩ := sd_wex (K := K) (tc := tc) (tb := tb) (u := u) f2 st c P mu s0 h0 hp hc hs
  obtain ⟨d, a, b⟩ := rest s' hp' hc'
  exact ⟨d, a, hT b⟩
end
theorem sg_asgE {K : PySem.W.Frag} {te : TE} {r : List QV} {u : TS} {fg : List Nat} {T : List QV → Prop} {i : Nat} {R : Int → Prop} (h : ∃ s0, R s0 ∧ Ev K te r (.int s0)) (h2 : ∀ s0, R s0 → SG K u (r.set i (.dat (.int s0))) fg T) : SG K (tSeq (tAsg te (gName i)) u) r fg T := by
  obtain ⟨s0, hR, hE⟩ := h
  exact sg_seq (sd_asg hE gd_name) (h2 s0 hR)
def gtI (ns : List Int) (i : Int) : Int := (atI ns i).getD 0
theorem gtI_any {ns : List Int} {i : Int} (h0 : -(ns.length : Int) ≤ i) (h1 : i < ns.length) : atI (ns.map PyData.int) i = some (.int (gtI ns i)) ∧ gtI ns i ∈ ns := by
  obtain ⟨x, hx, e⟩ := atI_any h0 h1
  have e2 : gtI ns i = x := by
    unfold gtI
    rw [e]
    rfl
  rw [e2]
  exact ⟨atI_map e, hx⟩
theorem divP_ok {i j : Int} (h0 : 0 < j) (h : j.natAbs < 2 ^ 30) : CDivP i j := by
  refine ⟨h0, ?_⟩
  unfold Builtin.divisionGoesByPylong
  have hl := log_lt h
  have q : ¬ ((if (j == 0) = true then 0 else j.natAbs.log2 / 30 + 1) > 300) := by
    split <;> omega
  exact Bool.and_eq_false_iff.mpr (.inl (decide_eq_false q))
theorem abs_mul {x y a b : Int} (h1 : -a ≤ x ∧ x ≤ a) (h2 : -b ≤ y ∧ y ≤ b) : -(a * b) ≤ x * y ∧ x * y ≤ a * b := by
  have q : (x * y).natAbs ≤ (a * b).natAbs := by
    rw [Int.natAbs_mul, Int.natAbs_mul]
    exact Nat.mul_le_mul (by omega) (by omega)
  have : 0 ≤ a * b := Int.mul_nonneg (by omega) (by omega)
  omega
theorem cnt_set : ∀ {bs : List Bool} {i : Nat}, bs[i]? = some false → (bs.set i true).count false + 1 = bs.count false
  | [], _, h => by cases h
  | b :: bs, 0, h => by
    have e : b = false := by simpa using h
    subst e
    show (true :: bs).count false + 1 = _
    rw [List.count_cons_of_ne (by decide), List.count_cons_self]
  | b :: bs, i + 1, h => by
    have h2 : bs[i]? = some false := by simpa using h
    show (b :: bs.set i true).count false + 1 = _
    have ih := cnt_set h2
    cases b with
    | false => rw [List.count_cons_self, List.count_cons_self]; omega
    | true => rw [List.count_cons_of_ne (by decide), List.count_cons_of_ne (by decide)]; omega
theorem sg_fold {K : PySem.W.Frag} {r : List QV} {wi : TI} {g : TG} {tb u : TS} {fg : List Nat} {T : List QV → Prop} {S α : Type} (f2 : List Nat) (st : S → List QV) (enc : α → PyData) (step : S → α → S) (P : Nat → S → Prop) (xs : List α) (s0 : S) (h0 : fgt r f2 = st s0) (hp : P 0 s0) (hi : ItD K wi (fgt r f2) (xs.map enc))
    (turn : ∀ j x s, j < xs.length → x ∈ xs → P j s → P (j + 1) (step s x) ∧ ∃ r1 js r2, GD K g (st s) (enc x) r1 js ∧ SD K tb r1 (.go r2) ∧ fgt r2 f2 = st (step s x))
    (rest : SG K u (st (xs.foldl step s0)) fg T) : SG K (tSeq (tFor wi g tb) u) r fg T := by
  obtain ⟨r2, a, b⟩ := rest
  exact ⟨r2, a, sd_fold f2 st enc step P xs s0 h0 hp hi turn fun _ => b⟩
def gpS (c N : Int) (g : Int) (p : Int × Int) : Int := if Builtin.bitAnd (c / 2 ^ (N - 1 - p.1).toNat) 1 = 1 then g + p.2 else g
theorem gpS_gp (c N : Int) : ∀ (ss : List Int) (k g : Int), k + (ss.length : Int) = N → (enI k ss).foldl (gpS c N) g = g + gp ss c
  | [], _, g, _ => (Int.add_zero g).symm
  | s :: ss, k, g, h => by
    rw [List.length_cons] at h
    show (enI (k + 1) ss).foldl (gpS c N) (gpS c N g (k, s)) = g + ((if bit c ss.length = 1 then s else 0) + gp ss c)
    rw [gpS_gp c N ss (k + 1) _ (by omega)]
    have e : (N - 1 - k).toNat = ss.length := by omega
    have e2 : gpS c N g (k, s) = g + (if bit c ss.length = 1 then s else 0) := by
      unfold gpS bit
      dsimp only
      rw [e, PyProof.Rows.bitAnd_m1]
      split <;> omega
    rw [e2]
    omega
theorem cnt_bd (l : Int) (ss : List Int) (n : Int) : 0 ≤ cnt l ss n ∧ cnt l ss n ≤ 2 ^ ss.length := by
  unfold cnt
  have := p2pos ss.length
  split
  · omega
  · rw [cnt_grd, Int.zero_mul, Int.zero_add]
    have := grd_bd ss (n - l)
    omega
end Q46
section
set_option exponentiation.threshold 5000
namespace Q46
open PySem PySem.NumText
def cp (x : Str) : List Nat := x.cps.toList
def mk (l : List Nat) : Str := ⟨l.toArray⟩
theorem cp_mk (l : List Nat) : cp (mk l) = l := rfl
theorem mk_cp (x : Str) : mk (cp x) = x := by
  unfold mk cp
  rw [Array.toArray_toList]
theorem str_ext {a b : Str} (h : cp a = cp b) : a = b := by rw [← mk_cp a, ← mk_cp b, h]
theorem cp_app (a b : Str) : cp (a ++ b) = cp a ++ cp b := by
  show (a ++ b).cps.toList = _
  rw [Str.cps_append, Array.toList_append]
  rfl
theorem len_cp (a : Str) : a.length = (cp a).length := by
  show a.cps.size = a.cps.toList.length
  rw [Array.length_toList]
theorem app_assoc (a b c : Str) : a ++ b ++ c = a ++ (b ++ c) := str_ext (by rw [cp_app, cp_app, cp_app, cp_app, List.append_assoc])
theorem jn_eq (s : Str) (ws : List Str) : Txt.join s ws = Str.join s ws := StrLaws.glued_eq_join s ws
theorem app_cons_inj {c : Nat} : ∀ {a b x y : List Nat}, c ∉ a → c ∉ b → a ++ c :: x = b ++ c :: y → a = b ∧ x = y
  | [], [], _, _, _, _, h => ⟨rfl, (List.cons.inj h).2⟩
  | [], b :: bs, _, _, _, hb, h => absurd ((List.cons.inj h).1 ▸ List.mem_cons_self) hb
  | a :: as, [], _, _, ha, _, h => absurd ((List.cons.inj h).1.symm ▸ List.mem_cons_self) ha
  | a :: as, b :: bs, x, y, ha, hb, h => by
    obtain ⟨e1, e2⟩ := List.cons.inj h
    obtain ⟨e3, e4⟩ := app_cons_inj (c := c) (fun z => ha (List.mem_cons_of_mem _ z)) (fun z => hb (List.mem_cons_of_mem _ z)) e2
    exact ⟨by rw [e1, e3], e4⟩
theorem cp_join2 (c : Nat) (x y : Str) (r : List Str) : cp (Str.join ⟨#[c]⟩ (x :: y :: r)) = cp x ++ c :: cp (Str.join ⟨#[c]⟩ (y :: r)) := by
  show cp (x ++ ⟨#[c]⟩ ++ Str.join ⟨#[c]⟩ (y :: r)) = _
  rw [cp_app, cp_app, List.append_assoc]
  rfl
theorem join_inj {c : Nat} : ∀ {as bs : List Str}, as ≠ [] → bs ≠ [] → (∀ w ∈ as, c ∉ cp w) → (∀ w ∈ bs, c ∉ cp w) → Str.join ⟨#[c]⟩ as = Str.join ⟨#[c]⟩ bs → as = bs
  | [], _, h, _, _, _, _ => absurd rfl h
  | _, [], _, h, _, _, _ => absurd rfl h
  | [a], [b], _, _, _, _, h => by
    have h2 : a = b := h
    rw [h2]
  | [a], b :: b2 :: bs, _, _, ha, _, h => by
    have h2 := congrArg cp h
    rw [cp_join2] at h2
    have h3 : cp a = cp b ++ c :: cp (Str.join ⟨#[c]⟩ (b2 :: bs)) := h2
    exact absurd (h3 ▸ (by simp)) (ha a List.mem_cons_self)
  | a :: a2 :: as, [b], _, _, _, hb, h => by
    have h2 := congrArg cp h
    rw [cp_join2] at h2
    have h3 : cp a ++ c :: cp (Str.join ⟨#[c]⟩ (a2 :: as)) = cp b := h2
    exact absurd (h3 ▸ (by simp)) (hb b List.mem_cons_self)
  | a :: a2 :: as, b :: b2 :: bs, _, _, ha, hb, h => by
    have h2 := congrArg cp h
    rw [cp_join2, cp_join2] at h2
    obtain ⟨e1, e2⟩ := app_cons_inj (ha a List.mem_cons_self) (hb b List.mem_cons_self) h2
    have e3 := join_inj (as := a2 :: as) (bs := b2 :: bs) (by simp) (by simp) (fun w hw => ha w (List.mem_cons_of_mem _ hw)) (fun w hw => hb w (List.mem_cons_of_mem _ hw)) (str_ext e2)
    rw [str_ext e1, e3]
theorem split_join {ws : List Str} (h : ws ≠ []) (hf : ∀ w ∈ ws, 32 ∉ cp w) : Txt.split (Str.join (Str.ofString " ") ws) (Str.ofString " ") = ws := by
  have e : Str.ofString " " = ⟨#[32]⟩ := by decide +kernel
  rw [e]
  apply join_inj (c := 32)
  · intro z
    have := PyProof.Rows.split_pos (Str.join ⟨#[32]⟩ ws) ⟨#[32]⟩
    rw [z] at this
    exact absurd this (by decide)
  · exact h
  · exact StrLaws.split_free _ 32
  · exact hf
  · exact StrLaws.join_split _ _
def tx (n : Int) : Str := Str.ofString (toString n)
theorem tx_cp {n : Int} (h : 0 ≤ n) : cp (tx n) = (Nat.toDigits 10 n.toNat).map Char.toNat := by
  obtain ⟨m, rfl⟩ : ∃ m : Nat, n = (m : Int) := ⟨n.toNat, by omega⟩
  exact PySem.W.KIN.signs_num m
theorem tx_dig {n : Int} (h : 0 ≤ n) : AllDigits (cp (tx n)) := by
  intro c hc
  rw [tx_cp h] at hc
  obtain ⟨ch, hch, e⟩ := List.mem_map.mp hc
  have r := PyProof.Rows.digit_range (Nat.isDigit_of_mem_toDigits (by decide) (by decide) hch)
  rw [← e]
  exact r
theorem tx_ne {n : Int} (h : 0 ≤ n) : cp (tx n) ≠ [] := by
  rw [tx_cp h]
  intro e
  have h := toDigits_len_ge 10 n.toNat
  rw [List.map_eq_nil_iff.mp e] at h
  exact absurd h (by decide)
theorem tx_len {n : Int} (h : 0 ≤ n) (h1 : n < 10 ^ 100) : (tx n).length ≤ 100 := PyProof.Rows.toString_length_le h (by decide) h1
theorem tx_len2 {n : Int} (h : n.natAbs < 10 ^ 600) : (tx n).length ≤ 601 := by
  have := int_text_length_le10 (k := 600) (by decide) h
  show (Str.ofString (toString n)).length ≤ 601
  rw [ofString_length]
  exact this
theorem tx_free {n : Int} : 32 ∉ cp (tx n) := fun h => (PyProof.Rows.intText_free_32 n).mp h
theorem tx_int {n : Int} (h : 0 ≤ n) (h1 : n < 10 ^ 100) : intText? (tx n) = some n := by
  have e := intText_digits (tx_dig h) (tx_ne h) (Nat.le_trans (tx_len h h1) (by decide))
  rw [e]
  have e2 : (tx n).cps.toList = cp (tx n) := rfl
  rw [e2, tx_cp h, PySem.W.KIN.val_back]
  congr 1
  omega
theorem dig_head (m : Nat) (hm : m ≠ 0) : ∃ c r, (Nat.toDigits 10 m).map Char.toNat = c :: r ∧ c ≠ 48 := by
  induction m using Nat.strongRecOn with
  | _ m ih =>
    by_cases h : m < 10
    · rw [Nat.toDigits_of_lt_base h]
      refine ⟨_, _, rfl, ?_⟩
      have : ∀ d : Nat, d < 10 → d ≠ 0 → (Nat.digitChar d).toNat ≠ 48 := by decide
      exact this m h hm
    · have hm10 : m % 10 < 10 := Nat.mod_lt m (by decide)
      have t : Nat.toDigits 10 (m / 10) ++ Nat.toDigits 10 (m % 10) = Nat.toDigits 10 (10 * (m / 10) + m % 10) := Nat.toDigits_append_toDigits (by decide) (by omega) hm10
      rw [Nat.div_add_mod] at t
      obtain ⟨c, r, e, hc⟩ := ih (m / 10) (by omega) (by omega)
      refine ⟨c, r ++ (Nat.toDigits 10 (m % 10)).map Char.toNat, ?_, hc⟩
      rw [← t, List.map_append, e]
      rfl
theorem tx_zero : tx 0 = Str.ofString "0" := by decide +kernel
theorem tx_head {n : Int} (h : 0 ≤ n) : ∃ c r, cp (tx n) = c :: r ∧ (48 ≤ c ∧ c ≤ 57) ∧ (c = 48 → n = 0) := by
  have hd := tx_dig h
  by_cases e : n = 0
  · subst e
    rw [tx_zero]
    exact ⟨48, [], by decide +kernel, by decide, fun _ => rfl⟩
  · obtain ⟨c, r, e2, hc⟩ := dig_head n.toNat (by omega)
    rw [← tx_cp h] at e2
    refine ⟨c, r, e2, hd c (e2 ▸ List.mem_cons_self), fun z => absurd z hc⟩
def sgn (d n s : Int) : Nat := if n / 2 ^ (d - 1 - s).toNat % 2 = 1 then 82 else 76
def wordF (d n : Int) : Str := if d = 0 then Str.ofString "-" else mk ((rgI 0 d).map (sgn d n))
def decF (a : Int) (c : Nat) : Int := 2 * a + (if c = 82 then 1 else 0)
def nodeF (w : Str) : PyData := if w = Str.ofString "-" then .tuple [.int 0, .int 0] else .tuple [.int (w.length : Int), .int ((cp w).foldl decF 0)]
theorem dec_sgn {d n : Int} (h0 : 0 ≤ n) : ∀ (m : Nat) (k : Int), 0 ≤ k → k + (m : Int) = d → ((rgI k d).map (sgn d n)).foldl decF (n / 2 ^ (d - k).toNat) = n
  | 0, k, hk, h => by
    have e : k = d := by omega
    subst e
    rw [rgI_nil (Int.le_refl _)]
    show n / 2 ^ (k - k).toNat = n
    have : (k - k).toNat = 0 := by omega
    rw [this]
    exact Int.ediv_one n
  | m + 1, k, hk, h => by
    rw [rgI_cons (by omega)]
    show ((rgI (k + 1) d).map (sgn d n)).foldl decF (decF (n / 2 ^ (d - k).toNat) (sgn d n k)) = n
    have e : decF (n / 2 ^ (d - k).toNat) (sgn d n k) = n / 2 ^ (d - (k + 1)).toNat := by
      unfold decF sgn
      have e1 : (d - k).toNat = (d - (k + 1)).toNat + 1 := by omega
      have e2 : (d - 1 - k).toNat = (d - (k + 1)).toNat := by omega
      rw [e1, e2]
      have e3 : n / 2 ^ ((d - (k + 1)).toNat + 1) = n / 2 ^ (d - (k + 1)).toNat / 2 := by
        rw [Int.pow_succ, Int.ediv_ediv_of_nonneg (Int.le_of_lt (p2pos _))]
      rw [e3]
      generalize n / 2 ^ (d - (k + 1)).toNat = q
      by_cases c : q % 2 = 1
      · rw [if_pos c, if_pos rfl]
        omega
      · rw [if_neg c, if_neg (by decide)]
        omega
    rw [e]
    exact dec_sgn h0 m (k + 1) (by omega) (by omega)
theorem wordF_cp {d n : Int} (h : d ≠ 0) : cp (wordF d n) = (rgI 0 d).map (sgn d n) := by
  unfold wordF
  rw [if_neg h]
  rfl
theorem wordF_len {d n : Int} (h0 : 0 ≤ d) (h : d ≠ 0) : ((wordF d n).length : Int) = d := by
  rw [len_cp, wordF_cp h, List.length_map, rg_len0]
  omega
theorem wordF_ne {d n : Int} (h0 : 0 ≤ d) (h : d ≠ 0) : wordF d n ≠ Str.ofString "-" := by
  intro e
  have e2 := congrArg cp e
  rw [wordF_cp h] at e2
  have e3 : cp (Str.ofString "-") = [45] := by decide +kernel
  rw [e3, rgI_cons (by omega)] at e2
  have e4 := (List.cons.inj e2).1
  unfold sgn at e4
  split at e4 <;> exact absurd e4 (by decide)
theorem nodeF_wordF {d n : Int} (h0 : 0 ≤ d) (h1 : 0 ≤ n) (h2 : n < 2 ^ d.toNat) : nodeF (wordF d n) = .tuple [.int d, .int n] := by
  by_cases e : d = 0
  · subst e
    have : n = 0 := by
      have : (2 : Int) ^ (0 : Int).toNat = 1 := by decide
      omega
    subst this
    exact if_pos (if_pos rfl)
  · unfold nodeF
    rw [if_neg (wordF_ne h0 e), wordF_len h0 e, wordF_cp e]
    have q := dec_sgn (d := d) h1 d.toNat 0 (Int.le_refl 0) (by omega)
    have e0 : n / 2 ^ (d - 0).toNat = 0 := by
      have : (d - 0).toNat = d.toNat := by omega
      rw [this]
      exact Int.ediv_eq_zero_of_lt h1 h2
    rw [e0] at q
    rw [q]
theorem wordF_free {d n : Int} : 32 ∉ cp (wordF d n) := by
  unfold wordF
  split
  · decide +kernel
  · rw [cp_mk]
    intro h
    obtain ⟨s, _, e⟩ := List.mem_map.mp h
    unfold sgn at e
    split at e <;> exact absurd e (by decide)
theorem join_mk (c : Int → Nat) : ∀ xs : List Int, Txt.join (Str.ofString "") (xs.map fun x => (⟨#[c x]⟩ : Str)) = mk (xs.map c)
  | [] => by
    rw [jn_eq]
    rfl
  | [x] => by
    rw [jn_eq]
    rfl
  | x :: y :: r => by
    have ih := join_mk c (y :: r)
    rw [jn_eq] at *
    show (⟨#[c x]⟩ : Str) ++ Str.ofString "" ++ Str.join (Str.ofString "") ((y :: r).map fun x => (⟨#[c x]⟩ : Str)) = _
    rw [ih]
    apply str_ext
    rw [cp_app, cp_app]
    have : cp (Str.ofString "") = [] := by decide +kernel
    rw [this]
    rfl
end Q46
end
namespace Q46
open PySem L2
local macro_rules | `(tactic| walk_at "sc") => `(tactic| first
  | assumption | omega | decide | exact div2_ok | exact shl1_ok (by omega) (by omega) | (dsimp only; omega) | (simp only [List.length_cons, List.length_nil]; omega))
local macro_rules | `(tactic| walk_at "ev") => `(tactic| first
  | exact ev_var rfl | exact ev_int | exact ev_str | exact ev_bl | exact ev_non | exact ea_nil | exact gd_name | exact gds_nil | exact et_yes | exact eo_none
  | exact rd_I0 | exact rd_B0 | exact rd_eqI | exact rd_neI | exact rd_eqS | exact rd_neS | exact rd_ip | exact ru_neg | exact rd_inT | exact rd_niT | exact rd_inS | exact rd_isNI | exact rd_isNS | exact rd_isNN | exact rd_notNI
  | exact ev_KINDS | exact ev_CUT | exact ev_CHANGES
  | (apply rd_I; walk_at "sc")
  | (apply ea_cons; (walk_at "ev"); (walk_at "ev"))
  | (apply ev_op; (walk_at "ev"); (walk_at "ev"); (walk_at "ev"))
  | (apply ev_un; (walk_at "ev"); (walk_at "ev"))
  | (apply ev_tup; (walk_at "ev"); (walk_at "sc"))
  | (apply gds_cons; (walk_at "ev"); (walk_at "ev"))
  | (apply gd_tup; (walk_at "ev"); rfl)
  | (apply ev_call; (walk_at "ev"); assumption)
  | (apply ev_cb; (walk_at "ev"); (walk_at "ev"))
  | (apply et_test; walk_at "ev")
  | (apply et_B; walk_at "ev")
  | (apply et_not; walk_at "ev")
  | (apply eo_some; walk_at "ev")
  | (apply ev_chain; (walk_at "ev"); (walk_at "ev"); (walk_at "ev"))
  | exact rc_lenL | exact rc_lenT | (apply rc_lenS; walk_at "sc") | exact rc_intI | exact rc_intB | exact rc_max | exact rc_min | exact rc_sum | exact rc_all | (apply rc_str; walk_at "sc") | (apply rc_divmod; walk_at "sc")
  | (apply rd_ixL; assumption) | (apply rd_ixT; rfl) | (apply rd_ixS; (walk_at "sc"); assumption)
  | (apply evn_lst; (walk_at "ev"); (walk_at "sc"))
  | (apply evn_cat; (walk_at "ev"); (walk_at "ev"); (walk_at "sc"))
  | (apply evn_slL; (walk_at "ev"); (walk_at "ev"); (walk_at "ev"))
  | (apply ev_slS; (walk_at "ev"); (walk_at "ev"); (walk_at "ev"); (walk_at "sc"))
  | (apply evn_rev; walk_at "ev")
  | (apply ea_star; (walk_at "ev"); (walk_at "ev"))
  | (apply ev_bits; walk_at "ev")
  | (apply ev_new; walk_at "ev")
  | assumption)
local macro_rules | `(tactic| walk_at "asg") => `(tactic| ((first | apply sd_seq | apply se_seq | apply sg_seq); apply sd_asg; (walk_at "ev"); (walk_at "ev")))
local macro_rules | `(tactic| walk_at "own") => `(tactic| ((first | apply sd_seq | apply se_seq | apply sg_seq); apply sd_own; (walk_at "ev")))
local macro_rules | `(tactic| walk_at "par") => `(tactic| ((first | apply sd_seq | apply se_seq | apply sg_seq); apply sd_par; (walk_at "ev")))
local macro_rules | `(tactic| walk_at "par3") => `(tactic| ((first | apply sd_seq | apply se_seq | apply sg_seq); apply sd_par3; (walk_at "ev")))
local macro_rules | `(tactic| walk_at "aug") => `(tactic| ((first | apply sd_seq | apply se_seq | apply sg_seq); apply sd_aug; rfl; (walk_at "ev"); (walk_at "ev")))
local macro_rules | `(tactic| walk_at "ret") => `(tactic| first | (apply sd_ret; walk_at "ev") | (apply se_ret; (walk_at "ev")))
local macro_rules | `(tactic| walk_at "drop") => `(tactic| ((first | apply sd_seq | apply se_seq | apply sg_seq); apply sd_drop; walk_at "ev"))
local macro_rules | `(tactic| walk_at "turn") => `(tactic| (apply tn; (walk_at "ev"); apply sd_goN))
section
set_option exponentiation.threshold 5000
section
open PySem L2
section
variable {P : Program} {w : World} {K : PySem.W.Frag} {mg : Str → Option Value} {base : Heap}
def Q_is_int (ds : List PyData) : Prop := ∃ n, ds = [.int n]
def Z_is_int (ds : List PyData) (z : PyData) : Prop := z = .bool true
abbrev F_is_int (P : Program) (w : World) (K : PySem.W.Frag) (mg : Str → Option Value) (base : Heap) : Prop := Fn P w K mg base "is_int" 1 ["value"] Q_is_int Z_is_int
theorem ok_is_int (B : Bt w K mg) (D : Df K mg "is_int" "is_int" s_is_int)  : F_is_int P w K mg base := by
  refine mk_fn D sc_is_int (fun _ _ _ _ _ _ us hl => match us, hl with | [_], _ => rfl) ⟨_, fun cdv A outer s H E f hr =>
    (pss_one (ps_ret (pe_and (pe_callB (call_isiK' K) (by rfl) B.isinstance (by decide +kernel) (pa_cons (pv 0) (pa_cons (pe_bltn (v := .ty "int") (by rfl) B.int (by decide +kernel) rfl) pa_nil))) (pe_one (pe_not (pe_callB (call_isiK' K) (by rfl) B.isinstance (by decide +kernel) (pa_cons (pv 0) (pa_cons (pe_bltn (v := .ty "bool") (by rfl) B.bool (by decide +kernel) rfl) pa_nil)))))))), ?_⟩
  rintro ds ⟨n, rfl⟩
  refine ⟨.bool true, rfl, .inl ?_⟩
  show SD K _ [.dat (.int n)] _
  apply sd_ret
  exact ev_andT (ev_isi (ev_var rfl) k_ii) (ev_notF (ev_isi (ev_var rfl) k_ib))
def Q_is_whole (ds : List PyData) : Prop := ∃ n l h, ds = [.int n, .int l, .int h] ∧ l ≤ n ∧ n ≤ h
def Z_is_whole (ds : List PyData) (z : PyData) : Prop := z = .bool true
abbrev F_is_whole (P : Program) (w : World) (K : PySem.W.Frag) (mg : Str → Option Value) (base : Heap) : Prop := Fn P w K mg base "is_whole" 2 ["value", "low", "high"] Q_is_whole Z_is_whole
theorem ok_is_whole (B : Bt w K mg) (D : Df K mg "is_whole" "is_whole" s_is_whole) (h_is_int : F_is_int P w K mg base) : F_is_whole P w K mg base := by
  obtain ⟨f_is_int, p_is_int, C_is_int⟩ := h_is_int
  refine mk_fn D sc_is_whole (fun _ _ _ _ _ _ us hl => match us, hl with | [_, _, _], _ => rfl) ⟨_, fun cdv A outer s H E f hr =>
    (pss_one (ps_ret (pe_and (pe_callC C_is_int hr (by rfl) (pa_cons (pv 0) pa_nil)) (pe_one (pe_chain op_le op_le (pv 1) (pv 0) (pv 2)))))), ?_⟩
  rintro ds ⟨n, l, h, rfl, h1, h2⟩
  refine ⟨.bool true, rfl, .inl ?_⟩
  show SD K _ [.dat (.int n), .dat (.int l), .dat (.int h)] _
  obtain ⟨_, rfl, c1⟩ := use_fn (K := K) p_is_int [.int n] ⟨n, rfl⟩
  apply sd_ret
  refine ev_andT (by walk_at "ev") (ev_is (by walk_at "ev") ?_)
  rw [dtr h1, dtr h2]
  rfl
def Q_is_node (ds : List PyData) : Prop := ∃ h d n, ds = [.int h, ND d n] ∧ 0 ≤ d ∧ d < h ∧ h ≤ 500 ∧ 0 ≤ n ∧ n < 2 ^ d.toNat
def Z_is_node (ds : List PyData) (z : PyData) : Prop := z = .bool true
abbrev F_is_node (P : Program) (w : World) (K : PySem.W.Frag) (mg : Str → Option Value) (base : Heap) : Prop := Fn P w K mg base "is_node" 3 ["height", "value"] Q_is_node Z_is_node
theorem ok_is_node (B : Bt w K mg) (D : Df K mg "is_node" "is_node" s_is_node) (h_is_whole : F_is_whole P w K mg base) : F_is_node P w K mg base := by
  obtain ⟨f_is_whole, p_is_whole, C_is_whole⟩ := h_is_whole
  refine mk_fn D sc_is_node (fun _ _ _ _ _ _ us hl => match us, hl with | [_, _], _ => rfl) ⟨_, fun cdv A outer s H E f hr =>
    (pss_cons (ps_if (PW.pt (pw_or (pt_not (pt_val (pe_callB (call_isiK' K) (by rfl) B.isinstance (by decide +kernel) (pa_cons (pv 1) (pa_cons (pe_bltn (v := .ty "tuple") (by rfl) B.tuple (by decide +kernel) rfl) pa_nil))))) (pw_or (pt_cmpR op_ne (pe_callB (call_lenK K) (by rfl) B.len (by decide +kernel) (pa_cons (pv 1) pa_nil)) pe_int (nomark _)) (pw_or1 (pt_not (pt_val (pe_callC C_is_whole hr (by rfl) (pa_cons (pe_ix (ix_tupK K) (pv 1) pe_int (fun _ _ => rfl)) (pa_cons pe_int (pa_cons (pe_op op_sub (pv 0) pe_int) pa_nil)))))))))) (pss_one (ps_ret pe_bl)) pss_nil)
    (pss_one (ps_ret (pe_callC C_is_whole hr (by rfl) (pa_cons (pe_ix (ix_tupK K) (pv 1) pe_int (fun _ _ => rfl)) (pa_cons pe_int (pa_cons (pe_op op_sub (pe_op op_shlW pe_int (pe_ix (ix_tupK K) (pv 1) pe_int (fun _ _ => rfl))) pe_int) pa_nil))))))), ?_⟩
  rintro ds ⟨h, d, n, rfl, h1, h2, h3, h4, h5⟩
  refine ⟨.bool true, rfl, .inl ?_⟩
  show SD K _ [.dat (.int h), .dat (ND d n)] _
  obtain ⟨_, rfl, c1⟩ := use_fn (K := K) p_is_whole [.int d, .int 0, .int (h - 1)] ⟨_, _, _, rfl, by omega, by omega⟩
  obtain ⟨_, rfl, c2⟩ := use_fn (K := K) p_is_whole [.int n, .int 0, .int (1 * 2 ^ d.toNat - 1)] ⟨_, _, _, rfl, by omega, by omega⟩
  refine sd_seq (sd_ifF (et_orF (et_notT (et_test (ev_isi (ev_var rfl) k_tt))) (et_orF (et_is (by walk_at "ev") (by rfl)) (et_notT (by walk_at "ev")))) sd_next) ?_
  walk_at "ret"
def Q_require_kind (ds : List PyData) : Prop := ∃ k, ds = [.str k] ∧ k ∈ kinds
def Z_require (ds : List PyData) (z : PyData) : Prop := z = .none
abbrev Z_require_kind := Z_require
abbrev F_require_kind (P : Program) (w : World) (K : PySem.W.Frag) (mg : Str → Option Value) (base : Heap) : Prop := Fn P w K mg base "require_kind" 1 ["value"] Q_require_kind Z_require_kind
theorem ok_require_kind (B : Bt w K mg) (D : Df K mg "require_kind" "require_kind" s_require_kind)  : F_require_kind P w K mg base := by
  refine mk_fn D sc_require_kind (fun _ _ _ _ _ _ us hl => match us, hl with | [_], _ => rfl) ⟨_, fun cdv A outer s H E f hr =>
    (pss_one (ps_if (PW.pt (pw_or (pt_not (pt_val (pe_callB (call_isiK' K) (by rfl) B.isinstance (by decide +kernel) (pa_cons (pv 0) (pa_cons (pe_bltn (v := .ty "str") (by rfl) B.str (by decide +kernel) rfl) pa_nil))))) (pw_or1 (pt_cmpR (op_notIn_seqK K) (pv 0) (pe_glob (by rfl) B.c_KINDS B.r_KINDS) rfl)))) pss_never pss_nil)), ?_⟩
  rintro ds ⟨k, rfl, h1⟩
  refine ⟨.none, rfl, ?_⟩
  apply rt_nx
  show SD K _ [.dat (.str k)] _
  exact sd_ifF (et_orF (et_notT (et_test (ev_isi (ev_var rfl) k_ss))) (et_is (by walk_at "ev") (not_tr (dtr h1)))) sd_next
def Q_require_height (ds : List PyData) : Prop := ∃ h, ds = [.int h] ∧ 1 ≤ h ∧ h ≤ 100
abbrev Z_require_height := Z_require
abbrev F_require_height (P : Program) (w : World) (K : PySem.W.Frag) (mg : Str → Option Value) (base : Heap) : Prop := Fn P w K mg base "require_height" 3 ["value"] Q_require_height Z_require_height
theorem ok_require_height (B : Bt w K mg) (D : Df K mg "require_height" "require_height" s_require_height) (h_is_whole : F_is_whole P w K mg base) : F_require_height P w K mg base := by
  obtain ⟨f_is_whole, p_is_whole, C_is_whole⟩ := h_is_whole
  refine mk_fn D sc_require_height (fun _ _ _ _ _ _ us hl => match us, hl with | [_], _ => rfl) ⟨_, fun cdv A outer s H E f hr =>
    (pss_one (ps_if (pt_not (pt_val (pe_callC C_is_whole hr (by rfl) (pa_cons (pv 0) (pa_cons pe_int (pa_cons (pe_glob (by rfl) B.c_MOST_HEIGHT B.r_MOST_HEIGHT) pa_nil)))))) pss_never pss_nil)), ?_⟩
  rintro ds ⟨h, rfl, h1, h2⟩
  refine ⟨.none, rfl, ?_⟩
  apply rt_nx
  show SD K _ [.dat (.int h)] _
  obtain ⟨_, rfl, c1⟩ := use_fn (K := K) p_is_whole [.int h, .int 1, .int 100] ⟨_, _, _, rfl, by omega, by omega⟩
  exact sd_ifF (et_notT (by walk_at "ev")) sd_next
def Q_require_node (ds : List PyData) : Prop := Q_is_node ds
abbrev Z_require_node := Z_require
abbrev F_require_node (P : Program) (w : World) (K : PySem.W.Frag) (mg : Str → Option Value) (base : Heap) : Prop := Fn P w K mg base "require_node" 4 ["height", "value"] Q_require_node Z_require_node
theorem ok_require_node (B : Bt w K mg) (D : Df K mg "require_node" "require_node" s_require_node) (h_is_node : F_is_node P w K mg base) : F_require_node P w K mg base := by
  obtain ⟨f_is_node, p_is_node, C_is_node⟩ := h_is_node
  refine mk_fn D sc_require_node (fun _ _ _ _ _ _ us hl => match us, hl with | [_, _], _ => rfl) ⟨_, fun cdv A outer s H E f hr =>
    (pss_one (ps_if (pt_not (pt_val (pe_callC C_is_node hr (by rfl) (pa_cons (pv 0) (pa_cons (pv 1) pa_nil))))) pss_never pss_nil)), ?_⟩
  rintro ds ⟨h, d, n, rfl, hh⟩
  refine ⟨.none, rfl, ?_⟩
  apply rt_nx
  show SD K _ [.dat (.int h), .dat (ND d n)] _
  obtain ⟨_, rfl, c1⟩ := use_fn (K := K) p_is_node [.int h, ND d n] ⟨_, _, _, rfl, hh⟩
  exact sd_ifF (et_notT (by walk_at "ev")) sd_next
def Q_require_place (ds : List PyData) : Prop := ∃ h p, ds = [.int h, .int p] ∧ 1 ≤ h ∧ h ≤ 100 ∧ 0 ≤ p ∧ p < 2 ^ h.toNat - 1
abbrev Z_require_place := Z_require
abbrev F_require_place (P : Program) (w : World) (K : PySem.W.Frag) (mg : Str → Option Value) (base : Heap) : Prop := Fn P w K mg base "require_place" 3 ["height", "value"] Q_require_place Z_require_place
theorem ok_require_place (B : Bt w K mg) (D : Df K mg "require_place" "require_place" s_require_place) (h_is_whole : F_is_whole P w K mg base) : F_require_place P w K mg base := by
  obtain ⟨f_is_whole, p_is_whole, C_is_whole⟩ := h_is_whole
  refine mk_fn D sc_require_place (fun _ _ _ _ _ _ us hl => match us, hl with | [_, _], _ => rfl) ⟨_, fun cdv A outer s H E f hr =>
    (pss_one (ps_if (pt_not (pt_val (pe_callC C_is_whole hr (by rfl) (pa_cons (pv 1) (pa_cons pe_int (pa_cons (pe_op op_sub (pe_op op_shlW pe_int (pv 0)) pe_int) pa_nil)))))) pss_never pss_nil)), ?_⟩
  rintro ds ⟨h, p, rfl, h1, h2, h3, h4⟩
  refine ⟨.none, rfl, ?_⟩
  apply rt_nx
  show SD K _ [.dat (.int h), .dat (.int p)] _
  obtain ⟨_, rfl, c1⟩ := use_fn (K := K) p_is_whole [.int p, .int 0, .int (1 * 2 ^ h.toNat - 2)] ⟨_, _, _, rfl, by omega, by omega⟩
  exact sd_ifF (et_notT (by walk_at "ev")) sd_next
def Q_require_span (ds : List PyData) : Prop := ∃ h p q, ds = [.int h, .int p, .int q] ∧ 1 ≤ h ∧ h ≤ 100 ∧ 0 ≤ p ∧ p < q ∧ q ≤ 2 ^ h.toNat - 1
abbrev Z_require_span := Z_require
abbrev F_require_span (P : Program) (w : World) (K : PySem.W.Frag) (mg : Str → Option Value) (base : Heap) : Prop := Fn P w K mg base "require_span" 3 ["height", "begin", "end"] Q_require_span Z_require_span
theorem ok_require_span (B : Bt w K mg) (D : Df K mg "require_span" "require_span" s_require_span) (h_is_whole : F_is_whole P w K mg base) : F_require_span P w K mg base := by
  obtain ⟨f_is_whole, p_is_whole, C_is_whole⟩ := h_is_whole
  refine mk_fn D sc_require_span (fun _ _ _ _ _ _ us hl => match us, hl with | [_, _, _], _ => rfl) ⟨_, fun cdv A outer s H E f hr =>
    (pss_cons (ps_if (pt_not (pt_val (pe_callC C_is_whole hr (by rfl) (pa_cons (pv 1) (pa_cons pe_int (pa_cons (pe_op op_sub (pe_op op_shlW pe_int (pv 0)) pe_int) pa_nil)))))) pss_never pss_nil)
    (pss_one (ps_if (pt_not (pt_val (pe_callC C_is_whole hr (by rfl) (pa_cons (pv 2) (pa_cons (pe_op op_add (pv 1) pe_int) (pa_cons (pe_op op_sub (pe_op op_shlW pe_int (pv 0)) pe_int) pa_nil)))))) pss_never pss_nil))), ?_⟩
  rintro ds ⟨h, p, q, rfl, h1, h2, h3, h4, h5⟩
  refine ⟨.none, rfl, ?_⟩
  apply rt_nx
  show SD K _ [.dat (.int h), .dat (.int p), .dat (.int q)] _
  obtain ⟨_, rfl, c1⟩ := use_fn (K := K) p_is_whole [.int p, .int 0, .int (1 * 2 ^ h.toNat - 2)] ⟨_, _, _, rfl, by omega, by omega⟩
  obtain ⟨_, rfl, c2⟩ := use_fn (K := K) p_is_whole [.int q, .int (p + 1), .int (1 * 2 ^ h.toNat - 1)] ⟨_, _, _, rfl, by omega, by omega⟩
  apply sd_seq (sd_ifF (et_notT (by walk_at "ev")) sd_next)
  exact sd_ifF (et_notT (by walk_at "ev")) sd_next
def Q_require_size (ds : List PyData) : Prop := ∃ s m, ds = [.int s, .int m] ∧ 1 ≤ s ∧ s ≤ m
abbrev Z_require_size := Z_require
abbrev F_require_size (P : Program) (w : World) (K : PySem.W.Frag) (mg : Str → Option Value) (base : Heap) : Prop := Fn P w K mg base "require_size" 3 ["value", "most"] Q_require_size Z_require_size
theorem ok_require_size (B : Bt w K mg) (D : Df K mg "require_size" "require_size" s_require_size) (h_is_whole : F_is_whole P w K mg base) : F_require_size P w K mg base := by
  obtain ⟨f_is_whole, p_is_whole, C_is_whole⟩ := h_is_whole
  refine mk_fn D sc_require_size (fun _ _ _ _ _ _ us hl => match us, hl with | [_, _], _ => rfl) ⟨_, fun cdv A outer s H E f hr =>
    (pss_one (ps_if (pt_not (pt_val (pe_callC C_is_whole hr (by rfl) (pa_cons (pv 0) (pa_cons pe_int (pa_cons (pv 1) pa_nil)))))) pss_never pss_nil)), ?_⟩
  rintro ds ⟨s, m, rfl, h1, h2⟩
  refine ⟨.none, rfl, ?_⟩
  apply rt_nx
  show SD K _ [.dat (.int s), .dat (.int m)] _
  obtain ⟨_, rfl, c1⟩ := use_fn (K := K) p_is_whole [.int s, .int 1, .int m] ⟨_, _, _, rfl, by omega, by omega⟩
  exact sd_ifF (et_notT (by walk_at "ev")) sd_next
def Q_require_shift (ds : List PyData) : Prop := ∃ s m, ds = [.int s, .int m] ∧ 0 ≤ m ∧ m < s
abbrev Z_require_shift := Z_require
abbrev F_require_shift (P : Program) (w : World) (K : PySem.W.Frag) (mg : Str → Option Value) (base : Heap) : Prop := Fn P w K mg base "require_shift" 3 ["size", "value"] Q_require_shift Z_require_shift
theorem ok_require_shift (B : Bt w K mg) (D : Df K mg "require_shift" "require_shift" s_require_shift) (h_is_whole : F_is_whole P w K mg base) : F_require_shift P w K mg base := by
  obtain ⟨f_is_whole, p_is_whole, C_is_whole⟩ := h_is_whole
  refine mk_fn D sc_require_shift (fun _ _ _ _ _ _ us hl => match us, hl with | [_, _], _ => rfl) ⟨_, fun cdv A outer s H E f hr =>
    (pss_one (ps_if (pt_not (pt_val (pe_callC C_is_whole hr (by rfl) (pa_cons (pv 1) (pa_cons pe_int (pa_cons (pe_op op_sub (pv 0) pe_int) pa_nil)))))) pss_never pss_nil)), ?_⟩
  rintro ds ⟨s, m, rfl, h1, h2⟩
  refine ⟨.none, rfl, ?_⟩
  apply rt_nx
  show SD K _ [.dat (.int s), .dat (.int m)] _
  obtain ⟨_, rfl, c1⟩ := use_fn (K := K) p_is_whole [.int m, .int 0, .int (s - 1)] ⟨_, _, _, rfl, by omega, by omega⟩
  exact sd_ifF (et_notT (by walk_at "ev")) sd_next
end
end
end
section
set_option exponentiation.threshold 5000
section
open PySem L2
section
variable {P : Program} {w : World} {K : PySem.W.Frag} {mg : Str → Option Value} {base : Heap}
def Q_cut_levels (ds : List PyData) : Prop := ∃ k h, ds = [.str k, .int h] ∧ k ∈ cutK ∧ 2 ≤ h ∧ h ≤ 200
def Z_cut_levels (ds : List PyData) (z : PyData) : Prop := ∀ k h, ds = [.str k, .int h] → z = .int (cutLv k h)
theorem inj_SI {k k' : Str} {h h' : Int} (e : [PyData.str k, .int h] = [.str k', .int h']) : k = k' ∧ h = h' := by
  injection e with e1 e2
  injection e2 with e2 _
  exact ⟨PyData.str.inj e1, PyData.int.inj e2⟩
theorem inj_SII {k k' : Str} {h h' d d' : Int} (e : [PyData.str k, .int h, .int d] = [.str k', .int h', .int d']) : k = k' ∧ h = h' ∧ d = d' := by
  injection e with e1 e2
  injection e2 with e2 e3
  injection e3 with e3 _
  exact ⟨PyData.str.inj e1, PyData.int.inj e2, PyData.int.inj e3⟩
abbrev F_cut_levels (P : Program) (w : World) (K : PySem.W.Frag) (mg : Str → Option Value) (base : Heap) : Prop := Fn P w K mg base "cut_levels" 1 ["kind", "height"] Q_cut_levels Z_cut_levels
theorem ok_cut_levels (B : Bt w K mg) (D : Df K mg "cut_levels" "cut_levels" s_cut_levels)  : F_cut_levels P w K mg base := by
  refine mk_fn D sc_cut_levels (fun _ _ _ _ _ _ us hl => match us, hl with | [_, _], _ => rfl) ⟨_, fun cdv A outer s H E f hr =>
    (pss_cons (ps_if (PW.pt (pw_or (pt_cmpR (op_notIn_seqK K) (pv 0) (pe_glob (by rfl) B.c_CUT_KINDS B.r_CUT_KINDS) rfl) (pw_or1 (pt_cmpR op_eq (pv 1) pe_int (nomark _))))) (pss_one (ps_ret pe_non)) pss_nil)
    (pss_cons (ps_if (pt_cmpR op_eq (pv 0) pe_str (nomark _)) (pss_one (ps_ret (pe_op op_fdivW (pv 1) pe_int))) pss_nil)
    (pss_cons (ps_if (pt_cmpR op_eq (pv 0) pe_str (nomark _)) (pss_one (ps_ret (pe_op op_fdivW (pe_op op_add (pv 1) pe_int) pe_int))) pss_nil)
    (pss_one (ps_ret (pe_op op_sub (pv 1) (pe_op op_shlW pe_int (pe_op op_sub (pe_bits (pe_op op_sub (pv 1) pe_int)) pe_int)))))))), ?_⟩
  rintro ds ⟨k, h, rfl, hk, h1, h2⟩
  refine ⟨.int (cutLv k h), fun k' h' e => ?_, .inl ?_⟩
  · obtain ⟨rfl, rfl⟩ := inj_SI e
    rfl
  · show SD K _ [.dat (.str k), .dat (.int h)] _
    refine sd_seq (sd_ifF (et_orF (et_is (by walk_at "ev") (not_tr (dtr hk))) (et_is (by walk_at "ev") (dfa (by omega)))) sd_next) ?_
    by_cases a : k = "lesser"
    · have e : cutLv k h = h / 2 := if_pos a
      rw [e]
      apply sd_seqR
      refine sd_ifT (et_is (by walk_at "ev") (dtr a)) ?_
      walk_at "ret"
    · refine sd_seq (sd_ifF (et_is (by walk_at "ev") (dfa a)) sd_next) ?_
      by_cases b : k = "greater"
      · have e : cutLv k h = (h + 1) / 2 := (if_neg a).trans (if_pos b)
        rw [e]
        apply sd_seqR
        refine sd_ifT (et_is (by walk_at "ev") (dtr b)) ?_
        walk_at "ret"
      · have e : cutLv k h = h - 1 * 2 ^ (((Builtin.Int.intBits (h - 1) : Nat) : Int) - 1).toNat := (if_neg a).trans (if_neg b)
        rw [e]
        refine sd_seq (sd_ifF (et_is (by walk_at "ev") (dfa b)) sd_next) ?_
        obtain ⟨j, e1, e2, e3⟩ := powers_cut h1
        have hj : j < 8 := by
          apply Classical.byContradiction
          intro hn
          have := p2le (a := 8) (b := j) (by omega)
          have : (2 : Int) ^ 8 = 256 := by decide
          omega
        have hb : (((Builtin.Int.intBits (h - 1) : Nat) : Int) - 1).toNat < 8 := by rw [e1]; exact hj
        have hc : 0 ≤ ((Builtin.Int.intBits (h - 1) : Nat) : Int) - 1 := by
          apply Classical.byContradiction
          intro hn
          have : (((Builtin.Int.intBits (h - 1) : Nat) : Int) - 1).toNat = 0 := by omega
          have : j = 0 := by omega
          subst this
          have : Builtin.Int.intBits (h - 1) = 0 := by omega
          unfold Builtin.Int.intBits at this
          have e : (h - 1 == 0) = false := by
            rw [beq_eq_false_iff_ne]
            omega
          rw [e] at this
          exact absurd this (Nat.succ_ne_zero _)
        have hs : CShl 1 (((Builtin.Int.intBits (h - 1) : Nat) : Int) - 1) := shl1_ok hc (by omega)
        walk_at "ret"
def Q_plain_sums (ds : List PyData) : Prop := ∃ k h d, ds = [.str k, .int h, .int d] ∧ 0 ≤ d ∧ d < h ∧ h ≤ 200
def Z_plain_sums (ds : List PyData) (z : PyData) : Prop := ∀ k h d, ds = [.str k, .int h, .int d] → z = .tuple [.int (plF k h d).1, LI (plF k h d).2]
abbrev F_plain_sums (P : Program) (w : World) (K : PySem.W.Frag) (mg : Str → Option Value) (base : Heap) : Prop := Fn P w K mg base "plain_sums" 1 ["kind", "height", "depth"] Q_plain_sums Z_plain_sums
theorem ok_plain_sums (B : Bt w K mg) (D : Df K mg "plain_sums" "plain_sums" s_plain_sums)  : F_plain_sums P w K mg base := by
  refine mk_fn D sc_plain_sums (fun _ _ _ _ _ _ us hl => match us, hl with | [_, _, _], _ => rfl) ⟨_, fun cdv A outer s H E f hr =>
    (pss_cons (ps_set (i := 3) sc_plain_sums.nd rfl (Or.inl rfl) (pe_listRg rfl (by rfl) B.list (prg_2 (by rfl) B.range pe_int (pe_op op_add (pv 2) pe_int))))
    (pss_one (ps_match (pv 0) (pmc_str (pss_one (ps_ret (pe_tup (pa_cons (pe_op op_sub (pe_op op_shlW pe_int (pv 2)) pe_int) (pa_cons (pe_lc (own := [("step", 4)]) rfl sc_plain_sums.nd (pi_listK K (pv 3)) (blkOk_by (own := [("step", 4)]) (N := n_plain_sums) (sc := defScope s_plain_sums) (by decide +kernel)) (fun _ _ _ _ _ => (pg_name (i := 4) sc_plain_sums.nd rfl (Or.inl rfl))) (fun _ _ _ _ _ => pts_nil) (fun _ _ _ _ _ => (pe_op op_shlW pe_int (pe_op op_sub (pv 2) (pv 4))))) pa_nil)))))
    (pmc_str (pss_one (ps_ret (pe_tup (pa_cons (pe_op op_sub (pe_op op_shlW pe_int (pe_op op_sub (pe_op op_sub (pv 1) pe_int) (pv 2))) pe_int) (pa_cons (pe_lc (own := [("step", 4)]) rfl sc_plain_sums.nd (pi_listK K (pv 3)) (blkOk_by (own := [("step", 4)]) (N := n_plain_sums) (sc := defScope s_plain_sums) (by decide +kernel)) (fun _ _ _ _ _ => (pg_name (i := 4) sc_plain_sums.nd rfl (Or.inl rfl))) (fun _ _ _ _ _ => pts_nil) (fun _ _ _ _ _ => (pe_op op_shlW pe_int (pe_op op_sub (pv 1) (pv 4))))) pa_nil)))))
    (pmc_str (pss_one (ps_ret (pe_tup (pa_cons (pv 2) (pa_cons (pe_lc (own := [("step", 4)]) rfl sc_plain_sums.nd (pi_listK K (pv 3)) (blkOk_by (own := [("step", 4)]) (N := n_plain_sums) (sc := defScope s_plain_sums) (by decide +kernel)) (fun _ _ _ _ _ => (pg_name (i := 4) sc_plain_sums.nd rfl (Or.inl rfl))) (fun _ _ _ _ _ => pts_nil) (fun _ _ _ _ _ => (pe_op op_sub (pe_op op_shlW pe_int (pe_op op_sub (pv 1) (pv 4))) pe_int))) pa_nil)))))
    (pmc_any (pss_one (ps_ret (pe_tup (pa_cons (pe_op op_sub (pe_op op_shlW pe_int (pe_op op_sub (pv 1) (pv 2))) pe_int) (pa_cons (pe_lc (own := [("step", 4)]) rfl sc_plain_sums.nd (pi_listK K (pv 3)) (blkOk_by (own := [("step", 4)]) (N := n_plain_sums) (sc := defScope s_plain_sums) (by decide +kernel)) (fun _ _ _ _ _ => (pg_name (i := 4) sc_plain_sums.nd rfl (Or.inl rfl))) (fun _ _ _ _ _ => pts_nil) (fun _ _ _ _ _ => (pe_op op_sub (pe_op op_shlW pe_int (pe_op op_sub (pv 1) (pv 4))) pe_int))) pa_nil)))))))))))), ?_⟩
  rintro ds ⟨k, h, d, rfl, h1, h2, h3⟩
  refine ⟨.tuple [.int (plF k h d).1, LI (plF k h d).2], fun k' h' d' e => ?_, .inl ?_⟩
  · obtain ⟨rfl, rfl, rfl⟩ := inj_SII e
    rfl
  · show SD K _ [.dat (.str k), .dat (.int h), .dat (.int d), .un, .un] _
    apply sd_seq (r1 := [.dat (.str k), .dat (.int h), .dat (.int d), .dat (LI (rgI 1 (d + 1))), .un])
    · apply sd_asg
      · apply ev_new
        apply evn_listRg
        · walk_at "ev"
        · walk_at "ev"
        all_goals omega
      · walk_at "ev"
    have hl : (rgI 1 (d + 1)).length ≤ 100000 := by
      rw [rgI_len]
      omega
    apply sd_matchS
    · walk_at "ev"
    by_cases a : k = "levels"
    · apply sd_cStrT a
      have e : plF k h d = (1 * 2 ^ d.toNat - 1, (rgI 1 (d + 1)).map fun s => 1 * 2 ^ (d - s).toNat) := if_pos a
      rw [e]
      apply sd_ret
      apply ev_tup
      · apply ea_cons
        · walk_at "ev"
        · apply ea_cons
          · apply ev_new
            apply evn_lcI (it_list (ev_var rfl)) hl
            intro x hx
            have := mem_rgI hx
            refine ⟨_, _, gd_name, by walk_at "sc", ?_⟩
            walk_at "ev"
          · walk_at "ev"
      · walk_at "sc"
    · apply sd_cStrF a
      by_cases b : k = "inorder"
      · apply sd_cStrT b
        have e : plF k h d = (1 * 2 ^ (h - 1 - d).toNat - 1, (rgI 1 (d + 1)).map fun s => 1 * 2 ^ (h - s).toNat) := (if_neg a).trans (if_pos b)
        rw [e]
        apply sd_ret
        apply ev_tup
        · apply ea_cons
          · walk_at "ev"
          · apply ea_cons
            · apply ev_new
              apply evn_lcI (it_list (ev_var rfl)) hl
              intro x hx
              have := mem_rgI hx
              refine ⟨_, _, gd_name, by walk_at "sc", ?_⟩
              walk_at "ev"
            · walk_at "ev"
        · walk_at "sc"
      · apply sd_cStrF b
        by_cases c : k = "preorder"
        · apply sd_cStrT c
          have e : plF k h d = (d, (rgI 1 (d + 1)).map fun s => 1 * 2 ^ (h - s).toNat - 1) := (if_neg a).trans ((if_neg b).trans (if_pos c))
          rw [e]
          apply sd_ret
          apply ev_tup
          · apply ea_cons
            · walk_at "ev"
            · apply ea_cons
              · apply ev_new
                apply evn_lcI (it_list (ev_var rfl)) hl
                intro x hx
                have := mem_rgI hx
                refine ⟨_, _, gd_name, by walk_at "sc", ?_⟩
                walk_at "ev"
              · walk_at "ev"
          · walk_at "sc"
        · apply sd_cStrF c
          apply sd_cAny
          have e : plF k h d = (1 * 2 ^ (h - d).toNat - 2, (rgI 1 (d + 1)).map fun s => 1 * 2 ^ (h - s).toNat - 1) := (if_neg a).trans ((if_neg b).trans (if_neg c))
          rw [e]
          apply sd_ret
          apply ev_tup
          · apply ea_cons
            · walk_at "ev"
            · apply ea_cons
              · apply ev_new
                apply evn_lcI (it_list (ev_var rfl)) hl
                intro x hx
                have := mem_rgI hx
                refine ⟨_, _, gd_name, by walk_at "sc", ?_⟩
                walk_at "ev"
              · walk_at "ev"
          · walk_at "sc"
def Q_sums_of (ds : List PyData) : Prop := ∃ k h d, ds = [.str k, .int h, .int d] ∧ 0 ≤ d ∧ d < h ∧ h ≤ 200
def Z_sums_of (ds : List PyData) (z : PyData) : Prop := ∀ k h d, ds = [.str k, .int h, .int d] → z = .tuple [.int (smF k h d).1, LI (smF k h d).2]
structure SmS where
  n : Int
  f : List Int
  l : Int
  d : Int
abbrev F_sums_of (P : Program) (w : World) (K : PySem.W.Frag) (mg : Str → Option Value) (base : Heap) : Prop := Fn P w K mg base "sums_of" 2 ["kind", "height", "depth"] Q_sums_of Z_sums_of
theorem ok_sums_of (B : Bt w K mg) (D : Df K mg "sums_of" "sums_of" s_sums_of) (h_plain_sums : F_plain_sums P w K mg base) (h_cut_levels : F_cut_levels P w K mg base) : F_sums_of P w K mg base := by
  obtain ⟨f_plain_sums, p_plain_sums, C_plain_sums⟩ := h_plain_sums
  obtain ⟨f_cut_levels, p_cut_levels, C_cut_levels⟩ := h_cut_levels
  refine mk_fn D sc_sums_of (fun _ _ _ _ _ _ us hl => match us, hl with | [_, _, _], _ => rfl) ⟨_, fun cdv A outer s H E f hr =>
    (pss_cons (ps_if (pt_cmpR (op_notIn_seqK K) (pv 0) (pe_glob (by rfl) B.c_CUT_KINDS B.r_CUT_KINDS) rfl) (pss_one (ps_ret (pe_callC C_plain_sums hr (by rfl) (pa_cons (pv 0) (pa_cons (pv 1) (pa_cons (pv 2) pa_nil)))))) pss_nil)
    (pss_cons (ps_asg (pe_tup (pa_cons pe_int (pa_cons (pe_lst pa_nil) (pa_cons (pv 1) (pa_cons (pv 2) pa_nil))))) (pg_tupK (n := 4) K rfl (pgs_cons (pg_name (i := 3) sc_sums_of.nd rfl (Or.inl rfl)) (pgs_cons (pg_name (i := 4) sc_sums_of.nd rfl (Or.inl rfl)) (pgs_cons (pg_name (i := 5) sc_sums_of.nd rfl (Or.inl rfl)) (pgs_cons (pg_name (i := 6) sc_sums_of.nd rfl (Or.inl rfl)) pgs_nil))))))
    (pss_cons (ps_while PassesOwn.never (pt_cmpR op_gt (pv 5) pe_int (nomark _)) (pss_cons (ps_set (i := 7) sc_sums_of.nd rfl (Or.inr rfl) (pe_callC C_cut_levels hr (by rfl) (pa_cons (pv 0) (pa_cons (pv 5) pa_nil))))
    (pss_one (ps_if (pt_cmpR op_lt (pv 6) (pv 7) (nomark _)) (pss_one (ps_set (i := 5) sc_sums_of.nd rfl (Or.inl rfl) (pv 7))) (pss_cons (ps_set (i := 8) sc_sums_of.nd rfl (Or.inr rfl) (pe_op op_sub (pe_op op_shlW pe_int (pe_op op_sub (pv 5) (pv 7))) pe_int))
    (pss_cons (ps_aug (i := 3) sc_sums_of.nd rfl (Or.inl rfl) (pe_op op_sub (pe_op op_shlW pe_int (pv 7)) pe_int) ip_add)
    (pss_cons (ps_set (i := 4) sc_sums_of.nd rfl (Or.inl rfl) (pe_lst (pa_starK K (pv 4) (pa_starK K (pe_lc (own := [("step", 9)]) rfl sc_sums_of.nd (pi_range2 (by rfl) B.range (pa_cons pe_int (pa_cons (pe_op op_add (pv 7) pe_int) pa_nil))) (blkOk_by (own := [("step", 9)]) (N := n_sums_of) (sc := defScope s_sums_of) (by decide +kernel)) (fun _ _ _ _ _ => (pg_name (i := 9) sc_sums_of.nd rfl (Or.inl rfl))) (fun _ _ _ _ _ => pts_nil) (fun _ _ _ _ _ => (pe_op op_shlW (pv 8) (pe_op op_sub (pv 7) (pv 9))))) pa_nil))))
    (pss_one (ps_par (i := 5) (j := 6) rfl sc_sums_of.nd rfl rfl (by decide) rfl rfl  (pa_cons (pe_op op_sub (pv 5) (pv 7)) (pa_cons (pe_op op_sub (pv 6) (pv 7)) pa_nil)) (by rfl))))))))))
    (pss_one (ps_ret (pe_tup (pa_cons (pv 3) (pa_cons (pv 4) pa_nil)))))))), ?_⟩
  rintro ds ⟨k, h, d, rfl, h1, h2, h3⟩
  refine ⟨.tuple [.int (smF k h d).1, LI (smF k h d).2], fun k' h' d' e => ?_, .inl ?_⟩
  · obtain ⟨rfl, rfl, rfl⟩ := inj_SII e
    rfl
  · show SD K _ [.dat (.str k), .dat (.int h), .dat (.int d), .un, .un, .un, .un, .un, .un, .un] _
    by_cases a : k ∈ cutK
    · refine sd_seq (sd_ifF (et_is (by walk_at "ev") (not_tr (dtr a))) sd_next) ?_
      have e : smF k h d = sumR (cutLv k) h.toNat h d := if_pos a
      apply sd_seq (r1 := [.dat (.str k), .dat (.int h), .dat (.int d), .dat (.int 0), .dat (LI []), .dat (.int h), .dat (.int d), .un, .un, .un])
      · apply sd_asg
        · walk_at "ev"
        · walk_at "ev"
      refine sd_whl [7, 8, 9] (fun s : SmS => [.dat (.str k), .dat (.int h), .dat (.int d), .dat (.int s.n), .dat (LI s.f), .dat (.int s.l), .dat (.int s.d), .un, .un, .un])
        (fun s => decide (s.l > 1)) (fun s => 1 ≤ s.l ∧ s.l ≤ h ∧ 0 ≤ s.d ∧ s.d < s.l ∧ (s.f.length : Int) + s.l ≤ h ∧ ∃ f : Nat, s.l ≤ f ∧ s.n + (sumR (cutLv k) f s.l s.d).1 = (sumR (cutLv k) h.toNat h d).1 ∧ s.f ++ (sumR (cutLv k) f s.l s.d).2 = (sumR (cutLv k) h.toNat h d).2) (fun s => s.l.toNat) ⟨0, [], h, d⟩ rfl ?_ ?_ ?_ ?_
      rotate_left 3
      · intro s' hp hc
        obtain ⟨p1, p2, p3, p4, p5, f, p6, p7, p8⟩ := hp
        have hc2 := of_decide_eq_false hc
        have e2 : sumR (cutLv k) f s'.l s'.d = (0, []) := by
          cases f with
          | zero => rfl
          | succ f => exact if_neg (by omega)
        rw [e2] at p7 p8
        rw [e, ← p7, ← p8]
        have e3 : s'.n + (0, ([] : List Int)).1 = s'.n := Int.add_zero _
        have e4 : s'.f ++ (0, ([] : List Int)).2 = s'.f := List.append_nil _
        rw [e3, e4]
        walk_at "ret"
      · refine ⟨by show 1 ≤ h; omega, Int.le_refl h, h1, h2, by show ((([] : List Int).length : Nat) : Int) + h ≤ h; simp, h.toNat, by show h ≤ _; omega, Int.zero_add _, rfl⟩
      · intro s _
        walk_at "ev"
      · rintro ⟨n, f, l, e1⟩ ⟨p1, p2, p3, p4, p5, fu, p6, p7, p8⟩ hc
        have hc2 : l > 1 := of_decide_eq_true hc
        dsimp only at p1 p2 p3 p4 p5 p6 p7 p8
        obtain ⟨t1, t2, t3⟩ := cutLv_bd (k := k) (h := l) (by omega)
        obtain ⟨_, q, c1⟩ := use_fn (K := K) p_cut_levels [.str k, .int l] ⟨_, _, rfl, a, by omega, by omega⟩
        obtain rfl := q _ _ rfl
        cases fu with
        | zero => omega
        | succ fu =>
        by_cases b : e1 < cutLv k l
        · have es : sumR (cutLv k) (fu + 1) l e1 = sumR (cutLv k) fu (cutLv k l) e1 := (if_pos hc2).trans (if_pos b)
          rw [es] at p7 p8
          refine ⟨⟨n, f, cutLv k l, e1⟩, ⟨t1, by dsimp only; omega, p3, b, by dsimp only; omega, fu, by dsimp only; omega, p7, p8⟩, by dsimp only; omega, ?_⟩
          apply tw
          · dsimp only
            apply sd_goN
            walk_at "asg"
            refine sd_ifT (et_is (by walk_at "ev") (dtr b)) ?_
            apply sd_asg
            · walk_at "ev"
            · walk_at "ev"
          · rfl
        · have es : sumR (cutLv k) (fu + 1) l e1 = ((1 * 2 ^ (cutLv k l).toNat - 1) + (sumR (cutLv k) fu (l - cutLv k l) (e1 - cutLv k l)).1, ((rgI 1 (cutLv k l + 1)).map fun s => (1 * 2 ^ (l - cutLv k l).toNat - 1) * 2 ^ (cutLv k l - s).toNat) ++ (sumR (cutLv k) fu (l - cutLv k l) (e1 - cutLv k l)).2) := (if_pos hc2).trans (if_neg b)
          rw [es] at p7 p8
          have hl : (rgI 1 (cutLv k l + 1)).length = (cutLv k l).toNat := by
            rw [rgI_len]
            omega
          have hz : (1 * 2 ^ (l - cutLv k l).toNat - 1 : Int).natAbs < 2 ^ 200 := by
            have q1 := p2le (a := (l - cutLv k l).toNat) (b := 200) (by omega)
            have q2 := p2pos (l - cutLv k l).toNat
            apply nab_lt
            · omega
            · omega
          refine ⟨⟨n + (1 * 2 ^ (cutLv k l).toNat - 1), f ++ (((rgI 1 (cutLv k l + 1)).map fun s => (1 * 2 ^ (l - cutLv k l).toNat - 1) * 2 ^ (cutLv k l - s).toNat)), l - cutLv k l, e1 - cutLv k l⟩, ⟨by dsimp only; omega, by dsimp only; omega, by dsimp only; omega, by dsimp only; omega, ?_, fu, by dsimp only; omega, ?_, ?_⟩, by dsimp only; omega, ?_⟩
          · dsimp only
            rw [List.length_append, List.length_map, hl]
            omega
          · dsimp only
            dsimp only at p7
            rw [← p7]
            omega
          · dsimp only
            dsimp only at p8
            rw [← p8, List.append_assoc]
          apply tw
          · dsimp only
            apply sd_goN
            walk_at "asg"
            refine sd_ifF (et_is (by walk_at "ev") (dfa b)) ?_
            walk_at "asg"
            apply sd_seq
            apply sd_aug
            · rfl
            · walk_at "ev"
            · walk_at "ev"
            apply sd_seq (r1 := [.dat (.str k), .dat (.int h), .dat (.int d), .dat (.int (n + (1 * 2 ^ (cutLv k l).toNat - 1))), .dat (LI (f ++ (((rgI 1 (cutLv k l + 1)).map fun s => (1 * 2 ^ (l - cutLv k l).toNat - 1) * 2 ^ (cutLv k l - s).toNat)))), .dat (.int l), .dat (.int e1), .dat (.int (cutLv k l)), .dat (.int (1 * 2 ^ (l - cutLv k l).toNat - 1)), .un])
            · apply sd_asg (d := LI (f ++ (((rgI 1 (cutLv k l + 1)).map fun s => (1 * 2 ^ (l - cutLv k l).toNat - 1) * 2 ^ (cutLv k l - s).toNat))))
              · apply ev_new
                apply evn_is
                · apply evn_lst
                  · apply ea_star (ev_var rfl)
                    apply ea_star
                    · apply ev_new
                      apply evn_lcI (it_rng2 (ea_cons ev_int (ea_cons (ev_op (ev_var rfl) ev_int rd_I0) ea_nil)) (by omega) (by omega)) (by rw [hl]; omega)
                      intro x hx
                      have := mem_rgI hx
                      have hs : CShl (1 * 2 ^ (l - cutLv k l).toNat - 1) (cutLv k l - x) := shl_ok hz (by omega) (by omega) (by decide)
                      refine ⟨_, _, gd_name, by walk_at "sc", ?_⟩
                      walk_at "ev"
                    · exact ea_nil
                  · rw [List.append_nil, List.length_append, List.length_map, List.length_map, List.length_map, hl]
                    omega
                · rw [List.append_nil, List.map_append]
              · walk_at "ev"
            · apply sd_par
              walk_at "ev"
          · rfl
    · have e : smF k h d = plF k h d := if_neg a
      rw [e]
      obtain ⟨_, q, c1⟩ := use_fn (K := K) p_plain_sums [.str k, .int h, .int d] ⟨_, _, _, rfl, h1, h2, h3⟩
      obtain rfl := q _ _ _ rfl
      apply sd_seqR
      refine sd_ifT (et_is (by walk_at "ev") (not_fa (dfa a))) ?_
      walk_at "ret"
end
end
end
section
set_option exponentiation.threshold 5000
section
open PySem L2
section
variable {P : Program} {w : World} {K : PySem.W.Frag} {mg : Str → Option Value} {base : Heap}
theorem inj_SIN {k k' : Str} {h h' d d' n n' : Int} (e : [PyData.str k, .int h, ND d n] = [.str k', .int h', ND d' n']) : k = k' ∧ h = h' ∧ d = d' ∧ n = n' := by
  injection e with e1 e2
  injection e2 with e2 e3
  injection e3 with e3 _
  have e4 := PyData.tuple.inj e3
  injection e4 with e5 e6
  injection e6 with e6 _
  exact ⟨PyData.str.inj e1, PyData.int.inj e2, PyData.int.inj e5, PyData.int.inj e6⟩
def Q_spot_of (ds : List PyData) : Prop := ∃ k h d n, ds = [.str k, .int h, ND d n] ∧ 0 ≤ d ∧ d < h ∧ h ≤ 200
def Z_spot_of (ds : List PyData) (z : PyData) : Prop := ∃ m, z = .int m ∧ 0 ≤ m ∧ m ≤ 2 ^ 210
abbrev F_spot_of (P : Program) (w : World) (K : PySem.W.Frag) (mg : Str → Option Value) (base : Heap) : Prop := Fn P w K mg base "spot_of" 3 ["kind", "height", "node"] Q_spot_of Z_spot_of
theorem ok_spot_of (B : Bt w K mg) (D : Df K mg "spot_of" "spot_of" s_spot_of) (h_sums_of : F_sums_of P w K mg base) : F_spot_of P w K mg base := by
  obtain ⟨f_sums_of, p_sums_of, C_sums_of⟩ := h_sums_of
  refine mk_fn D sc_spot_of (fun _ _ _ _ _ _ us hl => match us, hl with | [_, _, _], _ => rfl) ⟨_, fun cdv A outer s H E f hr =>
    (pss_cons (ps_asg (pv 2) (pg_tupK (n := 2) K rfl (pgs_cons (pg_name (i := 3) sc_spot_of.nd rfl (Or.inl rfl)) (pgs_cons (pg_name (i := 4) sc_spot_of.nd rfl (Or.inl rfl)) pgs_nil))))
    (pss_cons (ps_asg (pe_callC C_sums_of hr (by rfl) (pa_cons (pv 0) (pa_cons (pv 1) (pa_cons (pv 3) pa_nil)))) (pg_tupK (n := 2) K rfl (pgs_cons (pg_name (i := 5) sc_spot_of.nd rfl (Or.inl rfl)) (pgs_cons (pg_name (i := 6) sc_spot_of.nd rfl (Or.inl rfl)) pgs_nil))))
    (pss_cons (ps_for PassesOwn.never rfl (pi_enumK K (by rfl) B.enumerate (pa_cons (pv 6) pa_nil)) (pg_tupK (n := 2) K rfl (pgs_cons (pg_name (i := 7) sc_spot_of.nd rfl (Or.inl rfl)) (pgs_cons (pg_name (i := 8) sc_spot_of.nd rfl (Or.inl rfl)) pgs_nil))) (pss_one (ps_if (pt_cmpR op_eq (pe_op op_and (pe_op op_shr (pv 4) (pe_op op_sub (pe_op op_sub (pv 3) pe_int) (pv 7))) pe_int) pe_int (nomark _)) (pss_one (ps_aug (i := 5) sc_spot_of.nd rfl (Or.inl rfl) (pv 8) ip_add)) pss_nil)))
    (pss_one (ps_ret (pv 5)))))), ?_⟩
  rintro ds ⟨k, h, d, n, rfl, h1, h2, h3⟩
  apply rt_se
  show SE K _ [.dat (.str k), .dat (.int h), .dat (ND d n), .un, .un, .un, .un, .un, .un] _
  obtain ⟨_, q, c1⟩ := use_fn (K := K) p_sums_of [.str k, .int h, .int d] ⟨_, _, _, rfl, h1, h2, h3⟩
  obtain rfl := q _ _ _ rfl
  have ok := smF_ok k h1 h2
  generalize smF k h d = S at *
  have hC : (2 : Int) ^ h.toNat ≤ 2 ^ 200 := p2le (by omega)
  walk_at "asg"
  walk_at "asg"
  refine se_for [7, 8] (fun s : Int => [.dat (.str k), .dat (.int h), .dat (ND d n), .dat (.int d), .dat (.int n), .dat (.int s), .dat (LI S.2), .un, .un]) prD (fun j s => 0 ≤ s ∧ s ≤ 2 ^ 200 * ((j : Int) + 1)) (enI 0 S.2) S.1 rfl ⟨ok.n0, by have := ok.n1; omega⟩ (it_enumI (by walk_at "ev")) ?_ ?_
  · rintro j x s hj hx ⟨s1, s2⟩
    have m := enI_mem hx
    have hl := ok.len
    have w0 := ok.w0 _ m.2.2
    have w1 := ok.w1 _ m.2.2
    by_cases c : Builtin.bitAnd (n / 2 ^ (d - 1 - x.1).toNat) 1 = 1
    · refine ⟨s + x.2, ⟨by omega, by omega⟩, ?_⟩
      apply tn
      · walk_at "ev"
      · apply sd_goN
        refine sd_ifT (et_is (by walk_at "ev") (dtr c)) ?_
        apply sd_aug
        · rfl
        · walk_at "ev"
        · walk_at "ev"
      · rfl
    · refine ⟨s, ⟨by omega, by omega⟩, ?_⟩
      apply tn
      · walk_at "ev"
      · apply sd_goN
        refine sd_ifF (et_is (by walk_at "ev") (dfa c)) ?_
        exact sd_next
      · rfl
  · intro s hs
    rw [enI_len] at hs
    have hl := ok.len
    apply se_ret (ev_var rfl)
    exact ⟨s, rfl, hs.1, by have := hs.2; omega⟩
def Q_node_there (ds : List PyData) : Prop := ∃ k h p, ds = [.str k, .int h, .int p] ∧ k ∈ kinds ∧ 1 ≤ h ∧ h ≤ 200 ∧ 0 ≤ p ∧ p < 2 ^ h.toNat - 1
def Z_node (ds : List PyData) (z : PyData) : Prop := ∀ k h p, ds = [.str k, .int h, .int p] → ∃ d n, z = ND d n ∧ 0 ≤ d ∧ d < h ∧ 0 ≤ n ∧ n < 2 ^ d.toNat
abbrev Z_node_there := Z_node
def glS (s : Int × Int) (w : Int) : Int × Int := if w ≤ s.1 then (s.1 - w, s.2 * 2 ^ 1 + 1) else (s.1, s.2 * 2 ^ 1)
theorem glS_gl : ∀ (ws : List Int) (s : Int × Int), (ws.foldl glS s).1 = gl ws s.1
  | [], _ => rfl
  | w :: ws, s => by
    show (ws.foldl glS (glS s w)).1 = gl ws (if w ≤ s.1 then s.1 - w else s.1)
    rw [glS_gl ws]
    unfold glS
    by_cases c : w ≤ s.1
    · rw [if_pos c, if_pos c]
    · rw [if_neg c, if_neg c]
abbrev F_node_there (P : Program) (w : World) (K : PySem.W.Frag) (mg : Str → Option Value) (base : Heap) : Prop := Fn P w K mg base "node_there" 3 ["kind", "height", "place"] Q_node_there Z_node_there
theorem ok_node_there (B : Bt w K mg) (D : Df K mg "node_there" "node_there" s_node_there) (h_sums_of : F_sums_of P w K mg base) : F_node_there P w K mg base := by
  obtain ⟨f_sums_of, p_sums_of, C_sums_of⟩ := h_sums_of
  refine mk_fn D sc_node_there (fun _ _ _ _ _ _ us hl => match us, hl with | [_, _, _], _ => rfl) ⟨_, fun cdv A outer s H E f hr =>
    (pss_cons (ps_for PassesOwn.never rfl (pi_range1 (by rfl) B.range (pa_cons (pv 1) pa_nil)) (pg_name (i := 3) sc_node_there.nd rfl (Or.inl rfl)) (pss_cons (ps_asg (pe_callC C_sums_of hr (by rfl) (pa_cons (pv 0) (pa_cons (pv 1) (pa_cons (pv 3) pa_nil)))) (pg_tupK (n := 2) K rfl (pgs_cons (pg_name (i := 4) sc_node_there.nd rfl (Or.inl rfl)) (pgs_cons (pg_name (i := 5) sc_node_there.nd rfl (Or.inl rfl)) pgs_nil))))
    (pss_cons (ps_par (i := 6) (j := 7) rfl sc_node_there.nd rfl rfl (by decide) rfl rfl  (pa_cons (pe_op op_sub (pv 2) (pv 4)) (pa_cons pe_int pa_nil)) (by rfl))
    (pss_cons (ps_for PassesOwn.never rfl (pi_listK K (pv 5)) (pg_name (i := 8) sc_node_there.nd rfl (Or.inl rfl)) (pss_cons (ps_aug (i := 7) sc_node_there.nd rfl (Or.inl rfl) pe_int iop_shlW)
    (pss_one (ps_if (pt_cmpR op_ge (pv 6) (pv 8) (nomark _)) (pss_one (ps_par (i := 6) (j := 7) rfl sc_node_there.nd rfl rfl (by decide) rfl rfl  (pa_cons (pe_op op_sub (pv 6) (pv 8)) (pa_cons (pe_op op_add (pv 7) pe_int) pa_nil)) (by rfl))) pss_nil))))
    (pss_one (ps_if (pt_cmpR op_eq (pv 6) pe_int (nomark _)) (pss_one (ps_ret (pe_tup (pa_cons (pv 3) (pa_cons (pv 7) pa_nil))))) pss_nil))))))
    (pss_one (ps_ret pe_non))), ?_⟩
  rintro ds ⟨k, h, p, rfl, hk, h1, h2, h3, h4⟩
  apply rt_se
  show SE K _ [.dat (.str k), .dat (.int h), .dat (.int p), .un, .un, .un, .un, .un, .un] _
  obtain ⟨d0, e1, e2, e3⟩ := smF_there hk h1 h3 h4
  refine se_first [3, 4, 5, 6, 7, 8] [.dat (.str k), .dat (.int h), .dat (.int p), .un, .un, .un, .un, .un, .un] PyData.int (fun d => decide (gl (smF k h d).2 (p - (smF k h d).1) = 0)) (rgI 0 h) rfl (it_rng1 (by walk_at "ev") ⟨by omega, by omega⟩) ⟨d0, ?_, dtr e3⟩ ?_
  · unfold rgI
    exact List.mem_map.mpr ⟨d0.toNat, List.mem_range.mpr (by omega), by omega⟩
  · intro d hd
    have hd := mem_rgI hd
    obtain ⟨_, q, c1⟩ := use_fn (K := K) p_sums_of [.str k, .int h, .int d] ⟨_, _, _, rfl, hd.1, hd.2, h2⟩
    obtain rfl := q _ _ _ rfl
    have ok := smF_ok k hd.1 hd.2
    generalize smF k h d = S at *
    have hl := ok.len
    refine ⟨_, _, ND d (S.2.foldl glS (p - S.1, 0)).2, [.dat (.str k), .dat (.int h), .dat (.int p), .dat (.int d), .dat (.int S.1), .dat (LI S.2), .dat (.int (S.2.foldl glS (p - S.1, 0)).1), .dat (.int (S.2.foldl glS (p - S.1, 0)).2), .un], gd_name, ?_, ?_, rfl⟩
    · walk_at "asg"
      walk_at "par"
      refine sd_fold [8] (fun s : Int × Int => [.dat (.str k), .dat (.int h), .dat (.int p), .dat (.int d), .dat (.int S.1), .dat (LI S.2), .dat (.int s.1), .dat (.int s.2), .un]) PyData.int glS (fun i s => 0 ≤ s.2 ∧ s.2 < 2 ^ i) S.2 (p - S.1, 0) rfl ⟨Int.le_refl 0, (by decide : (0 : Int) < 2 ^ 0)⟩ (it_list (by walk_at "ev")) ?_ fun _ => ?_
      · intro j x s hj hx hs
        have e2 : (2 : Int) ^ 1 = 2 := by decide
        have e3 : (2 : Int) ^ (1 : Int).toNat = 2 ^ 1 := rfl
        have h5 : s.2 * 2 ^ 1 + 1 < 2 ^ (j + 1) := by rw [e2, p2succ]; omega
        have h6 : s.2.natAbs < 2 ^ 200 := nab_lt hs.1 (Int.lt_of_lt_of_le hs.2 (pow_le (by omega)))
        have hm : CShl s.2 1 := shl_ok h6 (by decide) (by decide) (by decide)
        by_cases hc : x ≤ s.1
        · have e : glS s x = (s.1 - x, s.2 * 2 ^ 1 + 1) := if_pos hc
          rw [e]
          refine ⟨⟨by show 0 ≤ s.2 * 2 ^ 1 + 1; rw [e2]; omega, h5⟩, ?_⟩
          apply tn
          · walk_at "ev"
          · apply sd_goN
            walk_at "aug"
            refine sd_ifT (et_is (by walk_at "ev") (dtr hc)) ?_
            apply sd_par
            walk_at "ev"
          · rfl
        · have e : glS s x = (s.1, s.2 * 2 ^ 1) := if_neg hc
          rw [e]
          refine ⟨⟨by show 0 ≤ s.2 * 2 ^ 1; rw [e2]; omega, by show s.2 * 2 ^ 1 < _; omega⟩, ?_⟩
          apply tn
          · walk_at "ev"
          · apply sd_goN
            walk_at "aug"
            refine sd_ifF (et_is (by walk_at "ev") (dfa hc)) ?_
            exact sd_next
          · rfl
      · have eg := glS_gl S.2 (p - S.1, 0)
        by_cases c : gl S.2 (p - S.1) = 0
        · rw [if_pos (dtr c)]
          refine sd_ifT (et_is (by walk_at "ev") (dtr (eg.trans c))) ?_
          walk_at "ret"
        · rw [if_neg (fun a => c (of_decide_eq_true a))]
          apply sd_goN
          refine sd_ifF (et_is (by walk_at "ev") (dfa (fun a => c (eg.symm.trans a)))) ?_
          exact sd_next
    · intro _ k' h' p' e
      obtain ⟨rfl, rfl, rfl⟩ := inj_SII e
      have key : ∀ (ws : List Int) (s : Int × Int) (i : Nat), 0 ≤ s.2 → s.2 < 2 ^ i → 0 ≤ (ws.foldl glS s).2 ∧ (ws.foldl glS s).2 < 2 ^ (i + ws.length) := by
        intro ws
        induction ws with
        | nil => exact fun s i a b => ⟨a, b⟩
        | cons w ws ih =>
          intro s i a b
          have e2 : (2 : Int) ^ 1 = 2 := by decide
          have z : 0 ≤ (glS s w).2 ∧ (glS s w).2 < 2 ^ (i + 1) := by
            unfold glS
            rw [p2succ]
            by_cases c : w ≤ s.1
            · rw [if_pos c]
              exact ⟨by show 0 ≤ s.2 * 2 ^ 1 + 1; rw [e2]; omega, by show s.2 * 2 ^ 1 + 1 < _; rw [e2]; omega⟩
            · rw [if_neg c]
              exact ⟨by show 0 ≤ s.2 * 2 ^ 1; rw [e2]; omega, by show s.2 * 2 ^ 1 < _; rw [e2]; omega⟩
          have := ih (glS s w) (i + 1) z.1 z.2
          rw [List.length_cons]
          have e : i + (ws.length + 1) = i + 1 + ws.length := by omega
          rw [e]
          exact this
      have z := key S.2 (p - S.1, 0) 0 (Int.le_refl 0) (by decide : (0 : Int) < 2 ^ 0)
      have e : 0 + S.2.length = d.toNat := by omega
      rw [e] at z
      exact ⟨d, _, rfl, hd.1, hd.2, z.1, z.2⟩
def Q_tree (ds : List PyData) : Prop := ∃ k h, ds = [.str k, .int h] ∧ k ∈ kinds ∧ 1 ≤ h ∧ h ≤ 100
abbrev Q_require_tree_orders := Q_tree
abbrev Z_require_tree_orders := Z_require
abbrev Q_require_tree_ways := Q_tree
abbrev Z_require_tree_ways := Z_require
abbrev F_require_tree_orders (P : Program) (w : World) (K : PySem.W.Frag) (mg : Str → Option Value) (base : Heap) : Prop := Fn P w K mg base "require_tree_orders" 4 ["kind", "height"] Q_require_tree_orders Z_require_tree_orders
theorem ok_require_tree_orders (B : Bt w K mg) (D : Df K mg "require_tree_orders" "require_tree" s_require_tree_orders) (h_require_kind : F_require_kind P w K mg base) (h_require_height : F_require_height P w K mg base) : F_require_tree_orders P w K mg base := by
  obtain ⟨f_require_kind, p_require_kind, C_require_kind⟩ := h_require_kind
  obtain ⟨f_require_height, p_require_height, C_require_height⟩ := h_require_height
  refine mk_fn D sc_require_tree_orders (fun _ _ _ _ _ _ us hl => match us, hl with | [_, _], _ => rfl) ⟨_, fun cdv A outer s H E f hr =>
    (pss_cons (ps_expr (pe_callC C_require_kind hr (by rfl) (pa_cons (pv 0) pa_nil)))
    (pss_one (ps_expr (pe_callC C_require_height hr (by rfl) (pa_cons (pv 1) pa_nil))))), ?_⟩
  rintro ds ⟨k, h, rfl, hk, h1, h2⟩
  refine ⟨.none, rfl, ?_⟩
  apply rt_nx
  show SD K _ [.dat (.str k), .dat (.int h)] _
  obtain ⟨_, rfl, c1⟩ := use_fn (K := K) p_require_kind [.str k] ⟨_, rfl, hk⟩
  obtain ⟨_, rfl, c2⟩ := use_fn (K := K) p_require_height [.int h] ⟨_, rfl, h1, h2⟩
  walk_at "drop"
  apply sd_drop
  walk_at "ev"
abbrev F_require_tree_ways (P : Program) (w : World) (K : PySem.W.Frag) (mg : Str → Option Value) (base : Heap) : Prop := Fn P w K mg base "require_tree_ways" 4 ["kind", "height"] Q_require_tree_ways Z_require_tree_ways
theorem ok_require_tree_ways (B : Bt w K mg) (D : Df K mg "require_tree_ways" "require_tree" s_require_tree_ways) (h_require_kind : F_require_kind P w K mg base) (h_require_height : F_require_height P w K mg base) : F_require_tree_ways P w K mg base := by
  obtain ⟨f_require_kind, p_require_kind, C_require_kind⟩ := h_require_kind
  obtain ⟨f_require_height, p_require_height, C_require_height⟩ := h_require_height
  refine mk_fn D sc_require_tree_ways (fun _ _ _ _ _ _ us hl => match us, hl with | [_, _], _ => rfl) ⟨_, fun cdv A outer s H E f hr =>
    (pss_cons (ps_expr (pe_callC C_require_kind hr (by rfl) (pa_cons (pv 0) pa_nil)))
    (pss_one (ps_expr (pe_callC C_require_height hr (by rfl) (pa_cons (pv 1) pa_nil))))), ?_⟩
  rintro ds ⟨k, h, rfl, hk, h1, h2⟩
  refine ⟨.none, rfl, ?_⟩
  apply rt_nx
  show SD K _ [.dat (.str k), .dat (.int h)] _
  obtain ⟨_, rfl, c1⟩ := use_fn (K := K) p_require_kind [.str k] ⟨_, rfl, hk⟩
  obtain ⟨_, rfl, c2⟩ := use_fn (K := K) p_require_height [.int h] ⟨_, rfl, h1, h2⟩
  walk_at "drop"
  apply sd_drop
  walk_at "ev"
def Q_place_of (ds : List PyData) : Prop := ∃ k h d n, ds = [.str k, .int h, ND d n] ∧ k ∈ kinds ∧ 1 ≤ h ∧ h ≤ 100 ∧ 0 ≤ d ∧ d < h ∧ 0 ≤ n ∧ n < 2 ^ d.toNat
abbrev Z_place_of := Z_spot_of
abbrev F_place_of (P : Program) (w : World) (K : PySem.W.Frag) (mg : Str → Option Value) (base : Heap) : Prop := Fn P w K mg base "place_of" 5 ["kind", "height", "node"] Q_place_of Z_place_of
theorem ok_place_of (B : Bt w K mg) (D : Df K mg "place_of" "place_of" s_place_of) (h_require_tree_orders : F_require_tree_orders P w K mg base) (h_require_node : F_require_node P w K mg base) (h_spot_of : F_spot_of P w K mg base) : F_place_of P w K mg base := by
  obtain ⟨f_require_tree_orders, p_require_tree_orders, C_require_tree_orders⟩ := h_require_tree_orders
  obtain ⟨f_require_node, p_require_node, C_require_node⟩ := h_require_node
  obtain ⟨f_spot_of, p_spot_of, C_spot_of⟩ := h_spot_of
  refine mk_fn D sc_place_of (fun _ _ _ _ _ _ us hl => match us, hl with | [_, _, _], _ => rfl) ⟨_, fun cdv A outer s H E f hr =>
    (pss_cons (ps_expr (pe_callC C_require_tree_orders hr (by rfl) (pa_cons (pv 0) (pa_cons (pv 1) pa_nil))))
    (pss_cons (ps_expr (pe_callC C_require_node hr (by rfl) (pa_cons (pv 1) (pa_cons (pv 2) pa_nil))))
    (pss_one (ps_ret (pe_callC C_spot_of hr (by rfl) (pa_cons (pv 0) (pa_cons (pv 1) (pa_cons (pv 2) pa_nil)))))))), ?_⟩
  rintro ds ⟨k, h, d, n, rfl, hk, h1, h2, h3, h4, h5, h6⟩
  apply rt_se
  show SE K _ [.dat (.str k), .dat (.int h), .dat (ND d n)] _
  obtain ⟨_, rfl, c1⟩ := use_fn (K := K) p_require_tree_orders [.str k, .int h] ⟨_, _, rfl, hk, h1, h2⟩
  obtain ⟨_, rfl, c2⟩ := use_fn (K := K) p_require_node [.int h, ND d n] ⟨_, _, _, rfl, h3, h4, by omega, h5, h6⟩
  obtain ⟨z, hz, c3⟩ := use_fn (K := K) p_spot_of [.str k, .int h, ND d n] ⟨_, _, _, _, rfl, h3, h4, by omega⟩
  walk_at "drop"
  walk_at "drop"
  refine se_ret ?_ hz
  walk_at "ev"
def Q_node_at (ds : List PyData) : Prop := ∃ k h p, ds = [.str k, .int h, .int p] ∧ k ∈ kinds ∧ 1 ≤ h ∧ h ≤ 100 ∧ 0 ≤ p ∧ p < 2 ^ h.toNat - 1
abbrev Z_node_at := Z_node
abbrev F_node_at (P : Program) (w : World) (K : PySem.W.Frag) (mg : Str → Option Value) (base : Heap) : Prop := Fn P w K mg base "node_at" 5 ["kind", "height", "place"] Q_node_at Z_node_at
theorem ok_node_at (B : Bt w K mg) (D : Df K mg "node_at" "node_at" s_node_at) (h_require_tree_orders : F_require_tree_orders P w K mg base) (h_require_place : F_require_place P w K mg base) (h_node_there : F_node_there P w K mg base) : F_node_at P w K mg base := by
  obtain ⟨f_require_tree_orders, p_require_tree_orders, C_require_tree_orders⟩ := h_require_tree_orders
  obtain ⟨f_require_place, p_require_place, C_require_place⟩ := h_require_place
  obtain ⟨f_node_there, p_node_there, C_node_there⟩ := h_node_there
  refine mk_fn D sc_node_at (fun _ _ _ _ _ _ us hl => match us, hl with | [_, _, _], _ => rfl) ⟨_, fun cdv A outer s H E f hr =>
    (pss_cons (ps_expr (pe_callC C_require_tree_orders hr (by rfl) (pa_cons (pv 0) (pa_cons (pv 1) pa_nil))))
    (pss_cons (ps_expr (pe_callC C_require_place hr (by rfl) (pa_cons (pv 1) (pa_cons (pv 2) pa_nil))))
    (pss_one (ps_ret (pe_callC C_node_there hr (by rfl) (pa_cons (pv 0) (pa_cons (pv 1) (pa_cons (pv 2) pa_nil)))))))), ?_⟩
  rintro ds ⟨k, h, p, rfl, hk, h1, h2, h3, h4⟩
  apply rt_se
  show SE K _ [.dat (.str k), .dat (.int h), .dat (.int p)] _
  obtain ⟨_, rfl, c1⟩ := use_fn (K := K) p_require_tree_orders [.str k, .int h] ⟨_, _, rfl, hk, h1, h2⟩
  obtain ⟨_, rfl, c2⟩ := use_fn (K := K) p_require_place [.int h, .int p] ⟨_, _, rfl, h1, h2, h3, h4⟩
  obtain ⟨z, hz, c3⟩ := use_fn (K := K) p_node_there [.str k, .int h, .int p] ⟨_, _, _, rfl, hk, h1, by omega, h3, h4⟩
  walk_at "drop"
  walk_at "drop"
  refine se_ret ?_ hz
  walk_at "ev"
end
end
end
section
set_option exponentiation.threshold 5000
section
open PySem L2
section
variable {P : Program} {w : World} {K : PySem.W.Frag} {mg : Str → Option Value} {base : Heap}
def tri (t : Int × Int × Int) : PyData := .tuple [.int t.1, .int t.2.1, .int t.2.2]
def Q_cut_treesR (r : Nat) (ds : List PyData) : Prop := ∃ k h, ds = [.str k, .int h] ∧ k ∈ cutK ∧ 1 ≤ h ∧ 2 * h ≤ 2 ^ r ∧ h ≤ 200
def Z_cut_trees (ds : List PyData) (z : PyData) : Prop := ∀ k h, ds = [.str k, .int h] → ∃ ts : List (Int × Int × Int), z = .list (ts.map tri) ∧ (ts.length : Int) + 1 = h ∧ ∀ t ∈ ts, 2 ≤ t.2.1 ∧ t.2.1 ≤ h ∧ t.2.2 = cutLv k t.2.1
theorem cut_trees_step (B : Bt w K mg) (D : Df K mg "cut_trees" "cut_trees" s_cut_trees) (h_cut_levels : F_cut_levels P w K mg base) (r : Nat) (h_cut_trees : Fn P w K mg base "cut_trees" (r + 2) ["kind", "height"] (Q_cut_treesR r) Z_cut_trees) : Fn P w K mg base "cut_trees" (r + 2 + 1) ["kind", "height"] (Q_cut_treesR (r + 1)) Z_cut_trees := by
  obtain ⟨f_cut_levels, p_cut_levels, C_cut_levels⟩ := h_cut_levels
  obtain ⟨f_cut_trees, p_cut_trees, C_cut_trees⟩ := h_cut_trees
  refine mk_fn D sc_cut_trees (fun _ _ _ _ _ _ us hl => match us, hl with | [_, _], _ => rfl) ⟨_, fun cdv A outer s H E f hr =>
    (pss_cons (ps_if (pt_cmpR op_eq (pv 1) pe_int (nomark _)) (pss_one (ps_ret (pe_lst pa_nil))) pss_nil)
    (pss_cons (ps_set (i := 2) sc_cut_trees.nd rfl (Or.inr rfl) (pe_callC C_cut_levels hr (by rfl) (pa_cons (pv 0) (pa_cons (pv 1) pa_nil))))
    (pss_cons (ps_setLc (i := 3) (own := [("begin", 4), ("levels", 5), ("part", 6)]) rfl sc_cut_trees.nd rfl rfl (sw_true rfl rfl rfl (by decide +kernel)) (pi_listK K (pe_callC C_cut_trees hr (by rfl) (pa_cons (pv 0) (pa_cons (pe_op op_sub (pv 1) (pv 2)) pa_nil)))) (blkOk_by (own := [("begin", 4), ("levels", 5), ("part", 6)]) (N := n_cut_trees) (sc := defScope s_cut_trees) (by decide +kernel)) (fun _ _ _ _ _ => (pg_tupK (n := 3) K rfl (pgs_cons (pg_name (i := 4) sc_cut_trees.nd rfl (Or.inl rfl)) (pgs_cons (pg_name (i := 5) sc_cut_trees.nd rfl (Or.inl rfl)) (pgs_cons (pg_name (i := 6) sc_cut_trees.nd rfl (Or.inl rfl)) pgs_nil))))) (fun _ _ _ _ _ => pts_nil) (fun _ _ _ _ _ => (pe_tup (pa_cons (pe_op op_add (pv 4) (pv 2)) (pa_cons (pv 5) (pa_cons (pv 6) pa_nil))))))
    (pss_one (ps_ret (pe_lst (pa_starK K (pe_callC C_cut_trees hr (by rfl) (pa_cons (pv 0) (pa_cons (pv 2) pa_nil))) (pa_cons (pe_tup (pa_cons pe_int (pa_cons (pv 1) (pa_cons (pv 2) pa_nil)))) (pa_starK K (pv 3) pa_nil))))))))), ?_⟩
  rintro ds ⟨k, h, rfl, hk, h1, h2, h3⟩
  apply rt_se
  show SE K _ [.dat (.str k), .dat (.int h), .un, .un, .un, .un, .un] _
  by_cases e : h = 1
  · apply se_seqR
    refine se_ifT (et_is (by walk_at "ev") (dtr e)) ?_
    refine se_ret (d := .list []) (by walk_at "ev") ?_
    intro k' h' q
    obtain ⟨rfl, rfl⟩ := inj_SI q
    exact ⟨[], rfl, by subst e; rfl, fun t ht => nomatch ht⟩
  · obtain ⟨t1, t2, t3⟩ := cutLv_bd (k := k) (h := h) (by omega)
    have hr : 1 ≤ r := by
      apply Classical.byContradiction
      intro hn
      have : r = 0 := by omega
      subst this
      have : (2 : Int) ^ (0 + 1) = 2 := by decide
      omega
    obtain ⟨r', rfl⟩ : ∃ r', r = r' + 1 := ⟨r - 1, by omega⟩
    have hh := cutLv_half (k := k) (h := h) (r := r') (by omega) (by rw [p2succ] at h2; omega)
    have e9 : (2 : Int) ^ (r' + 1) = 2 * 2 ^ r' := p2succ r'
    obtain ⟨_, q, c1⟩ := use_fn (K := K) p_cut_levels [.str k, .int h] ⟨_, _, rfl, hk, by omega, by omega⟩
    obtain rfl := q _ _ rfl
    obtain ⟨_, q2, c2⟩ := use_fn (K := K) p_cut_trees [.str k, .int (h - cutLv k h)] ⟨_, _, rfl, hk, by omega, by omega, by omega⟩
    obtain ⟨ts2, rfl, l2, g2⟩ := q2 _ _ rfl
    obtain ⟨_, q3, c3⟩ := use_fn (K := K) p_cut_trees [.str k, .int (cutLv k h)] ⟨_, _, rfl, hk, by omega, by omega, by omega⟩
    obtain ⟨ts3, rfl, l3, g3⟩ := q3 _ _ rfl
    refine se_seq (sd_ifF (et_is (by walk_at "ev") (dfa e)) sd_next) ?_
    walk_at "asg"
    apply se_seq (r1 := [.dat (.str k), .dat (.int h), .dat (.int (cutLv k h)), .dat (.list ((ts2.map fun t => (t.1 + cutLv k h, t.2.1, t.2.2)).map tri)), .un, .un, .un])
    · apply sd_asg (d := .list ((ts2.map fun t => (t.1 + cutLv k h, t.2.1, t.2.2)).map tri))
      · apply ev_new
        rw [List.map_map]
        apply evn_lcM
        · apply it_list
          walk_at "ev"
        · omega
        · intro t ht
          refine ⟨_, _, gd_tup (gds_cons gd_name (gds_cons gd_name (gds_cons gd_name gds_nil))) rfl, by walk_at "sc", ?_⟩
          show Ev K _ _ (.tuple [.int (t.1 + cutLv k h), .int t.2.1, .int t.2.2])
          walk_at "ev"
      · walk_at "ev"
    refine se_ret (d := .list ((ts3 ++ (0, h, cutLv k h) :: ts2.map fun t => (t.1 + cutLv k h, t.2.1, t.2.2)).map tri)) ?_ ?_
    · apply ev_new
      apply evn_is
      · apply evn_lst
        · apply ea_star
          · walk_at "ev"
          · apply ea_cons
            · walk_at "ev"
            · apply ea_star
              · walk_at "ev"
              · walk_at "ev"
        · rw [List.append_nil, List.length_append, List.length_cons, List.length_map, List.length_map, List.length_map]
          omega
      · rw [List.append_nil, List.map_append, List.map_cons]
        rfl
    · intro k' h' q
      obtain ⟨rfl, rfl⟩ := inj_SI q
      refine ⟨_, rfl, ?_, ?_⟩
      · rw [List.length_append, List.length_cons, List.length_map]
        omega
      · intro t ht
        rcases List.mem_append.mp ht with ht | ht
        · have := g3 t ht
          exact ⟨this.1, by omega, this.2.2⟩
        · rcases List.mem_cons.mp ht with rfl | ht
          · exact ⟨by dsimp only; omega, Int.le_refl _, rfl⟩
          · obtain ⟨u, hu, rfl⟩ := List.mem_map.mp ht
            have := g2 u hu
            exact ⟨this.1, by dsimp only; omega, this.2.2⟩
theorem ok_cut_treesR (B : Bt w K mg) (D : Df K mg "cut_trees" "cut_trees" s_cut_trees) (h_cut_levels : F_cut_levels P w K mg base) : ∀ r : Nat, Fn P w K mg base "cut_trees" (r + 2) ["kind", "height"] (Q_cut_treesR r) Z_cut_trees
  | 0 => fn_false D sc_cut_trees (fun _ _ _ _ _ _ us hl => match us, hl with | [_, _], _ => rfl) (by
    rintro ds ⟨k, h, _, _, h1, h2, _⟩
    have : (2 : Int) ^ 0 = 1 := by decide
    omega)
  | r + 1 => cut_trees_step B D h_cut_levels r (ok_cut_treesR B D h_cut_levels r)
abbrev Q_cut_trees := Q_cut_treesR 8
abbrev F_cut_trees (P : Program) (w : World) (K : PySem.W.Frag) (mg : Str → Option Value) (base : Heap) : Prop := Fn P w K mg base "cut_trees" 10 ["kind", "height"] Q_cut_trees Z_cut_trees
theorem ok_cut_trees (B : Bt w K mg) (D : Df K mg "cut_trees" "cut_trees" s_cut_trees) (h_cut_levels : F_cut_levels P w K mg base) : F_cut_trees P w K mg base := ok_cut_treesR B D h_cut_levels 8
def Q_cut_gap (ds : List PyData) : Prop := ∃ k l, ds = [.str k, .int l, .int (cutLv k l)] ∧ k ∈ cutK ∧ 2 ≤ l ∧ l ≤ 200
def Z_cut_gap (ds : List PyData) (z : PyData) : Prop := ∀ k l, ds = [.str k, .int l, .int (cutLv k l)] → z = .tuple [.int (cgF k l).1, LI (cgF k l).2]
abbrev F_cut_gap (P : Program) (w : World) (K : PySem.W.Frag) (mg : Str → Option Value) (base : Heap) : Prop := Fn P w K mg base "cut_gap" 3 ["kind", "levels", "top"] Q_cut_gap Z_cut_gap
theorem ok_cut_gap (B : Bt w K mg) (D : Df K mg "cut_gap" "cut_gap" s_cut_gap) (h_sums_of : F_sums_of P w K mg base) : F_cut_gap P w K mg base := by
  obtain ⟨f_sums_of, p_sums_of, C_sums_of⟩ := h_sums_of
  refine mk_fn D sc_cut_gap (fun _ _ _ _ _ _ us hl => match us, hl with | [_, _, _], _ => rfl) ⟨_, fun cdv A outer s H E f hr =>
    (pss_cons (ps_asg (pe_callC C_sums_of hr (by rfl) (pa_cons (pv 0) (pa_cons (pv 2) (pa_cons (pe_op op_sub (pv 2) pe_int) pa_nil)))) (pg_tupK (n := 2) K rfl (pgs_cons (pg_name (i := 3) sc_cut_gap.nd rfl (Or.inl rfl)) (pgs_cons (pg_name (i := 4) sc_cut_gap.nd rfl (Or.inl rfl)) pgs_nil))))
    (pss_cons (ps_set (i := 5) sc_cut_gap.nd rfl (Or.inr rfl) (pe_op op_sub (pe_op op_shlW pe_int (pe_op op_sub (pv 1) (pv 2))) pe_int))
    (pss_cons (ps_setLc (i := 6) (own := [("step", 7), ("weight", 8)]) rfl sc_cut_gap.nd rfl rfl (sw_true rfl rfl rfl (by decide +kernel)) (pi_enumGK K (by rfl) B.enumerate (pa_cons (pe_lst (pa_starK K (pv 4) (pa_cons pe_int pa_nil))) (pa_cons pe_int pa_nil))) (blkOk_by (own := [("step", 7), ("weight", 8)]) (N := n_cut_gap) (sc := defScope s_cut_gap) (by decide +kernel)) (fun _ _ _ _ _ => (pg_tupK (n := 2) K rfl (pgs_cons (pg_name (i := 7) sc_cut_gap.nd rfl (Or.inl rfl)) (pgs_cons (pg_name (i := 8) sc_cut_gap.nd rfl (Or.inl rfl)) pgs_nil)))) (fun _ _ _ _ _ => pts_nil) (fun _ _ _ _ _ => (pe_op op_sub (pe_op op_shlW (pv 5) (pe_op op_sub (pv 2) (pv 7))) (pv 8))))
    (pss_one (ps_ret (pe_tup (pa_cons (pe_op op_sub (pe_op op_sub (pe_op op_shlW pe_int (pv 2)) pe_int) (pv 3)) (pa_cons (pv 6) pa_nil)))))))), ?_⟩
  rintro ds ⟨k, l, rfl, hk, h1, h2⟩
  refine ⟨.tuple [.int (cgF k l).1, LI (cgF k l).2], fun k' l' e => ?_, .inl ?_⟩
  · obtain ⟨rfl, rfl, _⟩ := inj_SII e
    rfl
  obtain ⟨t1, t2, t3⟩ := cutLv_bd (k := k) (h := l) (by omega)
  show SD K _ [.dat (.str k), .dat (.int l), .dat (.int (cutLv k l)), .un, .un, .un, .un, .un, .un] _
  obtain ⟨_, q, c1⟩ := use_fn (K := K) p_sums_of [.str k, .int (cutLv k l), .int (cutLv k l - 1)] ⟨_, _, _, rfl, by omega, by omega, by omega⟩
  obtain rfl := q _ _ _ rfl
  have ok := smF_ok k (h := cutLv k l) (d := cutLv k l - 1) (by omega) (by omega)
  have hl := ok.len
  walk_at "asg"
  walk_at "asg"
  have hz : (1 * 2 ^ (l - cutLv k l).toNat - 1 : Int).natAbs < 2 ^ 200 := by
    have q1 := p2le (a := (l - cutLv k l).toNat) (b := 200) (by omega)
    have q2 := p2pos (l - cutLv k l).toNat
    apply nab_lt
    · omega
    · omega
  have hl1 : ((smF k (cutLv k l) (cutLv k l - 1)).2 ++ [0]).length = (cutLv k l).toNat := by
    rw [List.length_append]
    show _ + 1 = _
    omega
  apply sd_seq (r1 := [.dat (.str k), .dat (.int l), .dat (.int (cutLv k l)), .dat (.int (smF k (cutLv k l) (cutLv k l - 1)).1), .dat (LI (smF k (cutLv k l) (cutLv k l - 1)).2), .dat (.int (1 * 2 ^ (l - cutLv k l).toNat - 1)), .dat (LI (cgF k l).2), .un, .un])
  · apply sd_asg (d := LI (cgF k l).2)
    · apply ev_new
      apply evn_lcI (xs := enI 1 ((smF k (cutLv k l) (cutLv k l - 1)).2 ++ [0])) (e := prD)
      · apply it_enumGI
        · apply ea_cons
          · apply ev_new
            apply evn_is
            · apply evn_lst
              · apply ea_star (ev_var rfl)
                walk_at "ev"
              · rw [List.length_append, List.length_map]
                show _ + 1 ≤ _
                omega
            · rw [List.map_append]
              rfl
          · walk_at "ev"
        · omega
      · rw [enI_len, hl1]
        omega
      · intro x hx
        have m := enI_mem hx
        rw [hl1] at m
        have hs : CShl (1 * 2 ^ (l - cutLv k l).toNat - 1) (cutLv k l - x.1) := shl_ok hz (by omega) (by omega) (by decide)
        refine ⟨_, _, gd_tup (gds_cons gd_name (gds_cons gd_name gds_nil)) rfl, by walk_at "sc", ?_⟩
        show Ev K _ _ (.int ((1 * 2 ^ (l - cutLv k l).toNat - 1) * 2 ^ (cutLv k l - x.1).toNat - x.2))
        walk_at "ev"
    · walk_at "ev"
  show SD K _ _ (.rt (.tuple [.int (1 * 2 ^ (cutLv k l).toNat - 1 - (smF k (cutLv k l) (cutLv k l - 1)).1), LI (cgF k l).2]))
  walk_at "ret"
def gpD (p : Int × List Int) : PyData := .tuple [.int p.1, LI p.2]
def Q_gaps (ds : List PyData) : Prop := ∃ k h, ds = [.str k, .int h] ∧ k ∈ kinds ∧ 1 ≤ h ∧ h ≤ 100
def GpOk (p : Int × List Int) : Prop := 0 ≤ p.1 ∧ p.1 ≤ 2 ^ 100 ∧ 0 ≤ p.2.sum ∧ p.2.sum ≤ 2 ^ 100 * 100
def Z_gaps (ds : List PyData) (z : PyData) : Prop := ∀ k h, ds = [.str k, .int h] → ∃ ps : List (Int × List Int), z = .list (ps.map gpD) ∧ ps.length ≤ 100 ∧ ∀ p ∈ ps, GpOk p
abbrev F_gaps (P : Program) (w : World) (K : PySem.W.Frag) (mg : Str → Option Value) (base : Heap) : Prop := Fn P w K mg base "gaps" 11 ["kind", "height"] Q_gaps Z_gaps
theorem ok_gaps (B : Bt w K mg) (D : Df K mg "gaps" "gaps" s_gaps) (h_cut_trees : F_cut_trees P w K mg base) (h_cut_gap : F_cut_gap P w K mg base) : F_gaps P w K mg base := by
  obtain ⟨f_cut_trees, p_cut_trees, C_cut_trees⟩ := h_cut_trees
  obtain ⟨f_cut_gap, p_cut_gap, C_cut_gap⟩ := h_cut_gap
  refine mk_fn D sc_gaps (fun _ _ _ _ _ _ us hl => match us, hl with | [_, _], _ => rfl) ⟨_, fun cdv A outer s H E f hr =>
    (pss_cons (ps_set (i := 2) sc_gaps.nd rfl (Or.inl rfl) (pe_listRg rfl (by rfl) B.list (prg_2 (by rfl) B.range pe_int (pv 1))))
    (pss_cons (ps_if (pt_cmpR op_eq (pv 0) pe_str (nomark _)) (pss_one (ps_ret (pe_lc (own := [("depth", 3)]) rfl sc_gaps.nd (pi_listK K (pv 2)) (blkOk_by (own := [("depth", 3)]) (N := n_gaps) (sc := defScope s_gaps) (by decide +kernel)) (fun _ _ _ _ _ => (pg_name (i := 3) sc_gaps.nd rfl (Or.inr rfl))) (fun _ _ _ _ _ => pts_nil) (fun _ _ _ _ _ => (pe_tup (pa_cons (pe_op op_shlW pe_int (pe_op op_sub (pv 3) pe_int)) (pa_cons (pe_lc (own := [("step", 4)]) rfl sc_gaps.nd (pi_range2 (by rfl) B.range (pa_cons pe_int (pa_cons (pe_op op_add (pv 3) pe_int) pa_nil))) (blkOk_by (own := [("step", 4)]) (N := n_gaps) (sc := { kind := .function, names := [(".0", .local), ("depth", .cell), ("range", .globalImplicit)], isGenerator := false, isCoroutine := false }) (by decide +kernel)) (fun _ _ _ _ _ => (pg_name (i := 4) sc_gaps.nd rfl (Or.inl rfl))) (fun _ _ _ _ _ => pts_nil) (fun _ _ _ _ _ => (pe_op op_shlW pe_int (pe_callB (call_max2 rfl) (by rfl) B.max (by decide +kernel) (pa_cons pe_int (pa_cons (pe_op op_sub (pe_op op_sub (pv 3) pe_int) (pv 4)) pa_nil)))))) pa_nil))))))) pss_nil)
    (pss_cons (ps_if (pt_cmpR op_eq (pv 0) pe_str (nomark _)) (pss_one (ps_ret (pe_lc (own := [("depth", 3)]) rfl sc_gaps.nd (pi_listK K (pv 2)) (blkOk_by (own := [("depth", 3)]) (N := n_gaps) (sc := defScope s_gaps) (by decide +kernel)) (fun _ _ _ _ _ => (pg_name (i := 3) sc_gaps.nd rfl (Or.inl rfl))) (fun _ _ _ _ _ => pts_nil) (fun _ _ _ _ _ => (pe_tup (pa_cons (pe_op op_shlW pe_int (pe_op op_sub (pe_op op_sub (pv 1) pe_int) (pv 3))) (pa_cons (pe_lst pa_nil) pa_nil))))))) pss_nil)
    (pss_cons (ps_if (pt_cmpR (op_in_seqK K) (pv 0) (pe_glob (by rfl) B.c_CUT_KINDS B.r_CUT_KINDS) rfl) (pss_one (ps_ret (pe_lc (own := [("begin", 5), ("levels", 6), ("top", 7)]) rfl sc_gaps.nd (pi_listK K (pe_callC C_cut_trees hr (by rfl) (pa_cons (pv 0) (pa_cons (pv 1) pa_nil)))) (blkOk_by (own := [("begin", 5), ("levels", 6), ("top", 7)]) (N := n_gaps) (sc := defScope s_gaps) (by decide +kernel)) (fun _ _ _ _ _ => (pg_tupK (n := 3) K rfl (pgs_cons (pg_name (i := 5) sc_gaps.nd rfl (Or.inl rfl)) (pgs_cons (pg_name (i := 6) sc_gaps.nd rfl (Or.inl rfl)) (pgs_cons (pg_name (i := 7) sc_gaps.nd rfl (Or.inl rfl)) pgs_nil))))) (fun _ _ _ _ _ => pts_nil) (fun _ _ _ _ _ => (pe_callC C_cut_gap hr (by rfl) (pa_cons (pv 0) (pa_cons (pv 6) (pa_cons (pv 7) pa_nil)))))))) pss_nil)
    (pss_one (ps_ret (pe_lc (own := [("depth", 3)]) rfl sc_gaps.nd (pi_listK K (pv 2)) (blkOk_by (own := [("depth", 3)]) (N := n_gaps) (sc := defScope s_gaps) (by decide +kernel)) (fun _ _ _ _ _ => (pg_name (i := 3) sc_gaps.nd rfl (Or.inl rfl))) (fun _ _ _ _ _ => pts_nil) (fun _ _ _ _ _ => (pe_tup (pa_cons pe_int (pa_cons (pe_lst (pa_cons (pe_op op_sub (pe_op op_shlW pe_int (pe_op op_sub (pv 1) (pv 3))) pe_int) pa_nil)) pa_nil))))))))))), ?_⟩
  rintro ds ⟨k, h, rfl, hk, h1, h2⟩
  apply rt_se
  show SE K _ [.dat (.str k), .dat (.int h), .un, .un, .un, .un, .un, .un] _
  have hl : (rgI 1 h).length ≤ 99 := by rw [rgI_len]; omega
  apply se_seq (r1 := [.dat (.str k), .dat (.int h), .dat (LI (rgI 1 h)), .un, .un, .un, .un, .un])
  · apply sd_asg
    · apply ev_new
      apply evn_listRg
      · walk_at "ev"
      · walk_at "ev"
      all_goals omega
    · walk_at "ev"
  have P1 : ∀ n : Nat, n ≤ 100 → (0 : Int) ≤ 1 * 2 ^ n ∧ (1 : Int) * 2 ^ n ≤ 2 ^ 100 := fun n hn => by
    have := p2pos n
    have := p2le (a := n) (b := 100) hn
    omega
  have fin : ∀ {ps : List (Int × List Int)}, ps.length ≤ 100 → (∀ p ∈ ps, GpOk p) → Z_gaps [.str k, .int h] (.list (ps.map gpD)) := fun hl hp k' h' _ => ⟨_, rfl, hl, hp⟩
  by_cases a : k = "levels"
  · apply se_seqR
    refine se_ifT (et_is (by walk_at "ev") (dtr a)) ?_
    refine se_ret (d := .list (((rgI 1 h).map fun d => (1 * 2 ^ (d - 1).toNat, (rgI 1 (d + 1)).map fun s => 1 * 2 ^ (if d - 1 - s > 0 then d - 1 - s else 0).toNat)).map gpD)) ?_ (fin (by rw [List.length_map]; omega) ?_)
    · rw [List.map_map]
      apply ev_new
      apply evn_lcM
      · apply it_list
        walk_at "ev"
      · omega
      · intro d hd
        have hd := mem_rgI hd
        refine ⟨_, _, gd_name, by walk_at "sc", ?_⟩
        show Ev K _ _ (.tuple [.int (1 * 2 ^ (d - 1).toNat), LI ((rgI 1 (d + 1)).map fun s => 1 * 2 ^ (if d - 1 - s > 0 then d - 1 - s else 0).toNat)])
        apply ev_tup
        · apply ea_cons
          · walk_at "ev"
          · apply ea_cons
            · apply ev_new
              apply evn_lcI
              · apply it_rng2
                · walk_at "ev"
                · omega
                · omega
              · rw [rgI_len]
                omega
              · intro s hs
                have hs := mem_rgI hs
                have hm : CShl 1 (if d - 1 - s > 0 then d - 1 - s else 0) := by
                  split
                  · exact shl1_ok (by omega) (by omega)
                  · exact shl1_ok (by omega) (by omega)
                refine ⟨_, _, gd_name, by walk_at "sc", ?_⟩
                walk_at "ev"
            · walk_at "ev"
        · walk_at "sc"
    · intro p hp
      obtain ⟨d, hd, rfl⟩ := List.mem_map.mp hp
      have hd := mem_rgI hd
      have s := sum_bd (C := 2 ^ 100) (xs := (rgI 1 (d + 1)).map fun s => 1 * 2 ^ (if d - 1 - s > 0 then d - 1 - s else 0).toNat) (by
        intro x hx
        obtain ⟨s, hs, rfl⟩ := List.mem_map.mp hx
        have hs := mem_rgI hs
        exact P1 _ (by split <;> omega))
      rw [List.length_map, rgI_len] at s
      have := P1 (d - 1).toNat (by omega)
      refine ⟨this.1, this.2, s.1, Int.le_trans s.2 ?_⟩
      exact Int.mul_le_mul_of_nonneg_left (by omega) (by decide)
  · refine se_seq (sd_ifF (et_is (by walk_at "ev") (dfa a)) sd_next) ?_
    by_cases b : k = "inorder"
    · apply se_seqR
      refine se_ifT (et_is (by walk_at "ev") (dtr b)) ?_
      refine se_ret (d := .list (((rgI 1 h).map fun d => (1 * 2 ^ (h - 1 - d).toNat, ([] : List Int))).map gpD)) ?_ (fin (by rw [List.length_map]; omega) ?_)
      · rw [List.map_map]
        apply ev_new
        apply evn_lcM
        · apply it_list
          walk_at "ev"
        · omega
        · intro d hd
          have hd := mem_rgI hd
          refine ⟨_, _, gd_name, by walk_at "sc", ?_⟩
          show Ev K _ _ (.tuple [.int (1 * 2 ^ (h - 1 - d).toNat), .list []])
          walk_at "ev"
      · intro p hp
        obtain ⟨d, hd, rfl⟩ := List.mem_map.mp hp
        have hd := mem_rgI hd
        have := P1 (h - 1 - d).toNat (by omega)
        exact ⟨this.1, this.2, (by decide : (0 : Int) ≤ 0), (by decide : (0 : Int) ≤ 2 ^ 100 * 100)⟩
    · refine se_seq (sd_ifF (et_is (by walk_at "ev") (dfa b)) sd_next) ?_
      by_cases c : k ∈ cutK
      · apply se_seqR
        refine se_ifT (et_is (by walk_at "ev") (dtr c)) ?_
        have e8 : (2 : Int) ^ 8 = 256 := by decide
        obtain ⟨_, q, c1⟩ := use_fn (K := K) p_cut_trees [.str k, .int h] ⟨_, _, rfl, c, h1, by omega, by omega⟩
        obtain ⟨ts, rfl, lt, gt⟩ := q _ _ rfl
        refine se_ret (d := .list ((ts.map fun t => cgF k t.2.1).map gpD)) ?_ (fin (by rw [List.length_map]; omega) ?_)
        · rw [List.map_map]
          apply ev_new
          apply evn_lcM
          · apply it_list
            walk_at "ev"
          · omega
          · intro t ht
            have ht := gt t ht
            refine ⟨_, _, gd_tup (gds_cons gd_name (gds_cons gd_name (gds_cons gd_name gds_nil))) rfl, by walk_at "sc", ?_⟩
            show Ev K _ _ (.tuple [.int (cgF k t.2.1).1, LI (cgF k t.2.1).2])
            obtain ⟨_, q2, c2⟩ := use_fn (K := K) p_cut_gap [.str k, .int t.2.1, .int t.2.2] ⟨_, _, by rw [ht.2.2], c, ht.1, by omega⟩
            have e := q2 k t.2.1 (by rw [ht.2.2])
            rw [e] at c2
            walk_at "ev"
        · intro p hp
          obtain ⟨t, ht, rfl⟩ := List.mem_map.mp hp
          have ht := gt t ht
          have o := cg_ok c ht.1
          have hh : (2 : Int) ^ t.2.1.toNat ≤ 2 ^ 100 := p2le (by omega)
          exact ⟨by have := o.l1; omega, Int.le_trans o.l2 hh, o.dom.nn, Int.le_trans o.sm (by omega)⟩
      · refine se_seq (sd_ifF (et_is (by walk_at "ev") (dfa c)) sd_next) ?_
        refine se_ret (d := .list (((rgI 1 h).map fun d => ((1 : Int), [(1 * 2 ^ (h - d).toNat - 1 : Int)])).map gpD)) ?_ (fin (by rw [List.length_map]; omega) ?_)
        · rw [List.map_map]
          apply ev_new
          apply evn_lcM
          · apply it_list
            walk_at "ev"
          · omega
          · intro d hd
            have hd := mem_rgI hd
            refine ⟨_, _, gd_name, by walk_at "sc", ?_⟩
            show Ev K _ _ (.tuple [.int 1, .list [.int (1 * 2 ^ (h - d).toNat - 1)]])
            walk_at "ev"
        · intro p hp
          obtain ⟨d, hd, rfl⟩ := List.mem_map.mp hp
          have hd := mem_rgI hd
          have := P1 (h - d).toNat (by omega)
          have := p2pos (h - d).toNat
          refine ⟨by show (0 : Int) ≤ 1; decide, by show (1 : Int) ≤ _; decide, ?_, ?_⟩
          · show 0 ≤ (1 * 2 ^ (h - d).toNat - 1 : Int) + 0
            omega
          · show (1 * 2 ^ (h - d).toNat - 1 : Int) + 0 ≤ _
            omega
theorem shl_nn {i j : Int} {a : Nat} (h0 : 0 ≤ i) (h : i < 2 ^ a) (j0 : 0 ≤ j) (j1 : j ≤ 1000) (ha : a ≤ 1000 := by decide) : CShl i j := shl_ok (nab_lt h0 h) j0 j1 ha
theorem mul_pw {x : Int} {a b n : Nat} (h0 : 0 ≤ x) (h : x ≤ 2 ^ a) (hb : n ≤ b) : 0 ≤ x * 2 ^ n ∧ x * 2 ^ n ≤ 2 ^ (a + b) := by
  have q := p2pos n
  have q1 := p2le hb
  have q2 := p2pos a
  refine ⟨Int.mul_nonneg h0 (by omega), ?_⟩
  rw [Int.pow_add]
  exact Int.le_trans (Int.mul_le_mul_of_nonneg_right h (by omega)) (Int.mul_le_mul_of_nonneg_left q1 (by omega))
theorem enD_map {α : Type} {f : α → PyData} : ∀ (xs : List α) (k : Int), enD k (xs.map f) = (xs.zipIdx.map fun p => PyData.tuple [.int (k + (p.2 : Int)), f p.1]) := by
  intro xs k
  have h : ∀ (xs : List α) (k : Int) (n : Nat), enD (k + n) (xs.map f) = ((xs.zipIdx n).map fun p => PyData.tuple [.int (k + (p.2 : Int)), f p.1]) := by
    intro xs
    induction xs with
    | nil => intro k n; rfl
    | cons x xs ih =>
      intro k n
      show PyData.tuple [.int (k + n), f x] :: enD (k + n + 1) (xs.map f) = _
      have e : k + (n : Int) + 1 = k + ((n + 1 : Nat) : Int) := by omega
      rw [e, ih]
      rfl
  have := h xs k 0
  have e : k + ((0 : Nat) : Int) = k := by omega
  rw [e] at this
  exact this
def Q_distance_sum (ds : List PyData) : Prop := Q_tree ds
def Z_distance_sum (ds : List PyData) (z : PyData) : Prop := ∃ m, z = .int m ∧ 0 ≤ m ∧ m ≤ 2 ^ 400
abbrev F_distance_sum (P : Program) (w : World) (K : PySem.W.Frag) (mg : Str → Option Value) (base : Heap) : Prop := Fn P w K mg base "distance_sum" 12 ["kind", "height"] Q_distance_sum Z_distance_sum
theorem ok_distance_sum (B : Bt w K mg) (D : Df K mg "distance_sum" "distance_sum" s_distance_sum) (h_require_tree_ways : F_require_tree_ways P w K mg base) (h_gaps : F_gaps P w K mg base) : F_distance_sum P w K mg base := by
  obtain ⟨f_require_tree_ways, p_require_tree_ways, C_require_tree_ways⟩ := h_require_tree_ways
  obtain ⟨f_gaps, p_gaps, C_gaps⟩ := h_gaps
  refine mk_fn D sc_distance_sum (fun _ _ _ _ _ _ us hl => match us, hl with | [_, _], _ => rfl) ⟨_, fun cdv A outer s H E f hr =>
    (pss_cons (ps_expr (pe_callC C_require_tree_ways hr (by rfl) (pa_cons (pv 0) (pa_cons (pv 1) pa_nil))))
    (pss_cons (ps_set (i := 2) sc_distance_sum.nd rfl (Or.inl rfl) pe_int)
    (pss_cons (ps_for PassesOwn.never rfl (pi_enumGK K (by rfl) B.enumerate (pa_cons (pe_callC C_gaps hr (by rfl) (pa_cons (pv 0) (pa_cons (pv 1) pa_nil))) (pa_cons pe_int pa_nil))) (pg_tupK (n := 2) K rfl (pgs_cons (pg_name (i := 3) sc_distance_sum.nd rfl (Or.inl rfl)) (pgs_cons (pg_tupK (n := 2) K rfl (pgs_cons (pg_name (i := 4) sc_distance_sum.nd rfl (Or.inl rfl)) (pgs_cons (pg_name (i := 5) sc_distance_sum.nd rfl (Or.inl rfl)) pgs_nil))) pgs_nil))) (pss_one (ps_aug (i := 2) sc_distance_sum.nd rfl (Or.inl rfl) (pe_op op_add (pe_op op_shlW (pv 4) (pv 3)) (pe_op op_shlW (pe_callB (cr_sumK K rfl) (by rfl) B.sum (by decide +kernel) (pa_cons (pv 5) pa_nil)) (pe_op op_sub (pv 3) pe_int))) ip_add)))
    (pss_one (ps_ret (pv 2)))))), ?_⟩
  rintro ds ⟨k, h, rfl, hk, h1, h2⟩
  apply rt_se
  show SE K _ [.dat (.str k), .dat (.int h), .un, .un, .un, .un] _
  obtain ⟨_, rfl, c1⟩ := use_fn (K := K) p_require_tree_ways [.str k, .int h] ⟨_, _, rfl, hk, h1, h2⟩
  obtain ⟨_, q, c2⟩ := use_fn (K := K) p_gaps [.str k, .int h] ⟨_, _, rfl, hk, h1, h2⟩
  obtain ⟨ps, rfl, hl, hp⟩ := q _ _ rfl
  walk_at "drop"
  walk_at "asg"
  refine se_for [3, 4, 5] (fun s : Int => [.dat (.str k), .dat (.int h), .dat (.int s), .un, .un, .un]) (fun p : (Int × List Int) × Nat => PyData.tuple [.int (1 + (p.2 : Int)), gpD p.1]) (fun j s => 0 ≤ s ∧ s ≤ 2 ^ 300 * (j : Int)) ps.zipIdx 0 rfl ⟨Int.le_refl 0, by decide⟩ ?_ ?_ ?_
  · rw [← enD_map]
    apply it_enumG (SrcD.list _)
    · walk_at "ev"
    · omega
  · rintro j ⟨p, n⟩ s hj hx ⟨s1, s2⟩
    have hn := List.mem_zipIdx hx
    have hp := hp p (by have := hn.2.2; rw [this]; exact List.getElem_mem _)
    have m1 := mul_pw (a := 100) (b := 101) (n := (1 + (n : Int)).toNat) hp.1 hp.2.1 (by omega)
    have m2 := mul_pw (a := 107) (b := 101) (n := (1 + (n : Int) - 1).toNat) hp.2.2.1 (Int.le_trans hp.2.2.2 (by decide)) (by omega)
    have k1 : CShl p.1 (1 + (n : Int)) := shl_nn (a := 101) hp.1 (Int.lt_of_le_of_lt hp.2.1 (by decide)) (by omega) (by omega)
    have k2 : CShl p.2.sum (1 + (n : Int) - 1) := shl_nn (a := 108) hp.2.2.1 (Int.lt_of_le_of_lt hp.2.2.2 (by decide)) (by omega) (by omega)
    refine ⟨s + (p.1 * 2 ^ (1 + (n : Int)).toNat + p.2.sum * 2 ^ (1 + (n : Int) - 1).toNat), ⟨by omega, by omega⟩, ?_⟩
    apply tn
    · apply gd_tup
      · apply gds_cons
        · walk_at "ev"
        · apply gds_cons
          · apply gd_tup
            · walk_at "ev"
            · rfl
          · walk_at "ev"
      · rfl
    · apply sd_goN
      apply sd_aug
      · rfl
      · walk_at "ev"
      · walk_at "ev"
    · rfl
  · intro s hs
    rw [List.length_zipIdx] at hs
    apply se_ret (ev_var rfl)
    exact ⟨s, rfl, hs.1, by have := hs.2; omega⟩
theorem inj3 {l l' n n' : Int} {ns ns' : List Int} (e : [PyData.int l, LI ns, .int n] = [.int l', LI ns', .int n']) : l = l' ∧ ns = ns' ∧ n = n' := by
  injection e with e1 e2
  injection e2 with e2 e3
  injection e3 with e3 _
  exact ⟨PyData.int.inj e1, li_inj e2, PyData.int.inj e3⟩
def Q_count_near (ds : List PyData) : Prop := ∃ l ns n, ds = [.int l, LI ns, .int n] ∧ ns.length ≤ 200
def Z_count_near (ds : List PyData) (z : PyData) : Prop := ∀ l ns n, ds = [.int l, LI ns, .int n] → z = .int (cnt l ns n)
abbrev F_count_near (P : Program) (w : World) (K : PySem.W.Frag) (mg : Str → Option Value) (base : Heap) : Prop := Fn P w K mg base "count_near" 1 ["least", "steps", "number"] Q_count_near Z_count_near
theorem ok_count_near (B : Bt w K mg) (D : Df K mg "count_near" "count_near" s_count_near)  : F_count_near P w K mg base := by
  refine mk_fn D sc_count_near (fun _ _ _ _ _ _ us hl => match us, hl with | [_, _, _], _ => rfl) ⟨_, fun cdv A outer s H E f hr =>
    (pss_cons (ps_par (i := 3) (j := 4) rfl sc_count_near.nd rfl rfl (by decide) rfl rfl  (pa_cons (pe_op op_sub (pv 2) (pv 0)) (pa_cons pe_int pa_nil)) (by rfl))
    (pss_cons (ps_if (pt_cmpR op_lt (pv 3) pe_int (nomark _)) (pss_one (ps_ret pe_int)) pss_nil)
    (pss_cons (ps_for PassesOwn.never rfl (pi_listK K (pv 1)) (pg_name (i := 5) sc_count_near.nd rfl (Or.inl rfl)) (pss_cons (ps_aug (i := 4) sc_count_near.nd rfl (Or.inl rfl) pe_int iop_mulW)
    (pss_one (ps_if (pt_cmpR op_le (pv 5) (pv 3) (nomark _)) (pss_one (ps_par (i := 3) (j := 4) rfl sc_count_near.nd rfl rfl (by decide) rfl rfl  (pa_cons (pe_op op_sub (pv 3) (pv 5)) (pa_cons (pe_op op_add (pv 4) pe_int) pa_nil)) (by rfl))) pss_nil))))
    (pss_one (ps_ret (pe_op op_add (pv 4) pe_int)))))), ?_⟩
  rintro ds ⟨l, ns, n, rfl, hl⟩
  refine ⟨.int (cnt l ns n), fun l' ns' n' e => ?_, .inl ?_⟩
  · obtain ⟨rfl, rfl, rfl⟩ := inj3 e
    rfl
  · show SD K _ [.dat (.int l), .dat (LI ns), .dat (.int n), .un, .un, .un] _
    walk_at "par"
    by_cases h : n - l < 0
    · apply sd_seqR
      apply sd_ifT (et_is (by walk_at "ev") (decide_eq_true h))
      have e : cnt l ns n = 0 := if_pos h
      rw [e]
      walk_at "ret"
    · apply sd_seq (sd_ifF (et_is (by walk_at "ev") (decide_eq_false h)) sd_next)
      refine sd_fold [5] (fun s : Int × Int => [.dat (.int l), .dat (LI ns), .dat (.int n), .dat (.int s.1), .dat (.int s.2), .un]) PyData.int cntF (fun i s => 0 ≤ s.2 ∧ s.2 < 2 ^ i) ns (n - l, 0) rfl ⟨Int.le_refl 0, (by decide : (0 : Int) < 2 ^ 0)⟩ (it_list (by walk_at "ev")) ?_ fun _ => ?_
      rotate_left
      · have e : cnt l ns n = (ns.foldl cntF (n - l, 0)).2 + 1 := if_neg h
        rw [e]
        walk_at "ret"
      · intro j x s hj hx hs
        have h2 : s.2 * 2 + 1 < 2 ^ (j + 1) := by rw [Int.pow_succ]; omega
        have h3 : s.2.natAbs < 2 ^ 200 := nab_lt hs.1 (Int.lt_of_lt_of_le hs.2 (pow_le (by omega)))
        have hm : CMulW s.2 2 := mul_ok (b := 2) h3 (by decide)
        by_cases hc : x ≤ s.1
        · have e : cntF s x = (s.1 - x, s.2 * 2 + 1) := if_pos hc
          rw [e]
          refine ⟨⟨by show 0 ≤ s.2 * 2 + 1; omega, h2⟩, ?_⟩
          walk_at "turn"
          · walk_at "aug"
            apply sd_ifT (et_is (by walk_at "ev") (decide_eq_true hc))
            apply sd_par
            walk_at "ev"
          · rfl
        · have e : cntF s x = (s.1, s.2 * 2) := if_neg hc
          rw [e]
          refine ⟨⟨by show 0 ≤ s.2 * 2; omega, by show s.2 * 2 < _; omega⟩, ?_⟩
          walk_at "turn"
          · walk_at "aug"
            apply sd_ifF (et_is (by walk_at "ev") (decide_eq_false hc))
            exact sd_next
          · rfl
end
end
end
section
set_option exponentiation.threshold 5000
section
open PySem L2
section
variable {P : Program} {w : World} {K : PySem.W.Frag} {mg : Str → Option Value} {base : Heap}
theorem inj_LI {ns ns' : List Int} {b b' : Int} (e : [LI ns, PyData.int b] = [LI ns', .int b']) : ns = ns' ∧ b = b' := by
  injection e with e1 e2
  injection e2 with e2 _
  exact ⟨li_inj e1, PyData.int.inj e2⟩
def Q_require_pages (ds : List PyData) : Prop := ∃ k h s m t, ds = [.str k, .int h, .int s, .int m, .int t] ∧ k ∈ kinds ∧ 1 ≤ h ∧ h ≤ 100 ∧ 1 ≤ s ∧ s ≤ t ∧ 0 ≤ m ∧ m < s
abbrev Z_require_pages := Z_require
abbrev F_require_pages (P : Program) (w : World) (K : PySem.W.Frag) (mg : Str → Option Value) (base : Heap) : Prop := Fn P w K mg base "require_pages" 4 ["kind", "height", "size", "shift", "most"] Q_require_pages Z_require_pages
theorem ok_require_pages (B : Bt w K mg) (D : Df K mg "require_pages" "require_pages" s_require_pages) (h_require_kind : F_require_kind P w K mg base) (h_require_height : F_require_height P w K mg base) (h_require_size : F_require_size P w K mg base) (h_require_shift : F_require_shift P w K mg base) : F_require_pages P w K mg base := by
  obtain ⟨f_require_kind, p_require_kind, C_require_kind⟩ := h_require_kind
  obtain ⟨f_require_height, p_require_height, C_require_height⟩ := h_require_height
  obtain ⟨f_require_size, p_require_size, C_require_size⟩ := h_require_size
  obtain ⟨f_require_shift, p_require_shift, C_require_shift⟩ := h_require_shift
  refine mk_fn D sc_require_pages (fun _ _ _ _ _ _ us hl => match us, hl with | [_, _, _, _, _], _ => rfl) ⟨_, fun cdv A outer s H E f hr =>
    (pss_cons (ps_expr (pe_callC C_require_kind hr (by rfl) (pa_cons (pv 0) pa_nil)))
    (pss_cons (ps_expr (pe_callC C_require_height hr (by rfl) (pa_cons (pv 1) pa_nil)))
    (pss_cons (ps_expr (pe_callC C_require_size hr (by rfl) (pa_cons (pv 2) (pa_cons (pv 4) pa_nil))))
    (pss_one (ps_expr (pe_callC C_require_shift hr (by rfl) (pa_cons (pv 2) (pa_cons (pv 3) pa_nil)))))))), ?_⟩
  rintro ds ⟨k, h, s, m, t, rfl, hk, h1, h2, h3, h4, h5, h6⟩
  refine ⟨.none, rfl, ?_⟩
  apply rt_nx
  show SD K _ [.dat (.str k), .dat (.int h), .dat (.int s), .dat (.int m), .dat (.int t)] _
  obtain ⟨_, rfl, c1⟩ := use_fn (K := K) p_require_kind [.str k] ⟨_, rfl, hk⟩
  obtain ⟨_, rfl, c2⟩ := use_fn (K := K) p_require_height [.int h] ⟨_, rfl, h1, h2⟩
  obtain ⟨_, rfl, c3⟩ := use_fn (K := K) p_require_size [.int s, .int t] ⟨_, _, rfl, h3, h4⟩
  obtain ⟨_, rfl, c4⟩ := use_fn (K := K) p_require_shift [.int s, .int m] ⟨_, _, rfl, h5, h6⟩
  walk_at "drop"
  walk_at "drop"
  walk_at "drop"
  apply sd_drop
  walk_at "ev"
def Q_moved_table (ds : List PyData) : Prop := ∃ ns b, ds = [LI ns, .int b] ∧ 1 ≤ ns.length ∧ ns.length ≤ 1000
def Z_moved_table (ds : List PyData) (z : PyData) : Prop := ∀ ns b, ds = [LI ns, .int b] → ∃ ms, z = LI ms ∧ ms.length = ns.length ∧ ∀ x ∈ ms, x ∈ ns
abbrev F_moved_table (P : Program) (w : World) (K : PySem.W.Frag) (mg : Str → Option Value) (base : Heap) : Prop := Fn P w K mg base "moved_table" 1 ["table", "by"] Q_moved_table Z_moved_table
theorem ok_moved_table (B : Bt w K mg) (D : Df K mg "moved_table" "moved_table" s_moved_table)  : F_moved_table P w K mg base := by
  refine mk_fn D sc_moved_table (fun _ _ _ _ _ _ us hl => match us, hl with | [_, _], _ => rfl) ⟨_, fun cdv A outer s H E f hr =>
    (pss_cons (ps_set (i := 2) sc_moved_table.nd rfl (Or.inl rfl) (pe_op op_mod (pe_un un_neg (pv 1)) (pe_callB (call_lenK K) (by rfl) B.len (by decide +kernel) (pa_cons (pv 0) pa_nil))))
    (pss_one (ps_ret (pe_op op_cat (pe_slice (sl_listK K) (pv 0) (po_some (pv 2)) po_none) (pe_slice (sl_listK K) (pv 0) po_none (po_some (pv 2))))))), ?_⟩
  rintro ds ⟨ns, b, rfl, h1, h2⟩
  apply rt_se
  show SE K _ [.dat (LI ns), .dat (.int b), .un] _
  have hl : (ns.map PyData.int).length = ns.length := List.length_map ..
  have hp : (0 : Int) < ((ns.map PyData.int).length : Int) := by omega
  walk_at "asg"
  have c0 := Int.emod_nonneg (-b) (b := ((ns.map PyData.int).length : Int)) (by omega)
  have c1 := Int.emod_lt_of_pos (-b) hp
  generalize -b % ((ns.map PyData.int).length : Int) = c at *
  refine se_ret (d := LI (ns.drop c.toNat ++ ns.take c.toNat)) ?_ ?_
  · apply ev_new
    apply evn_is
    · apply evn_cat
      · apply evn_slL
        · walk_at "ev"
        · walk_at "ev"
        · walk_at "ev"
      · apply evn_slL
        · walk_at "ev"
        · walk_at "ev"
        · walk_at "ev"
      · rw [cut_lo _ c0 (by omega), cut_hi _ c0, List.length_drop, List.length_take]
        omega
    · rw [cut_lo _ c0 (by omega), cut_hi _ c0, List.map_append, List.map_drop, List.map_take]
  · intro ns' b' e
    obtain ⟨rfl, rfl⟩ := inj_LI e
    refine ⟨_, rfl, ?_, ?_⟩
    · rw [List.length_append, List.length_drop, List.length_take]
      omega
    · intro x hx
      rcases List.mem_append.mp hx with a | a
      · exact List.mem_of_mem_drop a
      · exact List.mem_of_mem_take a
def Q_stepped_table (ds : List PyData) : Prop := Q_moved_table ds
def Z_stepped_table (ds : List PyData) (z : PyData) : Prop := ∀ ns b, ds = [LI ns, .int b] → ∃ ms, z = LI ms ∧ ms.length = ns.length ∧ ∀ C, TB C ns → TB (2 * C) ms
abbrev F_stepped_table (P : Program) (w : World) (K : PySem.W.Frag) (mg : Str → Option Value) (base : Heap) : Prop := Fn P w K mg base "stepped_table" 2 ["table", "weight"] Q_stepped_table Z_stepped_table
theorem ok_stepped_table (B : Bt w K mg) (D : Df K mg "stepped_table" "stepped_table" s_stepped_table) (h_moved_table : F_moved_table P w K mg base) : F_stepped_table P w K mg base := by
  obtain ⟨f_moved_table, p_moved_table, C_moved_table⟩ := h_moved_table
  refine mk_fn D sc_stepped_table (fun _ _ _ _ _ _ us hl => match us, hl with | [_, _], _ => rfl) ⟨_, fun cdv A outer s H E f hr =>
    (pss_one (ps_ret (pe_lc (own := [("one", 2), ("other", 3)]) rfl sc_stepped_table.nd (pi_zipGK K (by rfl) B.zip (pa_cons (pv 0) (pa_cons (pe_callC C_moved_table hr (by rfl) (pa_cons (pv 0) (pa_cons (pv 1) pa_nil))) pa_nil))) (blkOk_by (own := [("one", 2), ("other", 3)]) (N := n_stepped_table) (sc := defScope s_stepped_table) (by decide +kernel)) (fun _ _ _ _ _ => (pg_tupK (n := 2) K rfl (pgs_cons (pg_name (i := 2) sc_stepped_table.nd rfl (Or.inl rfl)) (pgs_cons (pg_name (i := 3) sc_stepped_table.nd rfl (Or.inl rfl)) pgs_nil)))) (fun _ _ _ _ _ => pts_nil) (fun _ _ _ _ _ => (pe_op op_add (pv 2) (pv 3)))))), ?_⟩
  rintro ds ⟨ns, b, rfl, h1, h2⟩
  apply rt_se
  show SE K _ [.dat (LI ns), .dat (.int b), .un, .un] _
  obtain ⟨_, q, c1⟩ := use_fn (K := K) p_moved_table [LI ns, .int b] ⟨_, _, rfl, h1, h2⟩
  obtain ⟨ms, rfl, l1, m1⟩ := q _ _ rfl
  refine se_ret (d := LI ((ns.zip ms).map fun p => p.1 + p.2)) ?_ ?_
  · apply ev_new
    apply evn_lcI (e := prD)
    · rw [← zpD_ints]
      apply it_zipG (SrcD.list _) (SrcD.list _)
      walk_at "ev"
    · rw [List.length_zip]
      omega
    · intro x hx
      refine ⟨_, _, gd_tup (gds_cons gd_name (gds_cons gd_name gds_nil)) rfl, by walk_at "sc", ?_⟩
      walk_at "ev"
  · intro ns' b' e
    obtain ⟨rfl, rfl⟩ := inj_LI e
    refine ⟨_, rfl, ?_, ?_⟩
    · rw [List.length_map, List.length_zip]
      omega
    · intro C hC x hx
      obtain ⟨p, hp, rfl⟩ := List.mem_map.mp hx
      have a := hC _ (List.of_mem_zip hp).1
      have b := hC _ (m1 _ (List.of_mem_zip hp).2)
      omega
def Q_table_at (ds : List PyData) : Prop := ∃ s m, ds = [.int s, .int m] ∧ 1 ≤ s ∧ s ≤ 1000
def Z_table_at (ds : List PyData) (z : PyData) : Prop := ∀ s m, ds = [.int s, .int m] → ∃ ms : List Int, z = LI ms ∧ (ms.length : Int) = s ∧ TB 1 ms
theorem rep_int (x : PyData) (n : Nat) : (List.replicate n [x]).flatten = List.replicate n x := by
  induction n with
  | zero => rfl
  | succ n ih =>
    rw [List.replicate_succ, List.flatten_cons, ih]
    rfl
theorem inj_II {a b a' b' : Int} (e : [PyData.int a, .int b] = [.int a', .int b']) : a = a' ∧ b = b' := by
  injection e with e1 e2
  injection e2 with e2 _
  exact ⟨PyData.int.inj e1, PyData.int.inj e2⟩
abbrev F_table_at (P : Program) (w : World) (K : PySem.W.Frag) (mg : Str → Option Value) (base : Heap) : Prop := Fn P w K mg base "table_at" 1 ["size", "rest"] Q_table_at Z_table_at
theorem ok_table_at (B : Bt w K mg) (D : Df K mg "table_at" "table_at" s_table_at)  : F_table_at P w K mg base := by
  refine mk_fn D sc_table_at (fun _ _ _ _ _ _ us hl => match us, hl with | [_, _], _ => rfl) ⟨_, fun cdv A outer s H E f hr =>
    (pss_cons (ps_set (i := 2) sc_table_at.nd rfl (Or.inl rfl) (pe_op op_rep (pe_lst (pa_cons pe_int pa_nil)) (pv 0)))
    (pss_cons (ps_asg pe_int (pg_sub (pv 2) (pe_op op_mod (pv 1) (pv 0)) set_list))
    (pss_one (ps_ret (pv 2))))), ?_⟩
  rintro ds ⟨s, m, rfl, h1, h2⟩
  apply rt_se
  show SE K _ [.dat (.int s), .dat (.int m), .un] _
  apply se_seq (r1 := [.dat (.int s), .dat (.int m), .own ((List.replicate s.toNat (0 : Int)).map .int)])
  · apply sd_own (ds := (List.replicate s.toNat (0 : Int)).map PyData.int)
    apply evn_is
    · apply evn_rep (n := s)
      · apply evn_lst
        · walk_at "ev"
        · walk_at "sc"
      · walk_at "ev"
      · omega
      · omega
      · show 1 * _ ≤ _
        omega
    · rw [rep_int, List.map_replicate]
  have c0 := Int.emod_nonneg m (b := s) (by omega)
  have c1 := Int.emod_lt_of_pos m (b := s) (by omega)
  have hs : (0 : Int) < s := by omega
  apply se_seq
  · apply sd_setI (m := (m % s).toNat)
    · rfl
    · walk_at "ev"
    · walk_at "ev"
    · rw [List.length_map, List.length_replicate]
      exact ixN_in c0 (by omega)
  · refine se_of (d := LI ((List.replicate s.toNat (0 : Int)).set (m % s).toNat 1)) (sd_frz (i := 2) rfl (sd_ret (ev_is (ev_var rfl) ?_))) ?_
    · show PyData.list (List.set (List.map PyData.int (List.replicate s.toNat (0 : Int))) (m % s).toNat (.int 1)) = PyData.list (List.map PyData.int _)
      rw [List.map_set]
    · intro s' m' e
      obtain ⟨rfl, rfl⟩ := inj_II e
      refine ⟨_, rfl, ?_, ?_⟩
      · rw [List.length_set, List.length_replicate]
        omega
      · apply TB.set
        · intro x hx
          rw [(List.mem_replicate.mp hx).2]
          omega
        · omega
def Q_count_rests (ds : List PyData) : Prop := ∃ ns l h, ds = [LI ns, .int l, .int h]
def Z_count_rests (ds : List PyData) (z : PyData) : Prop := ∀ ns l h, ds = [LI ns, .int l, .int h] → ∃ m, z = .int m ∧ ∀ C, 0 ≤ C → TB C ns → ∀ n : Nat, ns.length ≤ n → -(C * n) ≤ m ∧ m ≤ C * n
theorem inj_LII {ns ns' : List Int} {b b' c c' : Int} (e : [LI ns, PyData.int b, .int c] = [LI ns', .int b', .int c']) : ns = ns' ∧ b = b' ∧ c = c' := by
  injection e with e1 e2
  injection e2 with e2 e3
  injection e3 with e3 _
  exact ⟨li_inj e1, PyData.int.inj e2, PyData.int.inj e3⟩
abbrev F_count_rests (P : Program) (w : World) (K : PySem.W.Frag) (mg : Str → Option Value) (base : Heap) : Prop := Fn P w K mg base "count_rests" 1 ["table", "low", "high"] Q_count_rests Z_count_rests
theorem ok_count_rests (B : Bt w K mg) (D : Df K mg "count_rests" "count_rests" s_count_rests)  : F_count_rests P w K mg base := by
  refine mk_fn D sc_count_rests (fun _ _ _ _ _ _ us hl => match us, hl with | [_, _, _], _ => rfl) ⟨_, fun cdv A outer s H E f hr =>
    (pss_one (ps_ret (pe_callB (cr_sumK K rfl) (by rfl) B.sum (by decide +kernel) (pa_cons (pe_slice (sl_listK K) (pv 0) (po_some (pe_callB (call_max2 rfl) (by rfl) B.max (by decide +kernel) (pa_cons pe_int (pa_cons (pv 1) pa_nil)))) (po_some (pe_callB (call_max2 rfl) (by rfl) B.max (by decide +kernel) (pa_cons pe_int (pa_cons (pv 2) pa_nil))))) pa_nil)))), ?_⟩
  rintro ds ⟨ns, l, h, rfl⟩
  apply rt_se
  show SE K _ [.dat (LI ns), .dat (.int l), .dat (.int h)] _
  refine se_ret (d := .int (cutA ns (some (if l > 0 then l else 0)) (some (if h > 0 then h else 0))).sum) ?_ ?_
  · apply ev_cb
    · apply ea_cons (d := LI (cutA ns (some (if l > 0 then l else 0)) (some (if h > 0 then h else 0))))
      · apply ev_new
        apply evn_is
        · apply evn_slL
          · walk_at "ev"
          · walk_at "ev"
          · walk_at "ev"
        · exact cut_map _ _ _ _
      · walk_at "ev"
    · exact rc_sum
  · intro ns' l' h' e
    obtain ⟨rfl, rfl, rfl⟩ := inj_LII e
    exact ⟨_, rfl, fun C hC hb n hn => TB.sum hC (hb.sub fun x hx => cut_mem hx) (Nat.le_trans cut_len hn)⟩
theorem p2b {n b : Nat} (h : n ≤ b) : -(2 ^ b : Int) ≤ 1 * 2 ^ n ∧ (1 : Int) * 2 ^ n ≤ 2 ^ b := by
  have := p2pos n
  have := p2le h
  omega
def Q_new_in_levels (ds : List PyData) : Prop := ∃ h s m, ds = [.int h, .int s, .int m] ∧ 1 ≤ h ∧ h ≤ 100 ∧ 1 ≤ s ∧ s ≤ 1000
def Z_new_in (h : Int) (z : PyData) : Prop := ∃ ms : List Int, z = LI ms ∧ (ms.length : Int) + 1 = h ∧ TB (2 ^ 200) ms
def Z_new_in_levels (ds : List PyData) (z : PyData) : Prop := ∀ h s m, ds = [.int h, .int s, .int m] → Z_new_in h z
theorem inj_III {a b a' b' c c' : Int} (e : [PyData.int a, .int b, .int c] = [.int a', .int b', .int c']) : a = a' ∧ b = b' ∧ c = c' := by
  injection e with e1 e2
  injection e2 with e2 e3
  injection e3 with e3 _
  exact ⟨PyData.int.inj e1, PyData.int.inj e2, PyData.int.inj e3⟩
theorem mapap {xs : List Int} {x : Int} : (xs.map PyData.int) ++ [PyData.int x] = (xs ++ [x]).map PyData.int := by
  rw [List.map_append]
  rfl
theorem own_is {r r2 : List QV} {K : PySem.W.Frag} {ts : TS} (h : SD K ts r (.nx r2)) {r3 : List QV} (e : r2 = r3) : SD K ts r (.nx r3) := e ▸ h
abbrev F_new_in_levels (P : Program) (w : World) (K : PySem.W.Frag) (mg : Str → Option Value) (base : Heap) : Prop := Fn P w K mg base "new_in_levels" 1 ["height", "size", "shift"] Q_new_in_levels Z_new_in_levels
theorem ok_new_in_levels (B : Bt w K mg) (D : Df K mg "new_in_levels" "new_in_levels" s_new_in_levels)  : F_new_in_levels P w K mg base := by
  refine mk_fn D sc_new_in_levels (fun _ _ _ _ _ _ us hl => match us, hl with | [_, _, _], _ => rfl) ⟨_, fun cdv A outer s H E f hr =>
    (pss_cons (ps_set (i := 3) sc_new_in_levels.nd rfl (Or.inl rfl) (pe_lst pa_nil))
    (pss_cons (ps_for PassesOwn.never rfl (pi_range2 (by rfl) B.range (pa_cons pe_int (pa_cons (pv 0) pa_nil))) (pg_name (i := 4) sc_new_in_levels.nd rfl (Or.inl rfl)) (pss_one (ps_if (pt_cmpR op_ge (pe_op op_shlW pe_int (pe_op op_sub (pv 4) pe_int)) (pv 1) (nomark _)) (pss_one (ps_expr (pe_appK K (pv 3) (pe_op op_shlW pe_int (pv 4))))) (pss_cons (ps_asg (pe_tup (pa_cons (pe_op op_add (pe_op op_sub (pe_op op_shlW pe_int (pv 4)) pe_int) (pv 2)) (pa_cons (pe_op op_add (pe_op op_sub (pe_op op_shlW pe_int (pe_op op_sub (pv 4) pe_int)) pe_int) (pv 2)) pa_nil))) (pg_tupK (n := 2) K rfl (pgs_cons (pg_name (i := 5) sc_new_in_levels.nd rfl (Or.inr rfl)) (pgs_cons (pg_name (i := 6) sc_new_in_levels.nd rfl (Or.inr rfl)) pgs_nil))))
    (pss_cons (ps_setLc (i := 7) (own := [("number", 8)]) rfl sc_new_in_levels.nd rfl rfl (sw_true rfl rfl rfl (by decide +kernel)) (pi_range1 (by rfl) B.range (pa_cons (pe_op op_shlW pe_int (pv 4)) pa_nil)) (blkOk_by (own := [("number", 8)]) (N := n_new_in_levels) (sc := defScope s_new_in_levels) (by decide +kernel)) (fun _ _ _ _ _ => (pg_name (i := 8) sc_new_in_levels.nd rfl (Or.inl rfl))) (fun _ _ _ _ _ => pts_nil) (fun _ _ _ _ _ => (pe_tup (pa_cons (pe_op op_fdivW (pe_op op_add (pv 5) (pv 8)) (pv 1)) (pa_cons (pe_op op_fdivW (pe_op op_add (pv 6) (pe_op op_fdivW (pv 8) pe_int)) (pv 1)) pa_nil)))))
    (pss_one (ps_expr (pe_appK K (pv 3) (pe_callB (call_lenK K) (by rfl) B.len (by decide +kernel) (pa_cons (pe_lc (own := [("page", 9), ("other", 10)]) rfl sc_new_in_levels.nd (pi_listK K (pv 7)) (blkOk_by (own := [("page", 9), ("other", 10)]) (N := n_new_in_levels) (sc := defScope s_new_in_levels) (by decide +kernel)) (fun _ _ _ _ _ => (pg_tupK (n := 2) K rfl (pgs_cons (pg_name (i := 9) sc_new_in_levels.nd rfl (Or.inl rfl)) (pgs_cons (pg_name (i := 10) sc_new_in_levels.nd rfl (Or.inl rfl)) pgs_nil)))) (fun _ _ _ _ _ => (pts_one (pt_cmpR op_ne (pv 9) (pv 10) (nomark _)))) (fun _ _ _ _ _ => pe_int)) pa_nil))))))))))
    (pss_one (ps_ret (pv 3))))), ?_⟩
  rintro ds ⟨h, s, m, rfl, h1, h2, h3, h4⟩
  apply rt_se
  show SE K _ [.dat (.int h), .dat (.int s), .dat (.int m), .un, .un, .un, .un, .un, .un, .un, .un] _
  apply se_seq (r1 := [.dat (.int h), .dat (.int s), .dat (.int m), .own (([] : List Int).map .int), .un, .un, .un, .un, .un, .un, .un])
  · apply sd_own (ds := ([] : List Int).map .int)
    apply evn_lst
    · walk_at "ev"
    · walk_at "sc"
  have hd : CDivW 1 s := div_ok (a := 10) (by omega) (nab_lt (by omega) (by have : (2 : Int) ^ 10 = 1024 := by decide
                                                                            omega))
  have hdv : ∀ x : Int, CDivW x s := fun x => hd
  refine se_for [4, 5, 6, 7, 8, 9, 10] (fun f : List Int => [.dat (.int h), .dat (.int s), .dat (.int m), .own (f.map .int), .un, .un, .un, .un, .un, .un, .un]) PyData.int (fun j f => f.length = j ∧ TB (2 ^ 200) f) (rgI 1 h) [] rfl ⟨rfl, tb_nil⟩ (it_rng2 (by walk_at "ev") (by omega) (by omega)) ?_ ?_
  · rintro j d f hj hd ⟨l1, b1⟩
    have hd := mem_rgI hd
    rw [rgI_len] at hj
    by_cases c : 1 * 2 ^ (d - 1).toNat ≥ s
    · refine ⟨f ++ [1 * 2 ^ d.toNat], ⟨by rw [List.length_append, l1]; rfl, b1.app (TB.one (p2b (by omega)))⟩, ?_⟩
      apply tn
      · walk_at "ev"
      · apply sd_goN
        refine sd_ifT (et_is (by walk_at "ev") (dtr c)) ?_
        apply sd_app
        · rfl
        · walk_at "ev"
        · rw [List.length_map]
          omega
      · rw [mapap]
        rfl
    · have e1 : (2 : Int) ^ d.toNat = 2 * 2 ^ (d - 1).toNat := by
        rw [← p2succ]
        congr 1
        omega
      have hr : (rgI 0 (1 * 2 ^ d.toNat)).length ≤ 2000 := by
        rw [rg_len0]
        omega
      have hp := p2pos d.toNat
      refine ⟨f ++ [((((rgI 0 (1 * 2 ^ d.toNat)).map fun n => ((1 * 2 ^ d.toNat - 1 + m + n) / s, (1 * 2 ^ (d - 1).toNat - 1 + m + n / 2) / s)).filter fun p => !decide (p.1 = p.2)).length : Int)], ⟨by rw [List.length_append, l1]; rfl, b1.app (TB.one ?_)⟩, ?_⟩
      · have := List.length_filter_le (fun p : Int × Int => !decide (p.1 = p.2)) ((rgI 0 (1 * 2 ^ d.toNat)).map fun n => ((1 * 2 ^ d.toNat - 1 + m + n) / s, (1 * 2 ^ (d - 1).toNat - 1 + m + n / 2) / s))
        rw [List.length_map] at this
        have : (2000 : Int) ≤ 2 ^ 200 := by decide
        omega
      · apply tn
        · walk_at "ev"
        · apply sd_goN
          refine sd_ifF (et_is (by walk_at "ev") (dfa c)) ?_
          walk_at "asg"
          apply sd_seq
          · apply sd_asg (d := .list (((rgI 0 (1 * 2 ^ d.toNat)).map fun n => ((1 * 2 ^ d.toNat - 1 + m + n) / s, (1 * 2 ^ (d - 1).toNat - 1 + m + n / 2) / s)).map prD))
            · rw [List.map_map]
              apply ev_new
              apply evn_lcM
              · apply it_rng1
                · walk_at "ev"
                · omega
              · omega
              · intro n hn
                have q1 := hdv (1 * 2 ^ d.toNat - 1 + m + n)
                have q2 := hdv (1 * 2 ^ (d - 1).toNat - 1 + m + n / 2)
                refine ⟨_, _, gd_name, by walk_at "sc", ?_⟩
                show Ev K _ _ (.tuple [.int ((1 * 2 ^ d.toNat - 1 + m + n) / s), .int ((1 * 2 ^ (d - 1).toNat - 1 + m + n / 2) / s)])
                walk_at "ev"
            · walk_at "ev"
          · apply sd_app
            · rfl
            · apply ev_cb
              · apply ea_cons
                · apply ev_new
                  apply evn_lcFlt (e := prD) (f := fun _ => .int 1) (p := fun p => !decide (p.1 = p.2))
                  · apply it_list
                    walk_at "ev"
                  · rw [List.length_map]
                    omega
                  · intro x hx
                    refine ⟨_, _, gd_tup (gds_cons gd_name (gds_cons gd_name gds_nil)) rfl, by walk_at "sc", ?_, ?_⟩
                    · walk_at "ev"
                    · intro _
                      walk_at "ev"
                · walk_at "ev"
              · exact rc_lenL
            · rw [List.length_map]
              omega
        · rw [List.length_map, mapap]
          rfl
  · intro f hf
    rw [rgI_len] at hf
    refine se_of (sd_frz (i := 3) rfl (sd_ret (ev_var rfl))) ?_
    intro h' s' m' e
    obtain ⟨rfl, rfl, rfl⟩ := inj_III e
    exact ⟨f, rfl, by omega, hf.2⟩
end
end
end
section
set_option exponentiation.threshold 5000
section
open PySem L2
section
variable {P : Program} {w : World} {K : PySem.W.Frag} {mg : Str → Option Value} {base : Heap}
theorem bnd4 {M C : Int} (a b c d : Bool) (h : -C ≤ M ∧ M ≤ C) : -(C + 4) ≤ M + ((if a then 1 else 0) - (if b then 1 else 0)) + ((if c then 1 else 0) - (if d then 1 else 0)) ∧ M + ((if a then 1 else 0) - (if b then 1 else 0)) + ((if c then 1 else 0) - (if d then 1 else 0)) ≤ C + 4 := by
  cases a <;> cases b <;> cases c <;> cases d <;> simp <;> omega
theorem pw_sz {j n : Nat} (h : j ≤ 100) (hn : n ≤ 1000) : (2 : Int) ^ j * (n : Int) ≤ 2 ^ 110 := by
  have q := p2le h
  have q0 := p2pos j
  have : (2 : Int) ^ j * (n : Int) ≤ 2 ^ 100 * 1000 := Int.mul_le_mul q (by omega) (by omega) (by decide)
  have : (2 : Int) ^ 100 * 1000 ≤ 2 ^ 110 := by decide
  omega
def Q_new_in_inorder (ds : List PyData) : Prop := Q_new_in_levels ds
def Z_new_in_inorder (ds : List PyData) (z : PyData) : Prop := Z_new_in_levels ds z
abbrev F_new_in_inorder (P : Program) (w : World) (K : PySem.W.Frag) (mg : Str → Option Value) (base : Heap) : Prop := Fn P w K mg base "new_in_inorder" 3 ["height", "size", "shift"] Q_new_in_inorder Z_new_in_inorder
theorem ok_new_in_inorder (B : Bt w K mg) (D : Df K mg "new_in_inorder" "new_in_inorder" s_new_in_inorder) (h_table_at : F_table_at P w K mg base) (h_stepped_table : F_stepped_table P w K mg base) (h_moved_table : F_moved_table P w K mg base) (h_count_rests : F_count_rests P w K mg base) : F_new_in_inorder P w K mg base := by
  obtain ⟨f_table_at, p_table_at, C_table_at⟩ := h_table_at
  obtain ⟨f_stepped_table, p_stepped_table, C_stepped_table⟩ := h_stepped_table
  obtain ⟨f_moved_table, p_moved_table, C_moved_table⟩ := h_moved_table
  obtain ⟨f_count_rests, p_count_rests, C_count_rests⟩ := h_count_rests
  refine mk_fn D sc_new_in_inorder (fun _ _ _ _ _ _ us hl => match us, hl with | [_, _, _], _ => rfl) ⟨_, fun cdv A outer s H E f hr =>
    (pss_cons (ps_par (i := 3) (j := 4) rfl sc_new_in_inorder.nd rfl rfl (by decide) rfl rfl  (pa_cons (pe_lst pa_nil) (pa_cons (pe_callC C_table_at hr (by rfl) (pa_cons (pv 1) (pa_cons (pv 2) pa_nil))) pa_nil)) (by rfl))
    (pss_cons (ps_for PassesOwn.never rfl (pi_range2 (by rfl) B.range (pa_cons pe_int (pa_cons (pv 0) pa_nil))) (pg_name (i := 5) sc_new_in_inorder.nd rfl (Or.inl rfl)) (pss_cons (ps_set (i := 6) sc_new_in_inorder.nd rfl (Or.inl rfl) (pe_op op_shlW pe_int (pe_op op_sub (pe_op op_sub (pv 0) pe_int) (pv 5))))
    (pss_cons (ps_set (i := 4) sc_new_in_inorder.nd rfl (Or.inl rfl) (pe_callC C_stepped_table hr (by rfl) (pa_cons (pv 4) (pa_cons (pe_op op_shlW pe_int (pe_op op_sub (pv 0) (pv 5))) pa_nil))))
    (pss_cons (ps_if (pt_cmpR op_ge (pv 6) (pv 1) (nomark _)) (pss_cons (ps_expr (pe_appK K (pv 3) (pe_op op_shlW pe_int (pv 5))))
    (pss_one ps_continue)) pss_nil)
    (pss_cons (ps_set (i := 7) sc_new_in_inorder.nd rfl (Or.inl rfl) (pe_callC C_moved_table hr (by rfl) (pa_cons (pv 4) (pa_cons (pe_op op_sub (pv 6) pe_int) pa_nil))))
    (pss_cons (ps_par (i := 8) (j := 9) rfl sc_new_in_inorder.nd rfl rfl (by decide) rfl rfl  (pa_cons (pe_op op_mod (pe_op op_add (pe_op op_sub (pv 6) pe_int) (pv 2)) (pv 1)) (pa_cons (pe_op op_mod (pe_op op_add (pe_op op_sub (pe_op op_sub (pe_op op_shlW pe_int (pv 0)) pe_int) (pv 6)) (pv 2)) (pv 1)) pa_nil)) (by rfl))
    (pss_cons (ps_set (i := 10) sc_new_in_inorder.nd rfl (Or.inl rfl) (pe_callC C_count_rests hr (by rfl) (pa_cons (pv 7) (pa_cons (pe_op op_sub (pv 1) (pv 6)) (pa_cons (pv 6) pa_nil)))))
    (pss_cons (ps_aug (i := 10) sc_new_in_inorder.nd rfl (Or.inl rfl) (pe_op op_sub (pe_callTy call_int1 (by rfl) B.int (by decide +kernel) (pa_cons (pe_cmpR op_ge (pv 8) (pe_op op_sub (pv 1) (pv 6)) (nomark _)) pa_nil)) (pe_callTy call_int1 (by rfl) B.int (by decide +kernel) (pa_cons (pe_chain op_le op_lt (pe_op op_sub (pv 1) (pv 6)) (pv 8) (pv 6)) pa_nil))) ip_add)
    (pss_cons (ps_aug (i := 10) sc_new_in_inorder.nd rfl (Or.inl rfl) (pe_op op_sub (pe_callTy call_int1 (by rfl) B.int (by decide +kernel) (pa_cons (pe_cmpR op_lt (pv 9) (pv 6) (nomark _)) pa_nil)) (pe_callTy call_int1 (by rfl) B.int (by decide +kernel) (pa_cons (pe_chain op_le op_lt (pe_op op_sub (pv 1) (pv 6)) (pv 9) (pv 6)) pa_nil))) ip_add)
    (pss_one (ps_expr (pe_appK K (pv 3) (pv 10)))))))))))))
    (pss_one (ps_ret (pv 3))))), ?_⟩
  rintro ds ⟨h, s, m, rfl, h1, h2, h3, h4⟩
  apply rt_se
  show SE K _ [.dat (.int h), .dat (.int s), .dat (.int m), .un, .un, .un, .un, .un, .un, .un, .un] _
  obtain ⟨_, q, c1⟩ := use_fn (K := K) p_table_at [.int s, .int m] ⟨_, _, rfl, h3, h4⟩
  obtain ⟨t0, rfl, lt0, bt0⟩ := q _ _ rfl
  have e0 : (2 : Int) ^ 0 = 1 := by decide
  rw [← e0] at bt0
  apply se_seq (r1 := [.dat (.int h), .dat (.int s), .dat (.int m), .own (([] : List Int).map .int), .dat (LI t0), .un, .un, .un, .un, .un, .un])
  · apply sd_parOD (ds := ([] : List Int).map .int)
    · apply evn_lst
      · walk_at "ev"
      · walk_at "sc"
    · walk_at "ev"
  have hs0 : (0 : Int) < s := by omega
  refine se_for [5, 6, 7, 8, 9, 10] (fun f : List Int × List Int => [.dat (.int h), .dat (.int s), .dat (.int m), .own (f.1.map .int), .dat (LI f.2), .un, .un, .un, .un, .un, .un]) PyData.int (fun j f => f.1.length = j ∧ TB (2 ^ 200) f.1 ∧ (f.2.length : Int) = s ∧ TB (2 ^ j) f.2) (rgI 1 h) ([], t0) rfl ⟨rfl, tb_nil, lt0, bt0⟩ (it_rng2 (by walk_at "ev") (by omega) (by omega)) ?_ ?_
  · rintro j d ⟨f, t⟩ hj hd ⟨l1, b1, l2, b2⟩
    dsimp only at l1 b1 l2 b2
    have hd := mem_rgI hd
    rw [rgI_len] at hj
    obtain ⟨_, q, c2⟩ := use_fn (K := K) p_stepped_table [LI t, .int (1 * 2 ^ (h - d).toNat)] ⟨_, _, rfl, by omega, by omega⟩
    obtain ⟨t1, rfl, lt1, bt1⟩ := q _ _ rfl
    have bt1 : TB (2 ^ (j + 1)) t1 := by
      rw [p2succ]
      exact bt1 _ b2
    by_cases c : 1 * 2 ^ (h - 1 - d).toNat ≥ s
    · refine ⟨(f ++ [1 * 2 ^ d.toNat], t1), ⟨by rw [List.length_append, l1]; rfl, b1.app (TB.one (p2b (by omega))), by dsimp only; omega, bt1⟩, ?_⟩
      apply tn
      · walk_at "ev"
      · apply sd_goC
        dsimp only
        walk_at "asg"
        walk_at "asg"
        apply sd_seqC
        refine sd_ifT (et_is (by walk_at "ev") (dtr c)) ?_
        apply sd_seq
        · apply sd_app
          · rfl
          · walk_at "ev"
          · rw [List.length_map]
            omega
        · exact sd_cont
      · rw [mapap]
        rfl
    · obtain ⟨_, q, c3⟩ := use_fn (K := K) p_moved_table [LI t1, .int (1 * 2 ^ (h - 1 - d).toNat - 1)] ⟨_, _, rfl, by omega, by omega⟩
      obtain ⟨t2, rfl, lt2, mt2⟩ := q _ _ rfl
      obtain ⟨_, q, c4⟩ := use_fn (K := K) p_count_rests [LI t2, .int (s - 1 * 2 ^ (h - 1 - d).toNat), .int (1 * 2 ^ (h - 1 - d).toNat)] ⟨_, _, _, rfl⟩
      obtain ⟨M, rfl, bM⟩ := q _ _ _ rfl
      have bM := bM (2 ^ (j + 1)) (Int.le_of_lt (p2pos _)) (bt1.sub mt2) t2.length (Nat.le_refl _)
      have pz := pw_sz (j := j + 1) (n := t2.length) (by omega) (by omega)
      refine ⟨(f ++ [?x], t1), ?_, ?_⟩
      rotate_left 2
      · apply tn
        · walk_at "ev"
        · apply sd_goN
          dsimp only
          walk_at "asg"
          walk_at "asg"
          refine sd_seq (sd_ifF (et_is (by walk_at "ev") (dfa c)) sd_next) ?_
          walk_at "asg"
          walk_at "par"
          walk_at "asg"
          walk_at "aug"
          walk_at "aug"
          apply sd_app
          · rfl
          · walk_at "ev"
          · rw [List.length_map]
            omega
        · rw [mapap]
          rfl
      · refine ⟨by rw [List.length_append, l1]; rfl, b1.app (TB.one ?_), by dsimp only; omega, bt1⟩
        have := bnd4 (decide ((1 * 2 ^ (h - 1 - d).toNat - 1 + m) % s ≥ s - 1 * 2 ^ (h - 1 - d).toNat)) (decide (s - 1 * 2 ^ (h - 1 - d).toNat ≤ (1 * 2 ^ (h - 1 - d).toNat - 1 + m) % s) && decide ((1 * 2 ^ (h - 1 - d).toNat - 1 + m) % s < 1 * 2 ^ (h - 1 - d).toNat)) (decide ((1 * 2 ^ h.toNat - 1 - 1 * 2 ^ (h - 1 - d).toNat + m) % s < 1 * 2 ^ (h - 1 - d).toNat)) (decide (s - 1 * 2 ^ (h - 1 - d).toNat ≤ (1 * 2 ^ h.toNat - 1 - 1 * 2 ^ (h - 1 - d).toNat + m) % s) && decide ((1 * 2 ^ h.toNat - 1 - 1 * 2 ^ (h - 1 - d).toNat + m) % s < 1 * 2 ^ (h - 1 - d).toNat)) (M := M) (C := 2 ^ 110) (by omega)
        exact ⟨Int.le_trans (by decide) this.1, Int.le_trans this.2 (by decide)⟩
  · intro f hf
    rw [rgI_len] at hf
    refine se_of (sd_frz (i := 3) rfl (sd_ret (ev_var rfl))) ?_
    intro h' s' m' e
    obtain ⟨rfl, rfl, rfl⟩ := inj_III e
    exact ⟨f.1, rfl, by omega, hf.2.1⟩
def Q_new_by_parents (ds : List PyData) : Prop := ∃ k h s m, ds = [.str k, .int h, .int s, .int m] ∧ 1 ≤ h ∧ h ≤ 100 ∧ 1 ≤ s ∧ s ≤ 1000
theorem inj_SIII {k k' : Str} {a b a' b' c c' : Int} (e : [.str k, PyData.int a, .int b, .int c] = [.str k', .int a', .int b', .int c']) : k = k' ∧ a = a' ∧ b = b' ∧ c = c' := by
  injection e with e1 e2
  exact ⟨PyData.str.inj e1, inj_III e2⟩
def Z_new_by_parents (ds : List PyData) (z : PyData) : Prop := ∀ k h s m, ds = [.str k, .int h, .int s, .int m] → Z_new_in h z
abbrev F_new_by_parents (P : Program) (w : World) (K : PySem.W.Frag) (mg : Str → Option Value) (base : Heap) : Prop := Fn P w K mg base "new_by_parents" 3 ["kind", "height", "size", "shift"] Q_new_by_parents Z_new_by_parents
theorem ok_new_by_parents (B : Bt w K mg) (D : Df K mg "new_by_parents" "new_by_parents" s_new_by_parents) (h_table_at : F_table_at P w K mg base) (h_sums_of : F_sums_of P w K mg base) (h_moved_table : F_moved_table P w K mg base) (h_count_rests : F_count_rests P w K mg base) (h_stepped_table : F_stepped_table P w K mg base) : F_new_by_parents P w K mg base := by
  obtain ⟨f_table_at, p_table_at, C_table_at⟩ := h_table_at
  obtain ⟨f_sums_of, p_sums_of, C_sums_of⟩ := h_sums_of
  obtain ⟨f_moved_table, p_moved_table, C_moved_table⟩ := h_moved_table
  obtain ⟨f_count_rests, p_count_rests, C_count_rests⟩ := h_count_rests
  obtain ⟨f_stepped_table, p_stepped_table, C_stepped_table⟩ := h_stepped_table
  refine mk_fn D sc_new_by_parents (fun _ _ _ _ _ _ us hl => match us, hl with | [_, _, _, _], _ => rfl) ⟨_, fun cdv A outer s H E f hr =>
    (pss_cons (ps_par (i := 4) (j := 5) rfl sc_new_by_parents.nd rfl rfl (by decide) rfl rfl  (pa_cons (pe_lst pa_nil) (pa_cons (pe_callC C_table_at hr (by rfl) (pa_cons (pv 2) (pa_cons (pv 3) pa_nil))) pa_nil)) (by rfl))
    (pss_cons (ps_for PassesOwn.never rfl (pi_range2 (by rfl) B.range (pa_cons pe_int (pa_cons (pv 1) pa_nil))) (pg_name (i := 6) sc_new_by_parents.nd rfl (Or.inl rfl)) (pss_cons (ps_set (i := 7) sc_new_by_parents.nd rfl (Or.inl rfl) (pe_ix (ix_tupK K) (pe_callC C_sums_of hr (by rfl) (pa_cons (pv 0) (pa_cons (pv 1) (pa_cons (pe_op op_sub (pv 6) pe_int) pa_nil)))) pe_int (fun _ _ => rfl)))
    (pss_cons (ps_par (i := 8) (j := 9) rfl sc_new_by_parents.nd rfl rfl (by decide) rfl rfl  (pa_cons (pe_callC C_moved_table hr (by rfl) (pa_cons (pv 5) (pa_cons (pv 7) pa_nil))) (pa_cons (pe_op op_shlW pe_int (pe_op op_sub (pv 6) pe_int)) pa_nil)) (by rfl))
    (pss_cons (ps_set (i := 10) sc_new_by_parents.nd rfl (Or.inl rfl) pe_int)
    (pss_cons (ps_for PassesOwn.never rfl (pi_tupK K (pe_tup (pa_cons pe_int (pa_cons (pe_op op_shlW pe_int (pe_op op_sub (pv 1) (pv 6))) pa_nil)))) (pg_name (i := 11) sc_new_by_parents.nd rfl (Or.inl rfl)) (pss_one (ps_if (pt_cmpR op_ge (pv 11) (pv 2) (nomark _)) (pss_one (ps_aug (i := 10) sc_new_by_parents.nd rfl (Or.inl rfl) (pv 9) ip_add)) (pss_one (ps_if (pt_cmpR op_eq (pv 0) pe_str (nomark _)) (pss_one (ps_aug (i := 10) sc_new_by_parents.nd rfl (Or.inl rfl) (pe_callC C_count_rests hr (by rfl) (pa_cons (pv 8) (pa_cons (pe_op op_sub (pv 2) (pv 11)) (pa_cons (pv 2) pa_nil)))) ip_add)) (pss_one (ps_aug (i := 10) sc_new_by_parents.nd rfl (Or.inl rfl) (pe_callC C_count_rests hr (by rfl) (pa_cons (pv 8) (pa_cons pe_int (pa_cons (pv 11) pa_nil)))) ip_add)))))))
    (pss_cons (ps_expr (pe_appK K (pv 4) (pv 10)))
    (pss_one (ps_set (i := 5) sc_new_by_parents.nd rfl (Or.inl rfl) (pe_callC C_stepped_table hr (by rfl) (pa_cons (pv 5) (pa_cons (pe_op op_sub (pe_op op_shlW pe_int (pe_op op_sub (pv 1) (pv 6))) pe_int) pa_nil)))))))))))
    (pss_one (ps_ret (pv 4))))), ?_⟩
  rintro ds ⟨k, h, s, m, rfl, h1, h2, h3, h4⟩
  apply rt_se
  show SE K _ [.dat (.str k), .dat (.int h), .dat (.int s), .dat (.int m), .un, .un, .un, .un, .un, .un, .un, .un] _
  obtain ⟨_, q, c1⟩ := use_fn (K := K) p_table_at [.int s, .int m] ⟨_, _, rfl, h3, h4⟩
  obtain ⟨t0, rfl, lt0, bt0⟩ := q _ _ rfl
  have e0 : (2 : Int) ^ 0 = 1 := by decide
  rw [← e0] at bt0
  apply se_seq (r1 := [.dat (.str k), .dat (.int h), .dat (.int s), .dat (.int m), .own (([] : List Int).map .int), .dat (LI t0), .un, .un, .un, .un, .un, .un])
  · apply sd_parOD (ds := ([] : List Int).map .int)
    · apply evn_lst
      · walk_at "ev"
      · walk_at "sc"
    · walk_at "ev"
  have hs0 : (0 : Int) < s := by omega
  refine se_for [6, 7, 8, 9, 10, 11] (fun f : List Int × List Int => [.dat (.str k), .dat (.int h), .dat (.int s), .dat (.int m), .own (f.1.map .int), .dat (LI f.2), .un, .un, .un, .un, .un, .un]) PyData.int (fun j f => f.1.length = j ∧ TB (2 ^ 200) f.1 ∧ (f.2.length : Int) = s ∧ TB (2 ^ j) f.2) (rgI 1 h) ([], t0) rfl ⟨rfl, tb_nil, lt0, bt0⟩ (it_rng2 (by walk_at "ev") (by omega) (by omega)) ?_ ?_
  · rintro j d ⟨f, t⟩ hj hd ⟨l1, b1, l2, b2⟩
    dsimp only at l1 b1 l2 b2
    have hd := mem_rgI hd
    rw [rgI_len] at hj
    obtain ⟨_, q, c2⟩ := use_fn (K := K) p_stepped_table [LI t, .int (1 * 2 ^ (h - d).toNat - 1)] ⟨_, _, rfl, by omega, by omega⟩
    obtain ⟨t1, rfl, lt1, bt1⟩ := q _ _ rfl
    have bt1 : TB (2 ^ (j + 1)) t1 := by
      rw [p2succ]
      exact bt1 _ b2
    obtain ⟨_, q, c3⟩ := use_fn (K := K) p_sums_of [.str k, .int h, .int (d - 1)] ⟨_, _, _, rfl, by omega, by omega, by omega⟩
    obtain rfl := q _ _ _ rfl
    generalize smF k h (d - 1) = S at *
    obtain ⟨_, q, c4⟩ := use_fn (K := K) p_moved_table [LI t, .int S.1] ⟨_, _, rfl, by omega, by omega⟩
    obtain ⟨t2, rfl, lt2, mt2⟩ := q _ _ rfl
    have hw := p2b (n := (d - 1).toNat) (b := 100) (by omega)
    have pz := pw_sz (j := j) (n := t2.length) (by omega) (by omega)
    have hcr : ∀ a b : Int, ∃ M, Spd K (spD K ["table", "low", "high"].length fun ds d => Q_count_rests ds ∧ d = f_count_rests ds) [LI t2, .int a, .int b] (.int M) ∧ -(2 ^ 110) ≤ M ∧ M ≤ 2 ^ 110 := fun a b => by
      obtain ⟨_, q, c5⟩ := use_fn (K := K) p_count_rests [LI t2, .int a, .int b] ⟨_, _, _, rfl⟩
      obtain ⟨M, rfl, bM⟩ := q _ _ _ rfl
      have bM := bM (2 ^ j) (Int.le_of_lt (p2pos _)) (b2.sub mt2) t2.length (Nat.le_refl _)
      exact ⟨M, c5, by omega, by omega⟩
    apply tg (P := fun s' : List Int × List Int => s'.1.length = j + 1 ∧ TB (2 ^ 200) s'.1 ∧ (s'.2.length : Int) = s ∧ TB (2 ^ (j + 1)) s'.2) gd_name
    apply sg_seq (r1 := [.dat (.str k), .dat (.int h), .dat (.int s), .dat (.int m), .own (f.map .int), .dat (LI t), .dat (.int d), .dat (.int S.1), .un, .un, .un, .un])
    · apply sd_asg
      · apply ev_op
        · walk_at "ev"
        · walk_at "ev"
        · apply rd_ixT
          rfl
      · walk_at "ev"
    walk_at "par"
    walk_at "asg"
    refine sg_for [11] (fun M : Int => [.dat (.str k), .dat (.int h), .dat (.int s), .dat (.int m), .own (f.map .int), .dat (LI t), .dat (.int d), .dat (.int S.1), .dat (LI t2), .dat (.int (1 * 2 ^ (d - 1).toNat)), .dat (.int M), .un]) PyData.int (fun i M => -(2 ^ 110 * (i : Int)) ≤ M ∧ M ≤ 2 ^ 110 * (i : Int)) [1, 1 * 2 ^ (h - d).toNat] 0 rfl ⟨by decide, by decide⟩ (it_tup (ds := [.int 1, .int (1 * 2 ^ (h - d).toNat)]) (by walk_at "ev")) ?_ ?_
    · rintro i gap M hi hg ⟨m1, m2⟩
      by_cases c : gap ≥ s
      · refine ⟨M + 1 * 2 ^ (d - 1).toNat, ⟨by omega, by omega⟩, ?_⟩
        apply tn
        · walk_at "ev"
        · apply sd_goN
          refine sd_ifT (et_is (by walk_at "ev") (dtr c)) ?_
          apply sd_aug
          · rfl
          · walk_at "ev"
          · walk_at "ev"
        · rfl
      · by_cases c2 : k = "preorder"
        · obtain ⟨M2, c5, n1, n2⟩ := hcr (s - gap) s
          refine ⟨M + M2, ⟨by omega, by omega⟩, ?_⟩
          apply tn
          · walk_at "ev"
          · apply sd_goN
            refine sd_ifF (et_is (by walk_at "ev") (dfa c)) ?_
            refine sd_ifT (et_is (by walk_at "ev") (dtr c2)) ?_
            apply sd_aug
            · rfl
            · walk_at "ev"
            · walk_at "ev"
          · rfl
        · obtain ⟨M2, c5, n1, n2⟩ := hcr 0 gap
          refine ⟨M + M2, ⟨by omega, by omega⟩, ?_⟩
          apply tn
          · walk_at "ev"
          · apply sd_goN
            refine sd_ifF (et_is (by walk_at "ev") (dfa c)) ?_
            refine sd_ifF (et_is (by walk_at "ev") (dfa c2)) ?_
            apply sd_aug
            · rfl
            · walk_at "ev"
            · walk_at "ev"
          · rfl
    · rintro M ⟨m1, m2⟩
      apply sg_seq
      · apply sd_app
        · rfl
        · walk_at "ev"
        · rw [List.length_map]
          omega
      · apply sg_of
        · apply sd_asg
          · walk_at "ev"
          · walk_at "ev"
        · refine ⟨(f ++ [M], t1), ⟨by rw [List.length_append, l1]; rfl, b1.app (TB.one ⟨?_, ?_⟩), by dsimp only; omega, bt1⟩, ?_⟩
          · have : (2 : Int) ^ 110 * 2 ≤ 2 ^ 200 := by decide
            have : (([1, 1 * 2 ^ (h - d).toNat] : List Int).length : Int) = 2 := rfl
            omega
          · have : (2 : Int) ^ 110 * 2 ≤ 2 ^ 200 := by decide
            have : (([1, 1 * 2 ^ (h - d).toNat] : List Int).length : Int) = 2 := rfl
            omega
          · rw [mapap]
            rfl
  · intro f hf
    rw [rgI_len] at hf
    refine se_of (sd_frz (i := 4) rfl (sd_ret (ev_var rfl))) ?_
    intro k' h' s' m' e
    obtain ⟨rfl, rfl, rfl, rfl⟩ := inj_SIII e
    exact ⟨f.1, rfl, by omega, hf.2.1⟩
end
end
end
section
set_option exponentiation.threshold 5000
section
open PySem L2
section
variable {P : Program} {w : World} {K : PySem.W.Frag} {mg : Str → Option Value} {base : Heap}
def Q_spread_table (ds : List PyData) : Prop := ∃ ns st mn, ds = [LI ns, .int st, .int mn] ∧ 1 ≤ ns.length ∧ ns.length ≤ 1000 ∧ 0 ≤ mn ∧ mn ≤ 2 ^ 200 ∧ TB (2 ^ 700) ns
def Z_spread_table (ds : List PyData) (z : PyData) : Prop := ∀ ns st mn, ds = [LI ns, .int st, .int mn] → ∃ ms, z = LI ms ∧ ms.length = ns.length ∧ ∀ C, 0 ≤ C → TB C ns → TB (C * 1000 * (mn + 3)) ms
structure SpS where
  seen : List Bool
  ring : List Int
  rest : Int
abbrev F_spread_table (P : Program) (w : World) (K : PySem.W.Frag) (mg : Str → Option Value) (base : Heap) : Prop := Fn P w K mg base "spread_table" 1 ["table", "step", "many"] Q_spread_table Z_spread_table
theorem ok_spread_table (B : Bt w K mg) (D : Df K mg "spread_table" "spread_table" s_spread_table)  : F_spread_table P w K mg base := by
  refine mk_fn D sc_spread_table (fun _ _ _ _ _ _ us hl => match us, hl with | [_, _, _], _ => rfl) ⟨_, fun cdv A outer s H E f hr =>
    (pss_cons (ps_set (i := 3) sc_spread_table.nd rfl (Or.inl rfl) (pe_callB (call_lenK K) (by rfl) B.len (by decide +kernel) (pa_cons (pv 0) pa_nil)))
    (pss_cons (ps_par (i := 4) (j := 5) rfl sc_spread_table.nd rfl rfl (by decide) rfl rfl  (pa_cons (pe_op op_rep (pe_lst (pa_cons pe_int pa_nil)) (pv 3)) (pa_cons (pe_op op_rep (pe_lst (pa_cons pe_bl pa_nil)) (pv 3)) pa_nil)) (by rfl))
    (pss_cons (ps_for PassesOwn.never rfl (pi_range1 (by rfl) B.range (pa_cons (pv 3) pa_nil)) (pg_name (i := 6) sc_spread_table.nd rfl (Or.inl rfl)) (pss_cons (ps_if (pt_val (pe_ix (ix_listK K) (pv 5) (pv 6) (fun _ _ => rfl))) (pss_one ps_continue) pss_nil)
    (pss_cons (ps_asg (pe_tup (pa_cons (pe_lst pa_nil) (pa_cons (pv 6) pa_nil))) (pg_tupK (n := 2) K rfl (pgs_cons (pg_name (i := 7) sc_spread_table.nd rfl (Or.inr rfl)) (pgs_cons (pg_name (i := 8) sc_spread_table.nd rfl (Or.inl rfl)) pgs_nil))))
    (pss_cons (ps_while PassesOwn.never (pt_not (pt_val (pe_ix (ix_listK K) (pv 5) (pv 8) (fun _ _ => rfl)))) (pss_cons (ps_asg pe_bl (pg_sub (pv 5) (pv 8) set_list))
    (pss_cons (ps_expr (pe_appK K (pv 7) (pv 8)))
    (pss_one (ps_set (i := 8) sc_spread_table.nd rfl (Or.inl rfl) (pe_op op_mod (pe_op op_add (pv 8) (pv 1)) (pv 3)))))))
    (pss_cons (ps_asg (pe_callB call_divmodW (by rfl) B.divmod (by decide +kernel) (pa_cons (pv 2) (pa_cons (pe_callB (call_lenK K) (by rfl) B.len (by decide +kernel) (pa_cons (pv 7) pa_nil)) pa_nil))) (pg_tupK (n := 2) K rfl (pgs_cons (pg_name (i := 9) sc_spread_table.nd rfl (Or.inl rfl)) (pgs_cons (pg_name (i := 10) sc_spread_table.nd rfl (Or.inl rfl)) pgs_nil))))
    (pss_cons (ps_set (i := 11) sc_spread_table.nd rfl (Or.inl rfl) (pe_op op_mulW (pv 9) (pe_callB (cr_sumK K rfl) (by rfl) B.sum (by decide +kernel) (pa_cons (pe_lc (own := [("rest", 8)]) rfl sc_spread_table.nd (pi_listK K (pv 7)) (blkOk_by (own := [("rest", 8)]) (N := n_spread_table) (sc := defScope s_spread_table) (by decide +kernel)) (fun _ _ _ _ _ => (pg_name (i := 8) sc_spread_table.nd rfl (Or.inl rfl))) (fun _ _ _ _ _ => pts_nil) (fun _ _ _ _ _ => (pe_ix (ix_listK K) (pv 0) (pv 8) (fun _ _ => rfl)))) pa_nil))))
    (pss_cons (ps_set (i := 12) sc_spread_table.nd rfl (Or.inl rfl) (pe_ifExp (pt_cmpR op_gt (pv 10) pe_int (nomark _)) (pe_callB (cr_sumK K rfl) (by rfl) B.sum (by decide +kernel) (pa_cons (pe_lc (own := [("spot", 13)]) rfl sc_spread_table.nd (pi_range1 (by rfl) B.range (pa_cons (pv 10) pa_nil)) (blkOk_by (own := [("spot", 13)]) (N := n_spread_table) (sc := defScope s_spread_table) (by decide +kernel)) (fun _ _ _ _ _ => (pg_name (i := 13) sc_spread_table.nd rfl (Or.inl rfl))) (fun _ _ _ _ _ => pts_nil) (fun _ _ _ _ _ => (pe_ix (ix_listK K) (pv 0) (pe_ix (ix_listK K) (pv 7) (pe_un un_neg (pv 13)) (fun _ _ => rfl)) (fun _ _ => rfl)))) pa_nil)) pe_int))
    (pss_one (ps_for PassesOwn.never rfl (pi_enumK K (by rfl) B.enumerate (pa_cons (pv 7) pa_nil)) (pg_tupK (n := 2) K rfl (pgs_cons (pg_name (i := 13) sc_spread_table.nd rfl (Or.inl rfl)) (pgs_cons (pg_name (i := 8) sc_spread_table.nd rfl (Or.inl rfl)) pgs_nil))) (pss_cons (ps_if (PW.pt (pw_and (pt_cmpR op_gt (pv 13) pe_int (nomark _)) (pw_and1 (pt_cmpR op_gt (pv 10) pe_int (nomark _))))) (pss_one (ps_aug (i := 12) sc_spread_table.nd rfl (Or.inl rfl) (pe_op op_sub (pe_ix (ix_listK K) (pv 0) (pv 8) (fun _ _ => rfl)) (pe_ix (ix_listK K) (pv 0) (pe_ix (ix_listK K) (pv 7) (pe_op op_sub (pv 13) (pv 10)) (fun _ _ => rfl)) (fun _ _ => rfl))) ip_add)) pss_nil)
    (pss_one (ps_asg (pe_op op_add (pv 11) (pv 12)) (pg_sub (pv 4) (pv 8) set_list)))))))))))))
    (pss_one (ps_ret (pv 4)))))), ?_⟩
  rintro ds ⟨ns, st, mn, rfl, h1, h2, h3, h4, h5⟩
  apply rt_se
  show SE K _ [.dat (LI ns), .dat (.int st), .dat (.int mn), .un, .un, .un, .un, .un, .un, .un, .un, .un, .un, .un] _
  generalize hn : (ns.length : Int) = n
  have hn0 : (0 : Int) < n := by omega
  apply se_seq (r1 := [.dat (LI ns), .dat (.int st), .dat (.int mn), .dat (.int n), .un, .un, .un, .un, .un, .un, .un, .un, .un, .un])
  · apply sd_asg (d := .int n)
    · apply ev_is
      · walk_at "ev"
      · rw [List.length_map, hn]
    · walk_at "ev"
  apply se_seq (r1 := [.dat (LI ns), .dat (.int st), .dat (.int mn), .dat (.int n), .own ((List.replicate n.toNat (0 : Int)).map .int), .own ((List.replicate n.toNat false).map .bool), .un, .un, .un, .un, .un, .un, .un, .un])
  · apply sd_parOO (ds := (List.replicate n.toNat (0 : Int)).map PyData.int) (es := (List.replicate n.toNat false).map PyData.bool)
    · apply evn_is
      · apply evn_rep (n := n)
        · apply evn_lst
          · walk_at "ev"
          · walk_at "sc"
        · walk_at "ev"
        · omega
        · omega
        · show 1 * _ ≤ _
          omega
      · rw [rep_int, List.map_replicate]
    · apply evn_is
      · apply evn_rep (n := n)
        · apply evn_lst
          · walk_at "ev"
          · walk_at "sc"
        · walk_at "ev"
        · omega
        · omega
        · show 1 * _ ≤ _
          omega
      · rw [rep_int, List.map_replicate]
  refine se_for [6, 7, 8, 9, 10, 11, 12, 13] (fun s : List Int × List Bool => [.dat (LI ns), .dat (.int st), .dat (.int mn), .dat (.int n), .own (s.1.map .int), .own (s.2.map .bool), .un, .un, .un, .un, .un, .un, .un, .un]) PyData.int (fun _ s => (s.1.length : Int) = n ∧ (s.2.length : Int) = n ∧ ∀ C, 0 ≤ C → TB C ns → TB (C * 1000 * (mn + 3)) s.1) (rgI 0 n) (List.replicate n.toNat 0, List.replicate n.toNat false) rfl ⟨?_, ?_, ?_⟩ (it_rng1 (by walk_at "ev") (by omega)) ?_ ?_
  · rw [List.length_replicate]
    omega
  · rw [List.length_replicate]
    omega
  · intro C hC _ x hx
    rw [(List.mem_replicate.mp hx).2]
    have : 0 ≤ C * 1000 * (mn + 3) := Int.mul_nonneg (by omega) (by omega)
    omega
  · rintro j b ⟨fo, se⟩ hj hb ⟨l1, l2, bb⟩
    dsimp only at l1 l2 bb
    have hb := mem_rgI hb
    apply tg (P := fun s : List Int × List Bool => (s.1.length : Int) = n ∧ (s.2.length : Int) = n ∧ ∀ C, 0 ≤ C → TB C ns → TB (C * 1000 * (mn + 3)) s.1) gd_name
    obtain ⟨b0, _, hb0, ab0⟩ := atI_in (xs := se) (i := b) (by omega) (by omega)
    have ab1 := atI_map (f := PyData.bool) ab0
    cases b0 with
    | true =>
      apply sg_ct
      · refine sd_ifT (et_B (ev_ixO rfl (ev_var rfl) ab1)) ?_
        exact sd_cont
      · exact ⟨(fo, se), ⟨l1, l2, bb⟩, rfl⟩
    | false =>
      refine sg_seq (sd_ifF (et_B (ev_ixO rfl (ev_var rfl) ab1)) sd_next) ?_
      apply sg_seq (r1 := [.dat (LI ns), .dat (.int st), .dat (.int mn), .dat (.int n), .own (fo.map .int), .own (se.map .bool), .dat (.int b), .own (([] : List Int).map .int), .dat (.int b), .un, .un, .un, .un, .un])
      · apply sd_asgOD (ds := ([] : List Int).map PyData.int)
        · apply evn_lst
          · walk_at "ev"
          · walk_at "sc"
        · walk_at "ev"
      refine sg_whl [] (fun s : SpS => [.dat (LI ns), .dat (.int st), .dat (.int mn), .dat (.int n), .own (fo.map .int), .own (s.seen.map .bool), .dat (.int b), .own (s.ring.map .int), .dat (.int s.rest), .un, .un, .un, .un, .un])
        (fun s => !((s.seen[s.rest.toNat]?).getD false)) (fun s => (s.seen.length : Int) = n ∧ 0 ≤ s.rest ∧ s.rest < n ∧ (∀ x ∈ s.ring, 0 ≤ x ∧ x < n) ∧ ((s.ring.length + s.seen.count false : Nat) : Int) ≤ n ∧ (s.ring ≠ [] ∨ s.seen[s.rest.toNat]? = some false)) (fun s => s.seen.count false) ⟨se, [], b⟩ rfl ?_ ?_ ?_ ?_
      · refine ⟨l2, hb.1, hb.2, (fun x hx => nomatch hx), ?_, .inr hb0⟩
        have := List.count_le_length (a := false) (l := se)
        show ((0 + se.count false : Nat) : Int) ≤ n
        omega
      · rintro ⟨sn, rg, rs⟩ ⟨p1, p2, p3, p4, p5, p6⟩
        dsimp only at p1 p2 p3 p4 p5 p6
        obtain ⟨x, _, x1, x2⟩ := atI_in (xs := sn) (i := rs) (by omega) (by omega)
        dsimp only
        rw [x1]
        exact et_not (et_B (ev_ixO rfl (ev_var rfl) (atI_map (f := PyData.bool) x2)))
      · rintro ⟨sn, rg, rs⟩ ⟨p1, p2, p3, p4, p5, p6⟩ hc
        dsimp only at p1 p2 p3 p4 p5 p6 hc
        obtain ⟨x, _, x1, x2⟩ := atI_in (xs := sn) (i := rs) (by omega) (by omega)
        rw [x1] at hc
        have hx : x = false := by
          cases x with
          | true => cases hc
          | false => rfl
        subst hx
        have hcs := cnt_set x1
        have c0 := Int.emod_nonneg (rs + st) (b := n) (by omega)
        have c1 := Int.emod_lt_of_pos (rs + st) hn0
        refine ⟨⟨sn.set rs.toNat true, rg ++ [rs], (rs + st) % n⟩, ⟨?_, c0, c1, ?_, ?_, .inl ?_⟩, ?_, ?_⟩
        · dsimp only
          rw [List.length_set]
          exact p1
        · intro y hy
          rcases List.mem_append.mp hy with a | a
          · exact p4 y a
          · have : y = rs := by simpa using a
            omega
        · dsimp only
          rw [List.length_append]
          show (((rg.length + 1) + _ : Nat) : Int) ≤ n
          omega
        · dsimp only
          intro z
          have := congrArg List.length z
          rw [List.length_append] at this
          exact absurd this (by show ¬ _ + 1 = 0; omega)
        · dsimp only
          omega
        · apply tw
          · apply sd_goN
            dsimp only
            apply sd_seq (r1 := [.dat (LI ns), .dat (.int st), .dat (.int mn), .dat (.int n), .own (fo.map .int), .own ((sn.set rs.toNat true).map .bool), .dat (.int b), .own (rg.map .int), .dat (.int rs), .un, .un, .un, .un, .un])
            · rw [List.map_set]
              apply sd_setI (m := rs.toNat) (n := rs) (d := .bool true)
              · rfl
              · walk_at "ev"
              · walk_at "ev"
              · rw [List.length_map]
                exact ixN_in p2 (by omega)
            apply sd_seq (r1 := [.dat (LI ns), .dat (.int st), .dat (.int mn), .dat (.int n), .own (fo.map .int), .own ((sn.set rs.toNat true).map .bool), .dat (.int b), .own ((rg ++ [rs]).map .int), .dat (.int rs), .un, .un, .un, .un, .un])
            · rw [← mapap]
              apply sd_app (d := .int rs)
              · rfl
              · walk_at "ev"
              · rw [List.length_map]
                omega
            · apply sd_asg
              · walk_at "ev"
              · walk_at "ev"
          · rfl
      · rintro ⟨sn, rg, rs⟩ ⟨p1, p2, p3, p4, p5, p6⟩ hc
        dsimp only at p1 p2 p3 p4 p5 p6 hc
        have hrg : rg ≠ [] := by
          rcases p6 with a | a
          · exact a
          · rw [a] at hc
            cases hc
        have hrl : 0 < rg.length := List.length_pos_iff.mpr hrg
        apply sg_frz (i := 7) rfl
        show SG K _ [.dat (LI ns), .dat (.int st), .dat (.int mn), .dat (.int n), .own (fo.map .int), .own (sn.map .bool), .dat (.int b), .dat (LI rg), .dat (.int rs), .un, .un, .un, .un, .un] _ _
        generalize hL : (rg.length : Int) = L at *
        have hL0 : 0 < L := by omega
        have hdv : CDivP mn L := divP_ok hL0 (by omega)
        have m0 := Int.emod_nonneg mn (b := L) (by omega)
        have m1 := Int.emod_lt_of_pos mn hL0
        have q0 : 0 ≤ mn / L := Int.ediv_nonneg h3 (by omega)
        have q1 : mn / L ≤ mn := Int.ediv_le_self L h3
        apply sg_seq (r1 := [.dat (LI ns), .dat (.int st), .dat (.int mn), .dat (.int n), .own (fo.map .int), .own (sn.map .bool), .dat (.int b), .dat (LI rg), .dat (.int rs), .dat (.int (mn / L)), .dat (.int (mn % L)), .un, .un, .un])
        · apply sd_asg (d := .tuple [.int (mn / L), .int (mn % L)])
          · apply ev_cb
            · apply ea_cons
              · walk_at "ev"
              · apply ea_cons (d := .int L)
                · apply ev_is
                  · walk_at "ev"
                  · rw [List.length_map, hL]
                · walk_at "ev"
            · exact rc_divmod hdv
          · walk_at "ev"
        have tbr : ∀ C, 0 ≤ C → TB C ns → -(C * 1000) ≤ (rg.map (gtI ns)).sum ∧ (rg.map (gtI ns)).sum ≤ C * 1000 := fun C hC hb => TB.sum (m := 1000) hC (fun x hx => by
          obtain ⟨y, hy, rfl⟩ := List.mem_map.mp hx
          have := p4 y hy
          exact hb _ (gtI_any (by omega) (by omega)).2) (by rw [List.length_map]; omega)
        have tb7 := tbr _ (by decide) h5
        have hq8 : (2 : Int) ^ 200 < 2 ^ 201 := by decide
        have hq9 := nab_lt q0 (a := 201) (by omega)
        have hmul : CMulW (mn / L) (rg.map (gtI ns)).sum := mul_ok (a := 201) (b := 711) hq9 (by
          have : (2 : Int) ^ 700 * 1000 < 2 ^ 711 := by decide
          have e : (2 : Int) ^ 711 = ((2 ^ 711 : Nat) : Int) := by norm_cast
          omega)
        apply sg_seq (r1 := [.dat (LI ns), .dat (.int st), .dat (.int mn), .dat (.int n), .own (fo.map .int), .own (sn.map .bool), .dat (.int b), .dat (LI rg), .dat (.int rs), .dat (.int (mn / L)), .dat (.int (mn % L)), .dat (.int (mn / L * (rg.map (gtI ns)).sum)), .un, .un])
        · apply sd_asg
          · apply ev_op (b := .int (rg.map (gtI ns)).sum)
            · walk_at "ev"
            · apply ev_cb
              · apply ea_cons (d := LI (rg.map (gtI ns)))
                · apply ev_new
                  apply evn_lcI
                  · apply it_list
                    walk_at "ev"
                  · omega
                  · intro x hx
                    have := p4 x hx
                    have hat := (gtI_any (ns := ns) (i := x) (by omega) (by omega)).1
                    refine ⟨_, _, gd_name, by walk_at "sc", ?_⟩
                    walk_at "ev"
                · walk_at "ev"
              · exact rc_sum
            · walk_at "ev"
          · walk_at "ev"
        generalize hW : mn / L * (rg.map (gtI ns)).sum = W
        have bW : ∀ C, 0 ≤ C → TB C ns → -(mn * (C * 1000)) ≤ W ∧ W ≤ mn * (C * 1000) := fun C hC hb => by
          rw [← hW]
          exact abs_mul ⟨by omega, q1⟩ (tbr C hC hb)
        refine sg_asgE (R := fun s0 => ∀ C, 0 ≤ C → TB C ns → -(C * 1000) ≤ s0 ∧ s0 ≤ C * 1000) ?_ ?_
        · by_cases c : mn % L > 0
          · have ring_at : ∀ x, 0 ≤ x → x < mn % L → atI (rg.map PyData.int) (-x) = some (.int (gtI rg (-x))) ∧ atI (ns.map PyData.int) (gtI rg (-x)) = some (.int (gtI ns (gtI rg (-x)))) ∧ gtI ns (gtI rg (-x)) ∈ ns := fun x x0 x1 => by
              obtain ⟨a, b⟩ := gtI_any (ns := rg) (i := -x) (by omega) (by omega)
              have := p4 _ b
              obtain ⟨d, e⟩ := gtI_any (ns := ns) (i := gtI rg (-x)) (by omega) (by omega)
              exact ⟨a, d, e⟩
            refine ⟨((rgI 0 (mn % L)).map fun x => gtI ns (gtI rg (-x))).sum, ?_, ?_⟩
            · intro C hC hb
              apply TB.sum hC (m := 1000)
              · intro y hy
                obtain ⟨x, hx, rfl⟩ := List.mem_map.mp hy
                have := mem_rgI hx
                exact hb _ (ring_at x this.1 this.2).2.2
              · rw [List.length_map, rg_len0]
                omega
            · refine ev_ifT (et_is (by walk_at "ev") (dtr c)) ?_
              apply ev_cb
              · apply ea_cons (d := LI ((rgI 0 (mn % L)).map fun x => gtI ns (gtI rg (-x))))
                · apply ev_new
                  apply evn_lcI
                  · apply it_rng1
                    · walk_at "ev"
                    · omega
                  · rw [rg_len0]
                    omega
                  · intro x hx
                    have := mem_rgI hx
                    obtain ⟨a1, a2, _⟩ := ring_at x this.1 this.2
                    refine ⟨_, _, gd_name, by walk_at "sc", ?_⟩
                    walk_at "ev"
                · walk_at "ev"
              · exact rc_sum
          · refine ⟨0, ?_, ?_⟩
            · intro C hC _
              omega
            · refine ev_ifF (et_is (by walk_at "ev") (dfa c)) ?_
              walk_at "ev"
        · intro s0 bs0
          refine sg_forL [8, 13] (fun s : List Int × Int => [.dat (LI ns), .dat (.int st), .dat (.int mn), .dat (.int n), .own (s.1.map .int), .own (sn.map .bool), .dat (.int b), .dat (LI rg), .un, .dat (.int (mn / L)), .dat (.int (mn % L)), .dat (.int W), .dat (.int s.2), .un]) prD
            (fun i s => (s.1.length : Int) = n ∧ (∀ C, 0 ≤ C → TB C ns → TB (C * 1000 * (mn + 3)) s.1) ∧ ∀ C, 0 ≤ C → TB C ns → -(C * 1000 + 2 * C * (i : Int)) ≤ s.2 ∧ s.2 ≤ C * 1000 + 2 * C * (i : Int)) (enI 0 rg) (fo, s0) rfl ⟨l1, bb, fun C hC hb => by
              have := bs0 C hC hb
              show -(C * 1000 + 2 * C * 0) ≤ s0 ∧ s0 ≤ C * 1000 + 2 * C * 0
              omega⟩ (it_enumI (by walk_at "ev")) ?_ ?_
          · rintro i ⟨sp, re⟩ ⟨f2, so⟩ hi hx ⟨g1, g2, g3⟩
            dsimp only at g1 g2 g3
            rw [enI_len] at hi
            have m := enI_mem hx
            dsimp only at m
            have hre := p4 _ m.2.2
            obtain ⟨a1, a2⟩ := gtI_any (ns := ns) (i := re) (by omega) (by omega)
            apply tg (P := fun s : List Int × Int => (s.1.length : Int) = n ∧ (∀ C, 0 ≤ C → TB C ns → TB (C * 1000 * (mn + 3)) s.1) ∧ ∀ C, 0 ≤ C → TB C ns → -(C * 1000 + 2 * C * ((i + 1 : Nat) : Int)) ≤ s.2 ∧ s.2 ≤ C * 1000 + 2 * C * ((i + 1 : Nat) : Int))
            · apply gd_tup (gds_cons gd_name (gds_cons gd_name gds_nil)) rfl
            have key : ∀ s1 : Int, (∀ C, 0 ≤ C → TB C ns → -(C * 1000 + 2 * C * ((i + 1 : Nat) : Int)) ≤ s1 ∧ s1 ≤ C * 1000 + 2 * C * ((i + 1 : Nat) : Int)) → (((f2.set re.toNat (W + s1)).length : Nat) : Int) = n ∧ ∀ C, 0 ≤ C → TB C ns → TB (C * 1000 * (mn + 3)) (f2.set re.toNat (W + s1)) := fun s1 hs1 => by
              refine ⟨by rw [List.length_set]; exact g1, fun C hC hb => TB.set (g2 C hC hb) ?_ _⟩
              have w1 := bW C hC hb
              have w2 := hs1 C hC hb
              have w3 : 2 * C * ((i + 1 : Nat) : Int) ≤ 2 * C * 1000 := Int.mul_le_mul_of_nonneg_left (by omega) (by omega)
              have e : C * 1000 * (mn + 3) = mn * (C * 1000) + C * 1000 * 3 := by rw [Int.mul_add, Int.mul_comm (C * 1000) mn]
              rw [e]
              omega
            by_cases c : sp > 0 ∧ mn % L > 0
            · obtain ⟨b1, b2⟩ := gtI_any (ns := rg) (i := sp - mn % L) (by omega) (by omega)
              have hre2 := p4 _ b2
              obtain ⟨d1, d2⟩ := gtI_any (ns := ns) (i := gtI rg (sp - mn % L)) (by omega) (by omega)
              have hs1 : ∀ C, 0 ≤ C → TB C ns → -(C * 1000 + 2 * C * ((i + 1 : Nat) : Int)) ≤ so + (gtI ns re - gtI ns (gtI rg (sp - mn % L))) ∧ so + (gtI ns re - gtI ns (gtI rg (sp - mn % L))) ≤ C * 1000 + 2 * C * ((i + 1 : Nat) : Int) := fun C hC hb => by
                have := g3 C hC hb
                have := hb _ a2
                have := hb _ d2
                have e : 2 * C * ((i + 1 : Nat) : Int) = 2 * C * (i : Int) + 2 * C := by
                  rw [Int.natCast_add, Int.mul_add]
                  show _ + 2 * C * 1 = _
                  omega
                rw [e]
                omega
              apply sg_seq (r1 := [.dat (LI ns), .dat (.int st), .dat (.int mn), .dat (.int n), .own (f2.map .int), .own (sn.map .bool), .dat (.int b), .dat (LI rg), .dat (.int re), .dat (.int (mn / L)), .dat (.int (mn % L)), .dat (.int W), .dat (.int (so + (gtI ns re - gtI ns (gtI rg (sp - mn % L))))), .dat (.int sp)])
              · refine sd_ifT (et_andT (et_is (by walk_at "ev") (dtr c.1)) (et_is (by walk_at "ev") (dtr c.2))) ?_
                apply sd_aug
                · rfl
                · walk_at "ev"
                · walk_at "ev"
              · apply sg_of
                · apply sd_setI (m := re.toNat) (n := re)
                  · rfl
                  · walk_at "ev"
                  · walk_at "ev"
                  · rw [List.length_map]
                    exact ixN_in hre.1 (by omega)
                · refine ⟨(f2.set re.toNat (W + (so + (gtI ns re - gtI ns (gtI rg (sp - mn % L))))), so + (gtI ns re - gtI ns (gtI rg (sp - mn % L)))), ⟨(key _ hs1).1, (key _ hs1).2, hs1⟩, ?_⟩
                  rw [List.map_set]
                  rfl
            · have hs1 : ∀ C, 0 ≤ C → TB C ns → -(C * 1000 + 2 * C * ((i + 1 : Nat) : Int)) ≤ so ∧ so ≤ C * 1000 + 2 * C * ((i + 1 : Nat) : Int) := fun C hC hb => by
                have := g3 C hC hb
                have e : 2 * C * ((i + 1 : Nat) : Int) = 2 * C * (i : Int) + 2 * C := by
                  rw [Int.natCast_add, Int.mul_add]
                  show _ + 2 * C * 1 = _
                  omega
                rw [e]
                omega
              apply sg_seq (r1 := [.dat (LI ns), .dat (.int st), .dat (.int mn), .dat (.int n), .own (f2.map .int), .own (sn.map .bool), .dat (.int b), .dat (LI rg), .dat (.int re), .dat (.int (mn / L)), .dat (.int (mn % L)), .dat (.int W), .dat (.int so), .dat (.int sp)])
              · by_cases c1 : sp > 0
                · exact sd_ifF (et_andT (et_is (by walk_at "ev") (dtr c1)) (et_is (by walk_at "ev") (dfa fun c2 => c ⟨c1, c2⟩))) sd_next
                · exact sd_ifF (et_andF (et_is (by walk_at "ev") (dfa c1))) sd_next
              · apply sg_of
                · apply sd_setI (m := re.toNat) (n := re)
                  · rfl
                  · walk_at "ev"
                  · walk_at "ev"
                  · rw [List.length_map]
                    exact ixN_in hre.1 (by omega)
                · refine ⟨(f2.set re.toNat (W + so), so), ⟨(key _ hs1).1, (key _ hs1).2, hs1⟩, ?_⟩
                  rw [List.map_set]
                  rfl
          · rintro ⟨f3, s3⟩ ⟨g1, g2, _⟩
            exact ⟨(f3, sn), ⟨g1, p1, g2⟩, rfl⟩
  · rintro ⟨f, se⟩ ⟨l1, l2, bb⟩
    refine se_of (sd_frz (i := 4) rfl (sd_ret (ev_var rfl))) ?_
    intro ns' st' mn' e
    obtain ⟨rfl, rfl, rfl⟩ := inj_LII e
    exact ⟨f, rfl, by dsimp only at l1; omega, bb⟩
end
end
end
section
set_option exponentiation.threshold 5000
section
open PySem L2
section
variable {P : Program} {w : World} {K : PySem.W.Frag} {mg : Str → Option Value} {base : Heap}
def Q_old_in_cut (ds : List PyData) : Prop := ∃ k l ns, ds = [.str k, .int l, .int (cutLv k l), LI ns] ∧ k ∈ cutK ∧ 2 ≤ l ∧ l ≤ 60 ∧ 1 ≤ ns.length ∧ ns.length ≤ 1000
def Z_old_in_cut (ds : List PyData) (z : PyData) : Prop := ∀ k l ns, ds = [.str k, .int l, .int (cutLv k l), LI ns] → ∃ m, z = .int m ∧ ∀ C, 0 ≤ C → TB C ns → -(C * 4000 * 2 ^ (cutLv k l).toNat) ≤ m ∧ m ≤ C * 4000 * 2 ^ (cutLv k l).toNat
theorem inj_SIIL {k k' : Str} {a b a' b' : Int} {c c' : List Int} (e : [.str k, PyData.int a, .int b, LI c] = [.str k', .int a', .int b', LI c']) : k = k' ∧ a = a' ∧ b = b' ∧ c = c' := by
  injection e with e1 e2
  injection e2 with e2 e3
  injection e3 with e3 e4
  injection e4 with e4 _
  exact ⟨PyData.str.inj e1, PyData.int.inj e2, PyData.int.inj e3, li_inj e4⟩
theorem pow_one_toNat : (1 : Int).toNat = 1 := rfl
abbrev F_old_in_cut (P : Program) (w : World) (K : PySem.W.Frag) (mg : Str → Option Value) (base : Heap) : Prop := Fn P w K mg base "old_in_cut" 4 ["kind", "levels", "top", "table"] Q_old_in_cut Z_old_in_cut
theorem ok_old_in_cut (B : Bt w K mg) (D : Df K mg "old_in_cut" "old_in_cut" s_old_in_cut) (h_cut_gap : F_cut_gap P w K mg base) (h_count_near : F_count_near P w K mg base) (h_spot_of : F_spot_of P w K mg base) : F_old_in_cut P w K mg base := by
  obtain ⟨f_cut_gap, p_cut_gap, C_cut_gap⟩ := h_cut_gap
  obtain ⟨f_count_near, p_count_near, C_count_near⟩ := h_count_near
  obtain ⟨f_spot_of, p_spot_of, C_spot_of⟩ := h_spot_of
  refine mk_fn D sc_old_in_cut (fun _ _ _ _ _ _ us hl => match us, hl with | [_, _, _, _], _ => rfl) ⟨_, fun cdv A outer s H E f hr =>
    (pss_cons (ps_par (i := 4) (j := 5) rfl sc_old_in_cut.nd rfl rfl (by decide) rfl rfl  (pa_cons (pe_callB (call_lenK K) (by rfl) B.len (by decide +kernel) (pa_cons (pv 3) pa_nil)) (pa_cons pe_int pa_nil)) (by rfl))
    (pss_cons (ps_asg (pe_callC C_cut_gap hr (by rfl) (pa_cons (pv 0) (pa_cons (pv 1) (pa_cons (pv 2) pa_nil)))) (pg_tupK (n := 2) K rfl (pgs_cons (pg_name (i := 6) sc_old_in_cut.nd rfl (Or.inl rfl)) (pgs_cons (pg_name (i := 7) sc_old_in_cut.nd rfl (Or.inl rfl)) pgs_nil))))
    (pss_cons (ps_set (i := 8) sc_old_in_cut.nd rfl (Or.inl rfl) (pe_lst (pa_cons pe_int pa_nil)))
    (pss_cons (ps_for PassesOwn.never rfl (pi_listK K (pe_lst (pa_starK K (pv 3) (pa_starK K (pv 3) pa_nil)))) (pg_name (i := 9) sc_old_in_cut.nd rfl (Or.inl rfl)) (pss_one (ps_expr (pe_appK K (pv 8) (pe_op op_add (pe_ix (ix_listK K) (pv 8) (pe_un un_neg pe_int) (fun _ _ => rfl)) (pv 9))))))
    (pss_cons (ps_for PassesOwn.never rfl (pi_range1 (by rfl) B.range (pa_cons (pe_callC C_count_near hr (by rfl) (pa_cons (pv 6) (pa_cons (pv 7) (pa_cons (pe_op op_sub (pv 4) pe_int) pa_nil)))) pa_nil)) (pg_name (i := 10) sc_old_in_cut.nd rfl (Or.inl rfl)) (pss_cons (ps_set (i := 11) sc_old_in_cut.nd rfl (Or.inl rfl) (pv 6))
    (pss_cons (ps_for PassesOwn.never rfl (pi_enumK K (by rfl) B.enumerate (pa_cons (pv 7) pa_nil)) (pg_tupK (n := 2) K rfl (pgs_cons (pg_name (i := 12) sc_old_in_cut.nd rfl (Or.inl rfl)) (pgs_cons (pg_name (i := 13) sc_old_in_cut.nd rfl (Or.inl rfl)) pgs_nil))) (pss_one (ps_if (pt_cmpR op_eq (pe_op op_and (pe_op op_shr (pv 10) (pe_op op_sub (pe_op op_sub (pe_callB (call_lenK K) (by rfl) B.len (by decide +kernel) (pa_cons (pv 7) pa_nil)) pe_int) (pv 12))) pe_int) pe_int (nomark _)) (pss_one (ps_aug (i := 11) sc_old_in_cut.nd rfl (Or.inl rfl) (pv 13) ip_add)) pss_nil)))
    (pss_cons (ps_set (i := 14) sc_old_in_cut.nd rfl (Or.inl rfl) (pe_op op_mod (pe_un un_neg (pe_callC C_spot_of hr (by rfl) (pa_cons (pv 0) (pa_cons (pv 2) (pa_cons (pe_tup (pa_cons (pe_op op_sub (pv 2) pe_int) (pa_cons (pe_op op_shr (pv 10) pe_int) pa_nil))) pa_nil))))) (pv 4)))
    (pss_one (ps_aug (i := 5) sc_old_in_cut.nd rfl (Or.inl rfl) (pe_op op_sub (pe_ix (ix_listK K) (pv 8) (pe_op op_sub (pe_op op_add (pv 14) (pv 4)) (pv 11)) (fun _ _ => rfl)) (pe_ix (ix_listK K) (pv 8) (pv 14) (fun _ _ => rfl))) ip_add))))))
    (pss_one (ps_ret (pv 5)))))))), ?_⟩
  rintro ds ⟨k, l, ns, rfl, hk, h1, h2, h3, h4⟩
  apply rt_se
  show SE K _ [.dat (.str k), .dat (.int l), .dat (.int (cutLv k l)), .dat (LI ns), .un, .un, .un, .un, .un, .un, .un, .un, .un, .un, .un] _
  obtain ⟨t1, t2, t3⟩ := cutLv_bd (k := k) (h := l) (by omega)
  have ok := cg_ok hk h1
  generalize hn : (ns.length : Int) = n
  have hn0 : (0 : Int) < n := by omega
  apply se_seq (r1 := [.dat (.str k), .dat (.int l), .dat (.int (cutLv k l)), .dat (LI ns), .dat (.int n), .dat (.int 0), .un, .un, .un, .un, .un, .un, .un, .un, .un])
  · apply sd_par (d := .int n) (e := .int 0)
    apply ea_cons
    · apply ev_is
      · walk_at "ev"
      · rw [List.length_map, hn]
    · walk_at "ev"
  obtain ⟨_, q, c1⟩ := use_fn (K := K) p_cut_gap [.str k, .int l, .int (cutLv k l)] ⟨_, _, rfl, hk, h1, by omega⟩
  obtain rfl := q _ _ rfl
  have hL := ok.len
  have hl1 := ok.l1
  have hD := ok.dom
  generalize cgF k l = G at *
  walk_at "asg"
  apply se_seq (r1 := [.dat (.str k), .dat (.int l), .dat (.int (cutLv k l)), .dat (LI ns), .dat (.int n), .dat (.int 0), .dat (.int G.1), .dat (LI G.2), .own ([(0 : Int)].map .int), .un, .un, .un, .un, .un, .un])
  · apply sd_own (ds := [(0 : Int)].map .int)
    apply evn_lst
    · apply ea_cons
      · walk_at "ev"
      · walk_at "ev"
    · walk_at "sc"
  refine se_for [9] (fun f : List Int => [.dat (.str k), .dat (.int l), .dat (.int (cutLv k l)), .dat (LI ns), .dat (.int n), .dat (.int 0), .dat (.int G.1), .dat (LI G.2), .own (f.map .int), .un, .un, .un, .un, .un, .un]) PyData.int (fun j f => f.length = j + 1 ∧ ∀ C, 0 ≤ C → TB C ns → TB (C * (j : Int)) f) (ns ++ ns) [0] rfl ⟨rfl, ?_⟩ ?_ ?_ ?_
  · intro C _ _
    apply TB.one
    show -(C * 0) ≤ 0 ∧ 0 ≤ C * 0
    omega
  · apply it_list
    apply ev_new
    apply evn_is
    · apply evn_lst
      · apply ea_star (ev_var rfl)
        apply ea_star (ev_var rfl)
        exact ea_nil
      · rw [List.append_nil, List.length_append, List.length_map]
        omega
    · rw [List.append_nil, List.map_append]
  · rintro j x f hj hx ⟨l1, b1⟩
    rw [List.length_append] at hj
    obtain ⟨a1, a2⟩ := gtI_any (ns := f) (i := -1) (by omega) (by omega)
    have hx : x ∈ ns := by
      rcases List.mem_append.mp hx with a | a
      · exact a
      · exact a
    refine ⟨f ++ [gtI f (-1) + x], ⟨by rw [List.length_append, l1]; rfl, ?_⟩, ?_⟩
    · intro C hC hb
      have e : C * ((j + 1 : Nat) : Int) = C * (j : Int) + C := by
        rw [Int.natCast_add, Int.mul_add]
        show _ + C * 1 = _
        omega
      have q1 := b1 C hC hb _ a2
      have q2 := hb _ hx
      rw [e]
      exact ((b1 C hC hb).mono (by omega)).app (TB.one (by omega))
    · apply tn
      · walk_at "ev"
      · apply sd_goN
        apply sd_app
        · rfl
        · apply ev_op
          · apply ev_ixO rfl
            · walk_at "ev"
            · exact a1
          · walk_at "ev"
          · walk_at "ev"
        · rw [List.length_map]
          omega
      · rw [mapap]
        rfl
  · rintro f ⟨l1, b1⟩
    rw [List.length_append] at l1 b1
    have b2 : ∀ C, 0 ≤ C → TB C ns → TB (C * 2000) f := fun C hC hb => (b1 C hC hb).mono (Int.mul_le_mul_of_nonneg_left (by omega) hC)
    have l1 : (f.length : Int) = 2 * n + 1 := by omega
    have hm := hn0
    apply se_frz (i := 8) rfl
    obtain ⟨_, q, c2⟩ := use_fn (K := K) p_count_near [.int G.1, LI G.2, .int (n - 1)] ⟨_, _, _, rfl, by omega⟩
    obtain rfl := q _ _ _ rfl
    have hb := cnt_bd G.1 G.2 (n - 1)
    have hb2 : (2 : Int) ^ G.2.length ≤ 2 ^ 30 := p2le (by omega)
    have e30 : (2 : Int) ^ 30 = 1073741824 := by decide
    have hN : ((G.2.map PyData.int).length : Int) = (G.2.length : Int) := by rw [List.length_map]
    refine se_for [9, 10, 11, 12, 13, 14] (fun s : Int => [.dat (.str k), .dat (.int l), .dat (.int (cutLv k l)), .dat (LI ns), .dat (.int n), .dat (.int s), .dat (.int G.1), .dat (LI G.2), .dat (LI f), .un, .un, .un, .un, .un, .un]) PyData.int (fun i s => ∀ C, 0 ≤ C → TB C ns → -(C * 4000 * (i : Int)) ≤ s ∧ s ≤ C * 4000 * (i : Int)) (rgI 0 (cnt G.1 G.2 (n - 1))) 0 rfl ?_ (it_rng1 (by walk_at "ev") (by omega)) ?_ ?_
    · intro C _ _
      show -(C * 4000 * 0) ≤ 0 ∧ 0 ≤ C * 4000 * 0
      omega
    · rintro i c s hi hc hs
      have hc := mem_rgI hc
      have near := near_le hD hc.1 hc.2
      have gb := gp_bd c hD
      obtain ⟨_, q, c3⟩ := use_fn (K := K) p_spot_of [.str k, .int (cutLv k l), ND (cutLv k l - 1) (c / 2 ^ 1)] ⟨_, _, _, _, rfl, by omega, by omega, by omega⟩
      obtain ⟨m, rfl, _, _⟩ := q
      have e0 := Int.emod_nonneg (-m) (b := n) (by omega)
      have e1 := Int.emod_lt_of_pos (-m) hn0
      obtain ⟨a1, a2⟩ := gtI_any (ns := f) (i := -m % n) (by omega) (by omega)
      obtain ⟨d1, d2⟩ := gtI_any (ns := f) (i := -m % n + n - (G.1 + gp G.2 c)) (by omega) (by omega)
      apply tg (P := fun s : Int => ∀ C, 0 ≤ C → TB C ns → -(C * 4000 * ((i + 1 : Nat) : Int)) ≤ s ∧ s ≤ C * 4000 * ((i + 1 : Nat) : Int)) gd_name
      walk_at "asg"
      refine sg_fold [12, 13] (fun g : Int => [.dat (.str k), .dat (.int l), .dat (.int (cutLv k l)), .dat (LI ns), .dat (.int n), .dat (.int s), .dat (.int G.1), .dat (LI G.2), .dat (LI f), .un, .dat (.int c), .dat (.int g), .un, .un, .un]) prD (gpS c ((G.2.map PyData.int).length : Int)) (fun _ _ => True) (enI 0 G.2) G.1 rfl trivial (it_enumI (by walk_at "ev")) ?_ ?_
      · intro j x g hj hx _
        have m := enI_mem hx
        by_cases cb : Builtin.bitAnd (c / 2 ^ (((G.2.map PyData.int).length : Int) - 1 - x.1).toNat) 1 = 1
        · have e : gpS c ((G.2.map PyData.int).length : Int) g x = g + x.2 := if_pos cb
          rw [e]
          refine ⟨trivial, ?_⟩
          apply tn
          · walk_at "ev"
          · apply sd_goN
            refine sd_ifT (et_is (by walk_at "ev") (dtr cb)) ?_
            apply sd_aug
            · rfl
            · walk_at "ev"
            · walk_at "ev"
          · rfl
        · have e : gpS c ((G.2.map PyData.int).length : Int) g x = g := if_neg cb
          rw [e]
          refine ⟨trivial, ?_⟩
          apply tn
          · walk_at "ev"
          · apply sd_goN
            refine sd_ifF (et_is (by walk_at "ev") (dfa cb)) ?_
            exact sd_next
          · rfl
      · rw [gpS_gp c _ G.2 0 G.1 (by omega)]
        walk_at "asg"
        apply sg_of
        · apply sd_aug
          · rfl
          · walk_at "ev"
          · walk_at "ev"
        · refine ⟨s + (gtI f (-m % n + n - (G.1 + gp G.2 c)) - gtI f (-m % n)), ?_, rfl⟩
          intro C hC hb
          have := hs C hC hb
          have := b2 C hC hb _ a2
          have := b2 C hC hb _ d2
          have e : C * 4000 * ((i + 1 : Nat) : Int) = C * 4000 * (i : Int) + C * 4000 := by
            rw [Int.natCast_add, Int.mul_add]
            show _ + C * 4000 * 1 = _
            omega
          rw [e]
          omega
    · intro s hs
      rw [rg_len0] at hs
      refine se_ret (ev_var rfl) ?_
      intro k' l' ns' e
      obtain ⟨rfl, rfl, _, rfl⟩ := inj_SIIL e
      refine ⟨s, rfl, fun C hC hb3 => ?_⟩
      have q1 := hs C hC hb3
      have q2 : C * 4000 * (((cnt G.1 G.2 (n - 1)).toNat : Nat) : Int) ≤ C * 4000 * 2 ^ (cutLv k l).toNat := by
        apply Int.mul_le_mul_of_nonneg_left
        · have e : (cutLv k l).toNat = G.2.length := by omega
          rw [e]
          omega
        · omega
      omega
def Q_common_divisor (ds : List PyData) : Prop := ∃ a b, ds = [.int a, .int b] ∧ 0 < b
def Z_common_divisor (ds : List PyData) (z : PyData) : Prop := ∀ a b, ds = [.int a, .int b] → ∃ m, z = .int m ∧ 0 < m ∧ m ≤ b
abbrev F_common_divisor (P : Program) (w : World) (K : PySem.W.Frag) (mg : Str → Option Value) (base : Heap) : Prop := Fn P w K mg base "common_divisor" 1 ["one", "other"] Q_common_divisor Z_common_divisor
theorem ok_common_divisor (B : Bt w K mg) (D : Df K mg "common_divisor" "common_divisor" s_common_divisor)  : F_common_divisor P w K mg base := by
  refine mk_fn D sc_common_divisor (fun _ _ _ _ _ _ us hl => match us, hl with | [_, _], _ => rfl) ⟨_, fun cdv A outer s H E f hr =>
    (pss_cons (ps_while PassesOwn.never (pt_cmpR op_gt (pv 1) pe_int (nomark _)) (pss_one (ps_par (i := 0) (j := 1) rfl sc_common_divisor.nd rfl rfl (by decide) rfl rfl  (pa_cons (pv 1) (pa_cons (pe_op op_mod (pv 0) (pv 1)) pa_nil)) (by rfl))))
    (pss_one (ps_ret (pv 0)))), ?_⟩
  rintro ds ⟨a, b, rfl, h1⟩
  apply rt_se
  show SE K _ [.dat (.int a), .dat (.int b)] _
  refine se_whl [] (fun s : Int × Int => [.dat (.int s.1), .dat (.int s.2)]) (fun s => decide (s.2 > 0)) (fun s => s.2 ≤ b ∧ 0 ≤ s.2 ∧ (0 < s.2 ∨ (0 < s.1 ∧ s.1 ≤ b))) (fun s => s.2.toNat) (a, b) rfl ⟨Int.le_refl b, Int.le_of_lt h1, .inl h1⟩ ?_ ?_ ?_
  · rintro s _
    walk_at "ev"
  · rintro ⟨x, y⟩ ⟨p1, p2, p3⟩ hc
    have hc : 0 < y := of_decide_eq_true hc
    dsimp only at p1 p2 p3
    have c0 := Int.emod_nonneg x (b := y) (by omega)
    have c1 := Int.emod_lt_of_pos x hc
    refine ⟨(y, x % y), ⟨by dsimp only; omega, c0, .inr ⟨hc, p1⟩⟩, by dsimp only; omega, ?_⟩
    apply tw
    · apply sd_goN
      dsimp only
      apply sd_par
      walk_at "ev"
    · rfl
  · rintro ⟨x, y⟩ ⟨p1, p2, p3⟩ hc
    have hc : ¬ (y > 0) := of_decide_eq_false hc
    dsimp only at p1 p2 p3
    refine se_ret (ev_var rfl) ?_
    intro a' b' e
    obtain ⟨rfl, rfl⟩ := inj_II e
    rcases p3 with p | p
    · omega
    · exact ⟨x, rfl, p.1, p.2⟩
end
end
end
section
set_option exponentiation.threshold 5000
section
open PySem L2
section
variable {P : Program} {w : World} {K : PySem.W.Frag} {mg : Str → Option Value} {base : Heap}
theorem inj_SIL {k k' : Str} {a a' : Int} {c c' : List Int} (e : [.str k, PyData.int a, LI c] = [.str k', .int a', LI c']) : k = k' ∧ a = a' ∧ c = c' := by
  injection e with e1 e2
  injection e2 with e2 e3
  injection e3 with e3 _
  exact ⟨PyData.str.inj e1, PyData.int.inj e2, li_inj e3⟩
theorem p2mul (a b : Nat) : (2 : Int) ^ a * 2 ^ b = 2 ^ (a + b) := (Int.pow_add ..).symm
theorem lt_nab {x : Int} {a : Nat} (h : -(2 ^ a) ≤ x ∧ x ≤ 2 ^ a) : x.natAbs < 2 ^ (a + 1) := by
  have e : (2 : Int) ^ (a + 1) = ((2 ^ (a + 1) : Nat) : Int) := by norm_cast
  have := p2succ a
  have := p2pos a
  omega
def Q_new_in_cutR (r : Nat) (ds : List PyData) : Prop := ∃ k l ns, ds = [.str k, .int l, LI ns] ∧ k ∈ cutK ∧ 1 ≤ l ∧ 2 * l ≤ 2 ^ r ∧ l ≤ 60 ∧ 1 ≤ ns.length ∧ ns.length ≤ 1000 ∧ ∃ c : Nat, TB (2 ^ c) ns ∧ c + 20 * l.toNat ≤ 640
def Z_new_in_cut (ds : List PyData) (z : PyData) : Prop := ∀ k l ns, ds = [.str k, .int l, LI ns] → ∃ ms : List Int, z = LI ms ∧ (ms.length : Int) + 1 = l ∧ TB (2 ^ 700) ms
theorem new_in_cut_step (B : Bt w K mg) (D : Df K mg "new_in_cut" "new_in_cut" s_new_in_cut) (h_cut_levels : F_cut_levels P w K mg base) (h_spread_table : F_spread_table P w K mg base) (h_moved_table : F_moved_table P w K mg base) (h_old_in_cut : F_old_in_cut P w K mg base) (r : Nat) (h_new_in_cut : Fn P w K mg base "new_in_cut" (r + 5) ["kind", "levels", "table"] (Q_new_in_cutR r) Z_new_in_cut) : Fn P w K mg base "new_in_cut" (r + 5 + 1) ["kind", "levels", "table"] (Q_new_in_cutR (r + 1)) Z_new_in_cut := by
  obtain ⟨f_cut_levels, p_cut_levels, C_cut_levels⟩ := h_cut_levels
  obtain ⟨f_spread_table, p_spread_table, C_spread_table⟩ := h_spread_table
  obtain ⟨f_moved_table, p_moved_table, C_moved_table⟩ := h_moved_table
  obtain ⟨f_old_in_cut, p_old_in_cut, C_old_in_cut⟩ := h_old_in_cut
  obtain ⟨f_new_in_cut, p_new_in_cut, C_new_in_cut⟩ := h_new_in_cut
  refine mk_fn D sc_new_in_cut (fun _ _ _ _ _ _ us hl => match us, hl with | [_, _, _], _ => rfl) ⟨_, fun cdv A outer s H E f hr =>
    (pss_cons (ps_if (pt_cmpR op_eq (pv 1) pe_int (nomark _)) (pss_one (ps_ret (pe_lst pa_nil))) pss_nil)
    (pss_cons (ps_set (i := 3) sc_new_in_cut.nd rfl (Or.inl rfl) (pe_callC C_cut_levels hr (by rfl) (pa_cons (pv 0) (pa_cons (pv 1) pa_nil))))
    (pss_cons (ps_set (i := 4) sc_new_in_cut.nd rfl (Or.inl rfl) (pe_op op_sub (pe_op op_shlW pe_int (pe_op op_sub (pv 1) (pv 3))) pe_int))
    (pss_cons (ps_set (i := 5) sc_new_in_cut.nd rfl (Or.inl rfl) (pe_op op_shlW (pe_callB (cr_sumK K rfl) (by rfl) B.sum (by decide +kernel) (pa_cons (pv 2) pa_nil)) (pv 3)))
    (pss_cons (ps_set (i := 6) sc_new_in_cut.nd rfl (Or.inl rfl) (pe_callC C_spread_table hr (by rfl) (pa_cons (pe_callC C_moved_table hr (by rfl) (pa_cons (pv 2) (pa_cons (pe_op op_sub (pe_op op_shlW pe_int (pv 3)) pe_int) pa_nil))) (pa_cons (pv 4) (pa_cons (pe_op op_shlW pe_int (pv 3)) pa_nil)))))
    (pss_cons (ps_set (i := 7) sc_new_in_cut.nd rfl (Or.inl rfl) (pe_op op_sub (pv 5) (pe_callC C_old_in_cut hr (by rfl) (pa_cons (pv 0) (pa_cons (pv 1) (pa_cons (pv 3) (pa_cons (pv 2) pa_nil)))))))
    (pss_one (ps_ret (pe_lst (pa_starK K (pe_callC C_new_in_cut hr (by rfl) (pa_cons (pv 0) (pa_cons (pv 3) (pa_cons (pv 2) pa_nil)))) (pa_cons (pv 7) (pa_starK K (pe_callC C_new_in_cut hr (by rfl) (pa_cons (pv 0) (pa_cons (pe_op op_sub (pv 1) (pv 3)) (pa_cons (pv 6) pa_nil)))) pa_nil)))))))))))), ?_⟩
  rintro ds ⟨k, l, ns, rfl, hk, h1, h2, h3, h4, h5, c, hc, hb⟩
  apply rt_se
  show SE K _ [.dat (.str k), .dat (.int l), .dat (LI ns), .un, .un, .un, .un, .un] _
  by_cases e : l = 1
  · apply se_seqR
    refine se_ifT (et_is (by walk_at "ev") (dtr e)) ?_
    refine se_ret (d := .list []) (by walk_at "ev") ?_
    intro k' l' ns' q
    obtain ⟨rfl, rfl, rfl⟩ := inj_SIL q
    exact ⟨[], rfl, by subst e; rfl, tb_nil⟩
  · obtain ⟨t1, t2, t3⟩ := cutLv_bd (k := k) (h := l) (by omega)
    have hr : 1 ≤ r := by
      apply Classical.byContradiction
      intro hn
      have : r = 0 := by omega
      subst this
      have : (2 : Int) ^ (0 + 1) = 2 := by decide
      omega
    obtain ⟨r', rfl⟩ : ∃ r', r = r' + 1 := ⟨r - 1, by omega⟩
    have hh := cutLv_half (k := k) (h := l) (r := r') (by omega) (by rw [p2succ] at h2; omega)
    have e9 : (2 : Int) ^ (r' + 1) = 2 * 2 ^ r' := p2succ r'
    obtain ⟨_, q, c1⟩ := use_fn (K := K) p_cut_levels [.str k, .int l] ⟨_, _, rfl, hk, by omega, by omega⟩
    obtain rfl := q _ _ rfl
    generalize hT : cutLv k l = T at *
    have eT : (2 : Int) ^ T.toNat = 2 ^ T.toNat := rfl
    have pT := p2pos T.toNat
    have pT2 : (2 : Int) ^ T.toNat ≤ 2 ^ 60 := p2le (by omega)
    have e60 : (2 : Int) ^ 60 ≤ 2 ^ 200 := by decide
    have pc := p2pos c
    obtain ⟨_, q, c2⟩ := use_fn (K := K) p_moved_table [LI ns, .int (1 * 2 ^ T.toNat - 1)] ⟨_, _, rfl, by omega, by omega⟩
    obtain ⟨mv, rfl, lmv, mmv⟩ := q _ _ rfl
    have hmv : TB (2 ^ c) mv := hc.sub mmv
    have hc7 : TB (2 ^ 700) mv := hmv.mono (p2le (by omega))
    obtain ⟨_, q, c3⟩ := use_fn (K := K) p_spread_table [LI mv, .int (1 * 2 ^ (l - T).toNat - 1), .int (1 * 2 ^ T.toNat)] ⟨_, _, _, rfl, by omega, by omega, by omega, by omega, hc7⟩
    obtain ⟨bl, rfl, lbl, bbl⟩ := q _ _ _ rfl
    have bbl2 : TB (2 ^ (c + T.toNat + 12)) bl := (bbl (2 ^ c) (Int.le_of_lt pc) hmv).mono (by
      have q1 : (1 * 2 ^ T.toNat + 3 : Int) ≤ 2 ^ T.toNat * 4 := by omega
      have q2 : (2 : Int) ^ c * 1000 * (1 * 2 ^ T.toNat + 3) ≤ 2 ^ c * 1000 * (2 ^ T.toNat * 4) := Int.mul_le_mul_of_nonneg_left q1 (by omega)
      have q3 : (2 : Int) ^ c * 1000 * (2 ^ T.toNat * 4) ≤ 2 ^ c * 1024 * (2 ^ T.toNat * 4) := Int.mul_le_mul_of_nonneg_right (by omega) (by omega)
      have q4 : (2 : Int) ^ c * 1024 * (2 ^ T.toNat * 4) = 2 ^ (c + T.toNat + 12) := by
        have z1 : (1024 : Int) = 2 ^ 10 := by decide
        have z2 : (4 : Int) = 2 ^ 2 := by decide
        rw [z1, z2, p2mul, p2mul, p2mul]
        congr 1
        omega
      omega)
    obtain ⟨_, q, c4⟩ := use_fn (K := K) p_old_in_cut [.str k, .int l, .int T, LI ns] ⟨_, _, _, by rw [hT], hk, by omega, h3, h4, h5⟩
    obtain ⟨od, rfl, bod⟩ := q k l ns (by rw [hT])
    rw [hT] at bod
    have bod := bod (2 ^ c) (Int.le_of_lt pc) hc
    obtain ⟨_, q, c5⟩ := use_fn (K := K) p_new_in_cut [.str k, .int T, LI ns] ⟨_, _, _, rfl, hk, by omega, by omega, by omega, h4, h5, c, hc, by omega⟩
    obtain ⟨n1, rfl, ln1, bn1⟩ := q _ _ _ rfl
    obtain ⟨_, q, c6⟩ := use_fn (K := K) p_new_in_cut [.str k, .int (l - T), LI bl] ⟨_, _, _, rfl, hk, by omega, by omega, by omega, by omega, by omega, c + T.toNat + 12, bbl2, by omega⟩
    obtain ⟨n2, rfl, ln2, bn2⟩ := q _ _ _ rfl
    have sb := TB.sum (m := 1000) (Int.le_of_lt pc) hc h5
    have e10 : (2 : Int) ^ (c + 10) = 2 ^ c * 1024 := by
      have z1 : (1024 : Int) = 2 ^ 10 := by decide
      rw [z1, p2mul]
    have sb2 : -(2 ^ (c + 10)) ≤ ns.sum ∧ ns.sum ≤ 2 ^ (c + 10) := by
      rw [e10]
      omega
    have hs : CShl ns.sum T := shl_ok (lt_nab sb2) (by omega) (by omega) (by omega)
    have wb := abs_mul (x := ns.sum) (y := 2 ^ T.toNat) (a := 2 ^ (c + 10)) (b := 2 ^ T.toNat) sb2 (by omega)
    have here : -(2 ^ 700) ≤ ns.sum * 2 ^ T.toNat - od ∧ ns.sum * 2 ^ T.toNat - od ≤ 2 ^ 700 := by
      have z1 : (2 : Int) ^ c * 4000 * 2 ^ T.toNat ≤ 2 ^ c * 4096 * 2 ^ T.toNat := Int.mul_le_mul_of_nonneg_right (by omega) (by omega)
      have z2 : (2 : Int) ^ c * 4096 * 2 ^ T.toNat = 2 ^ (c + 12 + T.toNat) := by
        have z1 : (4096 : Int) = 2 ^ 12 := by decide
        rw [z1, p2mul, p2mul]
      have z3 : (2 : Int) ^ (c + 10) * 2 ^ T.toNat = 2 ^ (c + 10 + T.toNat) := p2mul _ _
      have z4 : (2 : Int) ^ (c + 12 + T.toNat) ≤ 2 ^ 699 := p2le (by omega)
      have z5 : (2 : Int) ^ (c + 10 + T.toNat) ≤ 2 ^ 699 := p2le (by omega)
      have z6 : (2 : Int) ^ 700 = 2 * 2 ^ 699 := by decide
      generalize (2 : Int) ^ 699 = X at *
      generalize (2 : Int) ^ 700 = Y at *
      omega
    have hsm : RC K (rSum K) [LI ns] (.int ns.sum) := rc_sum
    refine se_seq (sd_ifF (et_is (by walk_at "ev") (dfa e)) sd_next) ?_
    walk_at "asg"
    walk_at "asg"
    walk_at "asg"
    walk_at "asg"
    walk_at "asg"
    refine se_ret (d := LI (n1 ++ (ns.sum * 2 ^ T.toNat - od) :: n2)) ?_ ?_
    · apply ev_new
      apply evn_is
      · apply evn_lst
        · apply ea_star
          · walk_at "ev"
          · apply ea_cons
            · walk_at "ev"
            · apply ea_star
              · walk_at "ev"
              · walk_at "ev"
        · rw [List.append_nil, List.length_append, List.length_cons, List.length_map, List.length_map]
          omega
      · rw [List.append_nil, List.map_append, List.map_cons]
    · intro k' l' ns' q
      obtain ⟨rfl, rfl, rfl⟩ := inj_SIL q
      refine ⟨_, rfl, ?_, bn1.app (TB.cons here bn2)⟩
      rw [List.length_append, List.length_cons]
      omega
theorem ok_new_in_cutR (B : Bt w K mg) (D : Df K mg "new_in_cut" "new_in_cut" s_new_in_cut) (h_cut_levels : F_cut_levels P w K mg base) (h_spread_table : F_spread_table P w K mg base) (h_moved_table : F_moved_table P w K mg base) (h_old_in_cut : F_old_in_cut P w K mg base) : ∀ r : Nat, Fn P w K mg base "new_in_cut" (r + 5) ["kind", "levels", "table"] (Q_new_in_cutR r) Z_new_in_cut
  | 0 => fn_false D sc_new_in_cut (fun _ _ _ _ _ _ us hl => match us, hl with | [_, _, _], _ => rfl) (by
    rintro ds ⟨k, l, _, _, _, h1, h2, _⟩
    have : (2 : Int) ^ 0 = 1 := by decide
    omega)
  | r + 1 => new_in_cut_step B D h_cut_levels h_spread_table h_moved_table h_old_in_cut r (ok_new_in_cutR B D h_cut_levels h_spread_table h_moved_table h_old_in_cut r)
abbrev Q_new_in_cut := Q_new_in_cutR 6
abbrev F_new_in_cut (P : Program) (w : World) (K : PySem.W.Frag) (mg : Str → Option Value) (base : Heap) : Prop := Fn P w K mg base "new_in_cut" 11 ["kind", "levels", "table"] Q_new_in_cut Z_new_in_cut
theorem ok_new_in_cut (B : Bt w K mg) (D : Df K mg "new_in_cut" "new_in_cut" s_new_in_cut) (h_cut_levels : F_cut_levels P w K mg base) (h_spread_table : F_spread_table P w K mg base) (h_moved_table : F_moved_table P w K mg base) (h_old_in_cut : F_old_in_cut P w K mg base) : F_new_in_cut P w K mg base := ok_new_in_cutR B D h_cut_levels h_spread_table h_moved_table h_old_in_cut 6
def PgOk (k : Str) (h s m : Int) : Prop := k ∈ kinds ∧ 1 ≤ h ∧ h ≤ 30 ∧ 1 ≤ s ∧ s ≤ 512 ∧ 0 ≤ m ∧ m < s
def Q_pages (ds : List PyData) : Prop := ∃ k h s m, ds = [.str k, .int h, .int s, .int m] ∧ PgOk k h s m
abbrev Q_new_pages := Q_pages
def Z_new_pages (ds : List PyData) (z : PyData) : Prop := ∀ k h s m, ds = [.str k, .int h, .int s, .int m] → ∃ ms : List Int, z = LI ms ∧ (ms.length : Int) = h ∧ TB (2 ^ 700) ms
abbrev F_new_pages (P : Program) (w : World) (K : PySem.W.Frag) (mg : Str → Option Value) (base : Heap) : Prop := Fn P w K mg base "new_pages" 12 ["kind", "height", "size", "shift"] Q_new_pages Z_new_pages
theorem ok_new_pages (B : Bt w K mg) (D : Df K mg "new_pages" "new_pages" s_new_pages) (h_require_pages : F_require_pages P w K mg base) (h_new_in_cut : F_new_in_cut P w K mg base) (h_table_at : F_table_at P w K mg base) (h_new_in_levels : F_new_in_levels P w K mg base) (h_new_in_inorder : F_new_in_inorder P w K mg base) (h_new_by_parents : F_new_by_parents P w K mg base) : F_new_pages P w K mg base := by
  obtain ⟨f_require_pages, p_require_pages, C_require_pages⟩ := h_require_pages
  obtain ⟨f_new_in_cut, p_new_in_cut, C_new_in_cut⟩ := h_new_in_cut
  obtain ⟨f_table_at, p_table_at, C_table_at⟩ := h_table_at
  obtain ⟨f_new_in_levels, p_new_in_levels, C_new_in_levels⟩ := h_new_in_levels
  obtain ⟨f_new_in_inorder, p_new_in_inorder, C_new_in_inorder⟩ := h_new_in_inorder
  obtain ⟨f_new_by_parents, p_new_by_parents, C_new_by_parents⟩ := h_new_by_parents
  refine mk_fn D sc_new_pages (fun _ _ _ _ _ _ us hl => match us, hl with | [_, _, _, _], _ => rfl) ⟨_, fun cdv A outer s H E f hr =>
    (pss_cons (ps_expr (pe_callC C_require_pages hr (by rfl) (pa_cons (pv 0) (pa_cons (pv 1) (pa_cons (pv 2) (pa_cons (pv 3) (pa_cons (pe_glob (by rfl) B.c_MOST_COUNTED B.r_MOST_COUNTED) pa_nil)))))))
    (pss_cons (ps_if (pt_cmpR (op_in_seqK K) (pv 0) (pe_glob (by rfl) B.c_CUT_KINDS B.r_CUT_KINDS) rfl) (pss_one (ps_ret (pe_lst (pa_cons pe_int (pa_starK K (pe_callC C_new_in_cut hr (by rfl) (pa_cons (pv 0) (pa_cons (pv 1) (pa_cons (pe_callC C_table_at hr (by rfl) (pa_cons (pv 2) (pa_cons (pv 3) pa_nil))) pa_nil)))) pa_nil))))) pss_nil)
    (pss_one (ps_match (pv 0) (pmc_str (pss_one (ps_ret (pe_lst (pa_cons pe_int (pa_starK K (pe_callC C_new_in_levels hr (by rfl) (pa_cons (pv 1) (pa_cons (pv 2) (pa_cons (pv 3) pa_nil)))) pa_nil)))))
    (pmc_str (pss_one (ps_ret (pe_lst (pa_cons pe_int (pa_starK K (pe_callC C_new_in_inorder hr (by rfl) (pa_cons (pv 1) (pa_cons (pv 2) (pa_cons (pv 3) pa_nil)))) pa_nil)))))
    (pmc_any (pss_one (ps_ret (pe_lst (pa_cons pe_int (pa_starK K (pe_callC C_new_by_parents hr (by rfl) (pa_cons (pv 0) (pa_cons (pv 1) (pa_cons (pv 2) (pa_cons (pv 3) pa_nil))))) pa_nil)))))))))))), ?_⟩
  rintro ds ⟨k, h, s, m, rfl, hk, h1, h2, h3, h4, h5, h6⟩
  apply rt_se
  show SE K _ [.dat (.str k), .dat (.int h), .dat (.int s), .dat (.int m)] _
  obtain ⟨_, rfl, c1⟩ := use_fn (K := K) p_require_pages [.str k, .int h, .int s, .int m, .int 512] ⟨_, _, _, _, _, rfl, hk, by omega, by omega, by omega, by omega, by omega, by omega⟩
  walk_at "drop"
  have fin : ∀ ms : List Int, (ms.length : Int) + 1 = h → TB (2 ^ 700) ms → Z_new_pages [.str k, .int h, .int s, .int m] (LI (1 :: ms)) := fun ms hl hb k' h' s' m' e => by
    obtain ⟨rfl, rfl, rfl, rfl⟩ := inj_SIII e
    refine ⟨1 :: ms, rfl, ?_, TB.cons ?_ hb⟩
    · rw [List.length_cons]
      omega
    · exact ⟨by decide, by decide⟩
  have hlst : ∀ {te : TE} {ms : List Int}, (ms.length : Int) + 1 = h → Ev K te [.dat (.str k), .dat (.int h), .dat (.int s), .dat (.int m)] (LI ms) → Ev K (tLst (tCons (tC (.int 1)) (StX.tStar K te tNil))) [.dat (.str k), .dat (.int h), .dat (.int s), .dat (.int m)] (LI (1 :: ms)) := fun hl hE => by
    apply ev_new
    apply evn_is
    · apply evn_lst
      · apply ea_cons
        · walk_at "ev"
        · apply ea_star hE
          walk_at "ev"
      · rw [List.append_nil, List.length_cons, List.length_map]
        omega
    · rw [List.append_nil]
      rfl
  have b7 : (2 : Int) ^ 200 ≤ 2 ^ 700 := by decide
  by_cases c : k ∈ cutK
  · apply se_seqR
    refine se_ifT (et_is (by walk_at "ev") (dtr c)) ?_
    obtain ⟨_, q, c2⟩ := use_fn (K := K) p_table_at [.int s, .int m] ⟨_, _, rfl, by omega, by omega⟩
    obtain ⟨t0, rfl, lt0, bt0⟩ := q _ _ rfl
    have e0 : (2 : Int) ^ 0 = 1 := by decide
    have e6 : (2 : Int) ^ 6 = 64 := by decide
    rw [← e0] at bt0
    obtain ⟨_, q, c3⟩ := use_fn (K := K) p_new_in_cut [.str k, .int h, LI t0] ⟨_, _, _, rfl, c, by omega, by omega, by omega, by omega, by omega, 0, bt0, by omega⟩
    obtain ⟨ms, rfl, lm, bm⟩ := q _ _ _ rfl
    refine se_ret (hlst lm ?_) (fin ms lm bm)
    walk_at "ev"
  · refine se_seq (sd_ifF (et_is (by walk_at "ev") (dfa c)) sd_next) ?_
    by_cases a : k = "levels"
    · obtain ⟨_, q, c2⟩ := use_fn (K := K) p_new_in_levels [.int h, .int s, .int m] ⟨_, _, _, rfl, by omega, by omega, by omega, by omega⟩
      obtain ⟨ms, rfl, lm, bm⟩ := q _ _ _ rfl
      refine se_of (d := LI (1 :: ms)) ?_ (fin ms lm (bm.mono b7))
      apply sd_matchS (by walk_at "ev")
      apply sd_cStrT a
      apply sd_ret
      apply hlst lm
      walk_at "ev"
    · by_cases b : k = "inorder"
      · obtain ⟨_, q, c2⟩ := use_fn (K := K) p_new_in_inorder [.int h, .int s, .int m] ⟨_, _, _, rfl, by omega, by omega, by omega, by omega⟩
        obtain ⟨ms, rfl, lm, bm⟩ := q _ _ _ rfl
        refine se_of (d := LI (1 :: ms)) ?_ (fin ms lm (bm.mono b7))
        apply sd_matchS (by walk_at "ev")
        apply sd_cStrF a
        apply sd_cStrT b
        apply sd_ret
        apply hlst lm
        walk_at "ev"
      · obtain ⟨_, q, c2⟩ := use_fn (K := K) p_new_by_parents [.str k, .int h, .int s, .int m] ⟨_, _, _, _, rfl, by omega, by omega, by omega, by omega⟩
        obtain ⟨ms, rfl, lm, bm⟩ := q _ _ _ _ rfl
        refine se_of (d := LI (1 :: ms)) ?_ (fin ms lm (bm.mono b7))
        apply sd_matchS (by walk_at "ev")
        apply sd_cStrF a
        apply sd_cStrF b
        apply sd_cAny
        apply sd_ret
        apply hlst lm
        walk_at "ev"
def Z_pgsum (ds : List PyData) (z : PyData) : Prop := ∃ m, z = .int m ∧ -(2 ^ 800) ≤ m ∧ m ≤ 2 ^ 800
abbrev Q_leaf_page_sum := Q_pages
abbrev Z_leaf_page_sum := Z_pgsum
abbrev Q_page_sum := Q_pages
abbrev Z_page_sum := Z_pgsum
theorem b800 : (2 : Int) ^ 700 * 2 ^ 31 * 31 ≤ 2 ^ 800 := by decide
abbrev F_leaf_page_sum (P : Program) (w : World) (K : PySem.W.Frag) (mg : Str → Option Value) (base : Heap) : Prop := Fn P w K mg base "leaf_page_sum" 13 ["kind", "height", "size", "shift"] Q_leaf_page_sum Z_leaf_page_sum
theorem ok_leaf_page_sum (B : Bt w K mg) (D : Df K mg "leaf_page_sum" "leaf_page_sum" s_leaf_page_sum) (h_new_pages : F_new_pages P w K mg base) : F_leaf_page_sum P w K mg base := by
  obtain ⟨f_new_pages, p_new_pages, C_new_pages⟩ := h_new_pages
  refine mk_fn D sc_leaf_page_sum (fun _ _ _ _ _ _ us hl => match us, hl with | [_, _, _, _], _ => rfl) ⟨_, fun cdv A outer s H E f hr =>
    (pss_one (ps_ret (pe_callB (cr_sumK K rfl) (by rfl) B.sum (by decide +kernel) (pa_cons (pe_lc (own := [("depth", 4), ("many", 5)]) rfl sc_leaf_page_sum.nd (pi_enumK K (by rfl) B.enumerate (pa_cons (pe_callC C_new_pages hr (by rfl) (pa_cons (pv 0) (pa_cons (pv 1) (pa_cons (pv 2) (pa_cons (pv 3) pa_nil))))) pa_nil)) (blkOk_by (own := [("depth", 4), ("many", 5)]) (N := n_leaf_page_sum) (sc := defScope s_leaf_page_sum) (by decide +kernel)) (fun _ _ _ _ _ => (pg_tupK (n := 2) K rfl (pgs_cons (pg_name (i := 4) sc_leaf_page_sum.nd rfl (Or.inl rfl)) (pgs_cons (pg_name (i := 5) sc_leaf_page_sum.nd rfl (Or.inl rfl)) pgs_nil)))) (fun _ _ _ _ _ => pts_nil) (fun _ _ _ _ _ => (pe_op op_shlW (pv 5) (pe_op op_sub (pe_op op_sub (pv 1) pe_int) (pv 4))))) pa_nil)))), ?_⟩
  rintro ds ⟨k, h, s, m, rfl, ok⟩
  apply rt_se
  show SE K _ [.dat (.str k), .dat (.int h), .dat (.int s), .dat (.int m), .un, .un] _
  obtain ⟨_, q, c1⟩ := use_fn (K := K) p_new_pages [.str k, .int h, .int s, .int m] ⟨_, _, _, _, rfl, ok⟩
  obtain ⟨ms, rfl, lm, bm⟩ := q _ _ _ _ rfl
  obtain ⟨hk, h1, h2, h3, h4, h5, h6⟩ := ok
  refine se_ret (d := .int ((enI 0 ms).map fun p => p.2 * 2 ^ (h - 1 - p.1).toNat).sum) ?_ ⟨_, rfl, ?_⟩
  · apply ev_cb
    · apply ea_cons (d := LI ((enI 0 ms).map fun p => p.2 * 2 ^ (h - 1 - p.1).toNat))
      · apply ev_new
        apply evn_lcI (e := prD)
        · apply it_enumI
          walk_at "ev"
        · rw [enI_len]
          omega
        · intro x hx
          have m := enI_mem hx
          have hs : CShl x.2 (h - 1 - x.1) := shl_ok (lt_nab (bm _ m.2.2)) (by omega) (by omega) (by decide)
          refine ⟨_, _, gd_tup (gds_cons gd_name (gds_cons gd_name gds_nil)) rfl, by walk_at "sc", ?_⟩
          walk_at "ev"
      · walk_at "ev"
    · exact rc_sum
  · have t : TB (2 ^ 700 * 2 ^ 31) ((enI 0 ms).map fun p => p.2 * 2 ^ (h - 1 - p.1).toNat) := fun y hy => by
      obtain ⟨x, hx, rfl⟩ := List.mem_map.mp hy
      have m := enI_mem hx
      have q1 := p2pos (h - 1 - x.1).toNat
      have q2 := p2le (a := (h - 1 - x.1).toNat) (b := 31) (by omega)
      exact abs_mul (bm _ m.2.2) (by omega)
    have z := TB.sum (m := 31) (by decide) t (by rw [List.length_map, enI_len]; omega)
    exact ⟨Int.le_trans (Int.neg_le_neg b800) z.1, Int.le_trans z.2 b800⟩
abbrev F_page_sum (P : Program) (w : World) (K : PySem.W.Frag) (mg : Str → Option Value) (base : Heap) : Prop := Fn P w K mg base "page_sum" 13 ["kind", "height", "size", "shift"] Q_page_sum Z_page_sum
theorem ok_page_sum (B : Bt w K mg) (D : Df K mg "page_sum" "page_sum" s_page_sum) (h_new_pages : F_new_pages P w K mg base) : F_page_sum P w K mg base := by
  obtain ⟨f_new_pages, p_new_pages, C_new_pages⟩ := h_new_pages
  refine mk_fn D sc_page_sum (fun _ _ _ _ _ _ us hl => match us, hl with | [_, _, _, _], _ => rfl) ⟨_, fun cdv A outer s H E f hr =>
    (pss_cons (ps_set (i := 4) sc_page_sum.nd rfl (Or.inl rfl) pe_int)
    (pss_cons (ps_for PassesOwn.never rfl (pi_enumK K (by rfl) B.enumerate (pa_cons (pe_callC C_new_pages hr (by rfl) (pa_cons (pv 0) (pa_cons (pv 1) (pa_cons (pv 2) (pa_cons (pv 3) pa_nil))))) pa_nil)) (pg_tupK (n := 2) K rfl (pgs_cons (pg_name (i := 5) sc_page_sum.nd rfl (Or.inl rfl)) (pgs_cons (pg_name (i := 6) sc_page_sum.nd rfl (Or.inl rfl)) pgs_nil))) (pss_one (ps_aug (i := 4) sc_page_sum.nd rfl (Or.inl rfl) (pe_op op_mulW (pv 6) (pe_op op_sub (pe_op op_shlW pe_int (pe_op op_sub (pv 1) (pv 5))) pe_int)) ip_add)))
    (pss_one (ps_ret (pv 4))))), ?_⟩
  rintro ds ⟨k, h, s, m, rfl, ok⟩
  apply rt_se
  show SE K _ [.dat (.str k), .dat (.int h), .dat (.int s), .dat (.int m), .un, .un, .un] _
  obtain ⟨_, q, c1⟩ := use_fn (K := K) p_new_pages [.str k, .int h, .int s, .int m] ⟨_, _, _, _, rfl, ok⟩
  obtain ⟨ms, rfl, lm, bm⟩ := q _ _ _ _ rfl
  obtain ⟨hk, h1, h2, h3, h4, h5, h6⟩ := ok
  walk_at "asg"
  refine se_for [5, 6] (fun x : Int => [.dat (.str k), .dat (.int h), .dat (.int s), .dat (.int m), .dat (.int x), .un, .un]) prD (fun j x => -(2 ^ 700 * 2 ^ 31 * (j : Int)) ≤ x ∧ x ≤ 2 ^ 700 * 2 ^ 31 * (j : Int)) (enI 0 ms) 0 rfl ⟨by decide, by decide⟩ (it_enumI (by walk_at "ev")) ?_ ?_
  · rintro j x s hj hx ⟨p1, p2⟩
    have m := enI_mem hx
    have q1 := p2pos (h - x.1).toNat
    have q2 := p2le (a := (h - x.1).toNat) (b := 31) (by omega)
    have hz : (1 * 2 ^ (h - x.1).toNat - 1 : Int).natAbs < 2 ^ 32 := by omega
    have hs : CMulW x.2 (1 * 2 ^ (h - x.1).toNat - 1) := mul_ok (lt_nab (bm _ m.2.2)) hz
    have am := abs_mul (y := 1 * 2 ^ (h - x.1).toNat - 1) (b := 2 ^ 31) (bm _ m.2.2) (by omega)
    refine ⟨s + x.2 * (1 * 2 ^ (h - x.1).toNat - 1), ?_, ?_⟩
    · have e : (2 : Int) ^ 700 * 2 ^ 31 * ((j + 1 : Nat) : Int) = 2 ^ 700 * 2 ^ 31 * (j : Int) + 2 ^ 700 * 2 ^ 31 := by
        rw [Int.natCast_add, Int.mul_add]
        show _ + 2 ^ 700 * 2 ^ 31 * 1 = _
        rw [Int.mul_one]
      rw [e]
      generalize (2 : Int) ^ 700 * 2 ^ 31 * (j : Int) = X at *
      generalize (2 : Int) ^ 700 * 2 ^ 31 = Y at *
      generalize x.2 * (1 * 2 ^ (h - x.1).toNat - 1) = Z at *
      omega
    · apply tn
      · walk_at "ev"
      · apply sd_goN
        apply sd_aug
        · rfl
        · walk_at "ev"
        · walk_at "ev"
      · rfl
  · rintro x ⟨p1, p2⟩
    rw [enI_len] at p1 p2
    refine se_ret (ev_var rfl) ⟨x, rfl, ?_⟩
    have q1 : (2 : Int) ^ 700 * 2 ^ 31 * (ms.length : Int) ≤ 2 ^ 700 * 2 ^ 31 * 31 := Int.mul_le_mul_of_nonneg_left (by omega) (by decide)
    have q2 := Int.le_trans q1 b800
    generalize (2 : Int) ^ 700 * 2 ^ 31 * (ms.length : Int) = X at *
    generalize (2 : Int) ^ 800 = Y at *
    omega
abbrev Q_page_mean := Q_pages
def Z_page_mean (ds : List PyData) (z : PyData) : Prop := ∃ a b, z = ND a b ∧ (-(2 ^ 800) ≤ a ∧ a ≤ 2 ^ 800) ∧ -(2 ^ 800) ≤ b ∧ b ≤ 2 ^ 800
theorem quo_bd {a c X : Int} (h : -X ≤ a ∧ a ≤ X) (hX : 0 ≤ X) (hc : 0 < c) : -X ≤ a / c ∧ a / c ≤ X := by
  constructor
  · apply Int.le_ediv_of_mul_le hc
    have : X * 1 ≤ X * c := Int.mul_le_mul_of_nonneg_left (by omega) hX
    rw [Int.neg_mul]
    omega
  · have q := Int.ediv_le_of_le_mul hc (a := a) (b := X) (by
      have : X * 1 ≤ X * c := Int.mul_le_mul_of_nonneg_left (by omega) hX
      omega)
    exact q
abbrev F_page_mean (P : Program) (w : World) (K : PySem.W.Frag) (mg : Str → Option Value) (base : Heap) : Prop := Fn P w K mg base "page_mean" 14 ["kind", "height", "size", "shift"] Q_page_mean Z_page_mean
theorem ok_page_mean (B : Bt w K mg) (D : Df K mg "page_mean" "page_mean" s_page_mean) (h_page_sum : F_page_sum P w K mg base) (h_common_divisor : F_common_divisor P w K mg base) : F_page_mean P w K mg base := by
  obtain ⟨f_page_sum, p_page_sum, C_page_sum⟩ := h_page_sum
  obtain ⟨f_common_divisor, p_common_divisor, C_common_divisor⟩ := h_common_divisor
  refine mk_fn D sc_page_mean (fun _ _ _ _ _ _ us hl => match us, hl with | [_, _, _, _], _ => rfl) ⟨_, fun cdv A outer s H E f hr =>
    (pss_cons (ps_par (i := 4) (j := 5) rfl sc_page_mean.nd rfl rfl (by decide) rfl rfl  (pa_cons (pe_callC C_page_sum hr (by rfl) (pa_cons (pv 0) (pa_cons (pv 1) (pa_cons (pv 2) (pa_cons (pv 3) pa_nil))))) (pa_cons (pe_op op_sub (pe_op op_shlW pe_int (pv 1)) pe_int) pa_nil)) (by rfl))
    (pss_cons (ps_set (i := 6) sc_page_mean.nd rfl (Or.inl rfl) (pe_callC C_common_divisor hr (by rfl) (pa_cons (pv 4) (pa_cons (pv 5) pa_nil))))
    (pss_one (ps_ret (pe_tup (pa_cons (pe_op op_fdivW (pv 4) (pv 6)) (pa_cons (pe_op op_fdivW (pv 5) (pv 6)) pa_nil))))))), ?_⟩
  rintro ds ⟨k, h, s, m, rfl, ok⟩
  apply rt_se
  show SE K _ [.dat (.str k), .dat (.int h), .dat (.int s), .dat (.int m), .un, .un, .un] _
  obtain ⟨_, q, c1⟩ := use_fn (K := K) p_page_sum [.str k, .int h, .int s, .int m] ⟨_, _, _, _, rfl, ok⟩
  obtain ⟨a, rfl, ba⟩ := q
  obtain ⟨hk, h1, h2, h3, h4, h5, h6⟩ := ok
  have q1 := p2le (a := h.toNat) (b := 31) (by omega)
  have q2 : (2 : Int) ^ 1 ≤ 2 ^ h.toNat := p2le (by omega)
  have q3 : (2 : Int) ^ 31 < 2 ^ 32 := by decide
  have q4 : (2 : Int) ^ 31 ≤ 2 ^ 800 := by decide
  obtain ⟨_, q, c2⟩ := use_fn (K := K) p_common_divisor [.int a, .int (1 * 2 ^ h.toNat - 1)] ⟨_, _, rfl, by omega⟩
  obtain ⟨c, rfl, k1, k2⟩ := q _ _ rfl
  have hd : CDivW a c := div_ok (a := 32) k1 (by omega)
  have hd2 : CDivW (1 * 2 ^ h.toNat - 1) c := hd
  walk_at "par"
  walk_at "asg"
  refine se_ret (d := ND (a / c) ((1 * 2 ^ h.toNat - 1) / c)) (by walk_at "ev") ⟨_, _, rfl, quo_bd ba (by decide) k1, quo_bd ?_ (by decide) k1⟩
  generalize (2 : Int) ^ 800 = Y at *
  generalize (2 : Int) ^ 31 = W at *
  omega
def Q_best_kinds (ds : List PyData) : Prop := ∃ h s m, ds = [.int h, .int s, .int m] ∧ 1 ≤ h ∧ h ≤ 30 ∧ 1 ≤ s ∧ s ≤ 512 ∧ 0 ≤ m ∧ m < s
def Z_best_kinds (ds : List PyData) (z : PyData) : Prop := ∃ ks : List Str, z = .list (ks.map .str) ∧ ks.length ≤ 7 ∧ ∀ k ∈ ks, k ∈ kinds
def toI : PyData → Int
  | .int n => n
  | _ => 0
theorem min_ex : ∀ {ns : List Int}, ns ≠ [] → ∃ m ∈ ns, ∀ y ∈ ns, m ≤ y
  | [], h => absurd rfl h
  | [n], _ => ⟨n, List.mem_cons_self, fun y hy => by
    have : y = n := by simpa using hy
    omega⟩
  | n :: n2 :: ns, _ => by
    obtain ⟨m, hm, hl⟩ := min_ex (ns := n2 :: ns) (by simp)
    by_cases c : n ≤ m
    · refine ⟨n, List.mem_cons_self, fun y hy => ?_⟩
      rcases List.mem_cons.mp hy with rfl | hy
      · exact Int.le_refl _
      · exact Int.le_trans c (hl y hy)
    · refine ⟨m, List.mem_cons_of_mem _ hm, fun y hy => ?_⟩
      rcases List.mem_cons.mp hy with rfl | hy
      · omega
      · exact hl y hy
def kpD (p : Str × Int) : PyData := .tuple [.str p.1, .int p.2]
theorem zpD_strs : ∀ (as : List Str) (bs : List Int), zpD (as.map .str) (bs.map .int) = (as.zip bs).map kpD
  | [], [] => rfl
  | [], _ :: _ => rfl
  | _ :: _, [] => rfl
  | a :: as, b :: bs => by
    show PyData.tuple [.str a, .int b] :: zpD (as.map .str) (bs.map .int) = _
    rw [zpD_strs as bs]
    rfl
abbrev F_best_kinds (P : Program) (w : World) (K : PySem.W.Frag) (mg : Str → Option Value) (base : Heap) : Prop := Fn P w K mg base "best_kinds" 14 ["height", "size", "shift"] Q_best_kinds Z_best_kinds
theorem ok_best_kinds (B : Bt w K mg) (D : Df K mg "best_kinds" "best_kinds" s_best_kinds) (h_require_pages : F_require_pages P w K mg base) (h_page_sum : F_page_sum P w K mg base) : F_best_kinds P w K mg base := by
  obtain ⟨f_require_pages, p_require_pages, C_require_pages⟩ := h_require_pages
  obtain ⟨f_page_sum, p_page_sum, C_page_sum⟩ := h_page_sum
  refine mk_fn D sc_best_kinds (fun _ _ _ _ _ _ us hl => match us, hl with | [_, _, _], _ => rfl) ⟨_, fun cdv A outer s H E f hr =>
    (pss_cons (ps_expr (pe_callC C_require_pages hr (by rfl) (pa_cons (pe_ix (ix_tupK K) (pe_glob (by rfl) B.c_KINDS B.r_KINDS) pe_int (fun _ _ => rfl)) (pa_cons (pv 0) (pa_cons (pv 1) (pa_cons (pv 2) (pa_cons (pe_glob (by rfl) B.c_MOST_COUNTED B.r_MOST_COUNTED) pa_nil)))))))
    (pss_cons (ps_set (i := 3) sc_best_kinds.nd rfl (Or.inr rfl) (pe_lc (own := [("kind", 4)]) rfl sc_best_kinds.nd (pi_tupK K (pe_glob (by rfl) B.c_KINDS B.r_KINDS)) (blkOk_by (own := [("kind", 4)]) (N := n_best_kinds) (sc := defScope s_best_kinds) (by decide +kernel)) (fun _ _ _ _ _ => (pg_name (i := 4) sc_best_kinds.nd rfl (Or.inl rfl))) (fun _ _ _ _ _ => pts_nil) (fun _ _ _ _ _ => (pe_callC C_page_sum hr (by rfl) (pa_cons (pv 4) (pa_cons (pv 0) (pa_cons (pv 1) (pa_cons (pv 2) pa_nil))))))))
    (pss_one (ps_ret (pe_lc (own := [("kind", 4), ("many", 5)]) rfl sc_best_kinds.nd (pi_zipGK K (by rfl) B.zip (pa_cons (pe_glob (by rfl) B.c_KINDS B.r_KINDS) (pa_cons (pv 3) pa_nil))) (blkOk_by (own := [("kind", 4), ("many", 5)]) (N := n_best_kinds) (sc := defScope s_best_kinds) (by decide +kernel)) (fun _ _ _ _ _ => (pg_tupK (n := 2) K rfl (pgs_cons (pg_name (i := 4) sc_best_kinds.nd rfl (Or.inl rfl)) (pgs_cons (pg_name (i := 5) sc_best_kinds.nd rfl (Or.inl rfl)) pgs_nil)))) (fun _ _ _ _ _ => (pts_one (pt_cmpR op_eq (pv 5) (pe_callB (cr_minK' K rfl) (by rfl) B.min (by decide +kernel) (pa_cons (pv 3) pa_nil)) (nomark _)))) (fun _ _ _ _ _ => (pv 4))))))), ?_⟩
  rintro ds ⟨h, s, m, rfl, h1, h2, h3, h4, h5, h6⟩
  apply rt_se
  show SE K _ [.dat (.int h), .dat (.int s), .dat (.int m), .un, .un, .un] _
  obtain ⟨_, rfl, c1⟩ := use_fn (K := K) p_require_pages [.str "levels", .int h, .int s, .int m, .int 512] ⟨_, _, _, _, _, rfl, by decide +kernel, by omega, by omega, by omega, by omega, by omega, by omega⟩
  apply se_seq
  · apply sd_drop
    apply ev_call
    · apply ea_cons
      · apply ev_op
        · walk_at "ev"
        · walk_at "ev"
        · apply rd_ixT
          exact (rfl : atI (kinds.map PyData.str) 0 = some (.str "levels"))
      · walk_at "ev"
    · exact c1
  have hks : kinds.length = 7 := rfl
  apply se_seq (r1 := [.dat (.int h), .dat (.int s), .dat (.int m), .dat (LI (kinds.map fun k => toI (f_page_sum [.str k, .int h, .int s, .int m]))), .un, .un])
  · apply sd_asg (d := LI (kinds.map fun k => toI (f_page_sum [.str k, .int h, .int s, .int m])))
    · apply ev_new
      apply evn_lcI
      · apply it_tup
        walk_at "ev"
      · rw [hks]
        decide
      · intro k hk
        have hp : PgOk k h s m := ⟨hk, h1, h2, h3, h4, h5, h6⟩
        have q := p_page_sum [.str k, .int h, .int s, .int m] ⟨_, _, _, _, rfl, hp⟩
        obtain ⟨v, e, _⟩ := q
        have e2 : toI (f_page_sum [.str k, .int h, .int s, .int m]) = v := by rw [e]; rfl
        have c2 : Spd K (spD K ["kind", "height", "size", "shift"].length fun ds d => Q_page_sum ds ∧ d = f_page_sum ds) [.str k, .int h, .int s, .int m] (.int (toI (f_page_sum [.str k, .int h, .int s, .int m]))) := spd_of ⟨⟨_, _, _, _, rfl, hp⟩, by rw [e2, e]⟩ rfl
        refine ⟨_, _, gd_name, by walk_at "sc", ?_⟩
        walk_at "ev"
    · walk_at "ev"
  generalize hms : (kinds.map fun k => toI (f_page_sum [.str k, .int h, .int s, .int m])) = ms
  have hml : ms.length = 7 := by rw [← hms, List.length_map, hks]
  obtain ⟨mn, mm, ml⟩ := min_ex (ns := ms) (by intro z; rw [z] at hml; cases hml)
  refine se_ret (d := .list (((kinds.zip ms).filter fun p => decide (p.2 = mn)).map fun p => PyData.str p.1)) ?_ ⟨(((kinds.zip ms).filter fun p => decide (p.2 = mn)).map fun p => p.1), by rw [List.map_map]; rfl, ?_, ?_⟩
  · apply ev_new
    apply evn_lcFlt (e := kpD)
    · rw [← zpD_strs]
      apply it_zipG (SrcD.tup _) (SrcD.list _)
      walk_at "ev"
    · rw [List.length_zip, hml]
      decide
    · intro x hx
      have hmin : RC K (rMin K) [LI ms] (.int mn) := rc_minL mm ml
      refine ⟨_, _, gd_tup (gds_cons gd_name (gds_cons gd_name gds_nil)) rfl, by walk_at "sc", ?_, ?_⟩
      · walk_at "ev"
      · intro _
        walk_at "ev"
  · rw [List.length_map]
    refine Nat.le_trans (List.length_filter_le _ _) ?_
    rw [List.length_zip, hml]
    decide
  · intro k hk
    obtain ⟨p, hp, rfl⟩ := List.mem_map.mp hk
    exact (List.of_mem_zip (List.mem_filter.mp hp).1).1
end
end
end
section
set_option exponentiation.threshold 5000
section
open PySem L2
section
variable {P : Program} {w : World} {K : PySem.W.Frag} {mg : Str → Option Value} {base : Heap}
theorem ev_disp3 {r : List QV} {t1 t2 t3 ty : TE} {k1 k2 k3 k : Str} {n1 n2 n3 n : Int} (h1 : Ev K t1 r (.int n1)) (h2 : Ev K t2 r (.int n2)) (h3 : Ev K t3 r (.int n3)) (hk : Ev K ty r (.str k))
    (e : valV (mergeK [] [((.inr k1 : Key), V.int n1), (.inr k2, .int n2), (.inr k3, .int n3)]) (.inr k) = some (.int n)) : Ev K (tDGet (tDisp [(tC (.str k1), t1), (tC (.str k2), t2), (tC (.str k3), t3)]) ty) r (.int n) := fun G σ H l Q q => by
  intro p hp
  have g0 : Gr G H G (upd H p (.dK [])) := Gr.newH l.gh hp
  have hp1 : (upd H p (.dK [])) p = some (.dK []) := upd_same
  refine h1 G σ _ (l.gr g0) _ fun v1 G1 H1 g1 d1 => ?_
  refine h2 G1 σ H1 (l.gr (g0.trans g1)) _ fun v2 G2 H2 g2 d2 => ?_
  refine h3 G2 σ H2 (l.gr ((g0.trans g1).trans g2)) _ fun v3 G3 H3 g3 d3 => ?_
  cases d1
  cases d2
  cases d3
  have g13 := (g1.trans g2).trans g3
  have hp3 : H3 p = some (.dK []) := g13.hh _ _ hp1
  have gp3 : G3 p = none := (g13.ag p _ hp1).trans (l.gh.free hp)
  refine ⟨hp3, [((.inr k1 : Key), V.int n1), (.inr k2, .int n2), (.inr k3, .int n3)], rfl, (by decide : 3 ≤ 15), ?_⟩
  have g4 := Gr.mut (o := .dK (mergeK [] [((.inr k1 : Key), V.int n1), (.inr k2, .int n2), (.inr k3, .int n3)])) (g0.trans g13) hp gp3
  refine hk G3 σ _ (l.gr g4) _ fun y G5 H5 g5 d5 => ?_
  cases d5
  refine ⟨p, .int n, rfl, ?_, q _ G5 H5 (g4.trans g5) (.int n)⟩
  rw [← e]
  show DGet H5 p (kV (.inr k)) _
  exact DGet.k (g5.hh _ _ upd_same)
def RnOk (ps : List (Int × Int)) : Prop := ps.length ≤ 200 ∧ ∀ p ∈ ps, (-(2 ^ 400) ≤ p.1 ∧ p.1 ≤ 2 ^ 400) ∧ -(2 ^ 400) ≤ p.2 ∧ p.2 ≤ 2 ^ 400
def Z_prs (z : PyData) : Prop := ∃ ps : List (Int × Int), z = .list (ps.map prD) ∧ RnOk ps
theorem mapapD {α : Type} {f : α → PyData} {xs : List α} {x : α} : (xs.map f) ++ [f x] = (xs ++ [x]).map f := by
  rw [List.map_append]
  rfl
def Q_level_runs (ds : List PyData) : Prop := ∃ h d n, ds = [.int h, .int d, .int n] ∧ 0 ≤ d ∧ d < h ∧ h ≤ 100 ∧ 0 ≤ n ∧ n < 2 ^ d.toNat
def Z_level_runs (_ : List PyData) (z : PyData) : Prop := Z_prs z
theorem c400 : (2 : Int) ^ 300 ≤ 2 ^ 400 := by decide
abbrev F_level_runs (P : Program) (w : World) (K : PySem.W.Frag) (mg : Str → Option Value) (base : Heap) : Prop := Fn P w K mg base "level_runs" 1 ["height", "depth", "number"] Q_level_runs Z_level_runs
theorem ok_level_runs (B : Bt w K mg) (D : Df K mg "level_runs" "level_runs" s_level_runs)  : F_level_runs P w K mg base := by
  refine mk_fn D sc_level_runs (fun _ _ _ _ _ _ us hl => match us, hl with | [_, _, _], _ => rfl) ⟨_, fun cdv A outer s H E f hr =>
    (pss_cons (ps_set (i := 3) sc_level_runs.nd rfl (Or.inl rfl) (pe_lst pa_nil))
    (pss_cons (ps_for PassesOwn.never rfl (pi_range1 (by rfl) B.range (pa_cons (pe_op op_sub (pv 0) (pv 1)) pa_nil)) (pg_name (i := 4) sc_level_runs.nd rfl (Or.inl rfl)) (pss_cons (ps_set (i := 5) sc_level_runs.nd rfl (Or.inl rfl) (pe_op op_add (pe_op op_sub (pe_op op_shlW pe_int (pe_op op_add (pv 1) (pv 4))) pe_int) (pe_op op_shlW (pv 2) (pv 4))))
    (pss_one (ps_expr (pe_appK K (pv 3) (pe_tup (pa_cons (pv 5) (pa_cons (pe_op op_sub (pe_op op_add (pv 5) (pe_op op_shlW pe_int (pv 4))) pe_int) pa_nil))))))))
    (pss_one (ps_ret (pv 3))))), ?_⟩
  rintro ds ⟨h, d, n, rfl, h1, h2, h3, h4, h5⟩
  apply rt_se
  show SE K _ [.dat (.int h), .dat (.int d), .dat (.int n), .un, .un, .un] _
  apply se_seq (r1 := [.dat (.int h), .dat (.int d), .dat (.int n), .own (([] : List (Int × Int)).map prD), .un, .un])
  · apply sd_own (ds := ([] : List (Int × Int)).map prD)
    apply evn_lst
    · walk_at "ev"
    · walk_at "sc"
  refine se_for [4, 5] (fun f : List (Int × Int) => [.dat (.int h), .dat (.int d), .dat (.int n), .own (f.map prD), .un, .un]) PyData.int (fun j f => f.length = j ∧ ∀ p ∈ f, (-(2 ^ 400) ≤ p.1 ∧ p.1 ≤ 2 ^ 400) ∧ -(2 ^ 400) ≤ p.2 ∧ p.2 ≤ 2 ^ 400) (rgI 0 (h - d)) [] rfl ⟨rfl, fun p hp => nomatch hp⟩ (it_rng1 (by walk_at "ev") (by omega)) ?_ ?_
  · rintro j b f hj hb ⟨l1, b1⟩
    have hb := mem_rgI hb
    rw [rg_len0] at hj
    have q1 := p2le (a := d.toNat) (b := 100) (by omega)
    have q2 := p2le (a := (d + b).toNat) (b := 100) (by omega)
    have q3 := p2pos (d + b).toNat
    have q4 := p2le (a := b.toNat) (b := 100) (by omega)
    have q5 := p2pos b.toNat
    have m1 := mul_pw (x := n) (a := 100) (b := 100) (n := b.toNat) h4 (by omega) (by omega)
    have k1 : CShl n b := shl_nn (a := 101) h4 (by have := p2succ 100; omega) (by omega) (by omega)
    have k2 : CShl 1 (d + b) := shl1_ok (by omega) (by omega)
    have q6 : (2 : Int) ^ (100 + 100) = 2 ^ 200 := rfl
    have q7 : (2 : Int) ^ 100 + 2 ^ 200 + 2 ^ 100 ≤ 2 ^ 400 := by decide
    refine ⟨f ++ [(1 * 2 ^ (d + b).toNat - 1 + n * 2 ^ b.toNat, 1 * 2 ^ (d + b).toNat - 1 + n * 2 ^ b.toNat + 1 * 2 ^ b.toNat - 1)], ⟨by rw [List.length_append, l1]; rfl, ?_⟩, ?_⟩
    · intro p hp
      rcases List.mem_append.mp hp with a | a
      · exact b1 p a
      · have : p = (1 * 2 ^ (d + b).toNat - 1 + n * 2 ^ b.toNat, 1 * 2 ^ (d + b).toNat - 1 + n * 2 ^ b.toNat + 1 * 2 ^ b.toNat - 1) := by simpa using a
        subst this
        dsimp only
        rw [q6] at m1
        generalize (2 : Int) ^ 400 = Y at *
        generalize (2 : Int) ^ 200 = X at *
        generalize (2 : Int) ^ 100 = W at *
        generalize n * 2 ^ b.toNat = U at *
        omega
    · apply tn
      · walk_at "ev"
      · apply sd_goN
        walk_at "asg"
        apply sd_app
        · rfl
        · walk_at "ev"
        · rw [List.length_map]
          omega
      · rw [← mapapD]
        rfl
  · intro f hf
    rw [rg_len0] at hf
    exact se_of (sd_frz (i := 3) rfl (sd_ret (ev_var rfl))) ⟨f, rfl, by omega, hf.2⟩
def Q_cut_runs (ds : List PyData) : Prop := ∃ k h d n, ds = [.str k, .int h, .int d, .int n] ∧ k ∈ cutK ∧ 0 ≤ d ∧ d < h ∧ h ≤ 100 ∧ 0 ≤ n ∧ n < 2 ^ d.toNat
def Z_cut_runs (_ : List PyData) (z : PyData) : Prop := Z_prs z
theorem band_mask {n : Int} {k : Nat} (h : 0 ≤ n) : Builtin.bitAnd n (1 * 2 ^ k - 1) = n % 2 ^ k := by
  have hp := Nat.two_pow_pos k
  have e : (1 * 2 ^ k - 1 : Int) = ((2 ^ k - 1 : Nat) : Int) := by
    rw [p2]
    omega
  rw [e, PyProof.Rows.bitAnd_pp h (by omega), Int.toNat_natCast, Nat.and_two_pow_sub_one_eq_mod, p2]
  obtain ⟨m, rfl⟩ : ∃ m : Nat, n = (m : Int) := ⟨n.toNat, by omega⟩
  rw [Int.toNat_natCast]
  norm_cast
structure CrS where
  h : Int
  d : Int
  n : Int
  b : Int
  f : List (Int × Int)
abbrev F_cut_runs (P : Program) (w : World) (K : PySem.W.Frag) (mg : Str → Option Value) (base : Heap) : Prop := Fn P w K mg base "cut_runs" 2 ["kind", "height", "depth", "number"] Q_cut_runs Z_cut_runs
theorem ok_cut_runs (B : Bt w K mg) (D : Df K mg "cut_runs" "cut_runs" s_cut_runs) (h_cut_levels : F_cut_levels P w K mg base) : F_cut_runs P w K mg base := by
  obtain ⟨f_cut_levels, p_cut_levels, C_cut_levels⟩ := h_cut_levels
  refine mk_fn D sc_cut_runs (fun _ _ _ _ _ _ us hl => match us, hl with | [_, _, _, _], _ => rfl) ⟨_, fun cdv A outer s H E f hr =>
    (pss_cons (ps_par (i := 4) (j := 5) rfl sc_cut_runs.nd rfl rfl (by decide) rfl rfl  (pa_cons pe_int (pa_cons (pe_lst pa_nil) pa_nil)) (by rfl))
    (pss_cons (ps_while PassesOwn.never (pt_cmpR op_gt (pv 2) pe_int (nomark _)) (pss_cons (ps_set (i := 6) sc_cut_runs.nd rfl (Or.inl rfl) (pe_callC C_cut_levels hr (by rfl) (pa_cons (pv 0) (pa_cons (pv 1) pa_nil))))
    (pss_cons (ps_set (i := 7) sc_cut_runs.nd rfl (Or.inl rfl) (pe_op op_sub (pe_op op_shlW pe_int (pe_op op_sub (pv 1) (pv 6))) pe_int))
    (pss_one (ps_if (pt_cmpR op_lt (pv 2) (pv 6) (nomark _)) (pss_cons (ps_set (i := 8) sc_cut_runs.nd rfl (Or.inl rfl) (pe_op op_add (pe_op op_sub (pe_op op_add (pv 4) (pe_op op_shlW pe_int (pv 6))) pe_int) (pe_op op_mulW (pe_op op_shlW (pv 3) (pe_op op_sub (pv 6) (pv 2))) (pv 7))))
    (pss_cons (ps_expr (pe_appK K (pv 5) (pe_tup (pa_cons (pv 8) (pa_cons (pe_op op_sub (pe_op op_add (pv 8) (pe_op op_shlW (pv 7) (pe_op op_sub (pv 6) (pv 2)))) pe_int) pa_nil)))))
    (pss_one (ps_set (i := 1) sc_cut_runs.nd rfl (Or.inl rfl) (pv 6))))) (pss_cons (ps_par (i := 9) (j := 2) rfl sc_cut_runs.nd rfl rfl (by decide) rfl rfl  (pa_cons (pe_op op_shr (pv 3) (pe_op op_sub (pv 2) (pv 6))) (pa_cons (pe_op op_sub (pv 2) (pv 6)) pa_nil)) (by rfl))
    (pss_cons (ps_aug (i := 4) sc_cut_runs.nd rfl (Or.inl rfl) (pe_op op_add (pe_op op_sub (pe_op op_shlW pe_int (pv 6)) pe_int) (pe_op op_mulW (pv 9) (pv 7))) ip_add)
    (pss_one (ps_par (i := 1) (j := 3) rfl sc_cut_runs.nd rfl rfl (by decide) rfl rfl  (pa_cons (pe_op op_sub (pv 1) (pv 6)) (pa_cons (pe_op op_and (pv 3) (pe_op op_sub (pe_op op_shlW pe_int (pv 2)) pe_int)) pa_nil)) (by rfl))))))))))
    (pss_one (ps_ret (pe_lst (pa_cons (pe_tup (pa_cons (pv 4) (pa_cons (pe_op op_sub (pe_op op_add (pv 4) (pe_op op_shlW pe_int (pv 1))) pe_int) pa_nil))) (pa_starK K (pe_revLK K (pv 5)) pa_nil))))))), ?_⟩
  rintro ds ⟨k, h, d, n, rfl, hk, h1, h2, h3, h4, h5⟩
  apply rt_se
  show SE K _ [.dat (.str k), .dat (.int h), .dat (.int d), .dat (.int n), .un, .un, .un, .un, .un, .un] _
  apply se_seq (r1 := [.dat (.str k), .dat (.int h), .dat (.int d), .dat (.int n), .dat (.int 0), .own (([] : List (Int × Int)).map prD), .un, .un, .un, .un])
  · apply sd_parDO (es := ([] : List (Int × Int)).map prD)
    · walk_at "ev"
    · apply evn_lst
      · walk_at "ev"
      · walk_at "sc"
  refine se_whl [6, 7, 8, 9] (fun s : CrS => [.dat (.str k), .dat (.int s.h), .dat (.int s.d), .dat (.int s.n), .dat (.int s.b), .own (s.f.map prD), .un, .un, .un, .un]) (fun s => decide (s.d > 0))
    (fun s => 0 ≤ s.d ∧ s.d < s.h ∧ s.h ≤ h ∧ 0 ≤ s.n ∧ s.n < 2 ^ s.d.toNat ∧ 0 ≤ s.b ∧ s.b ≤ 2 ^ 210 * (h - s.h) ∧ (s.f.length : Int) ≤ h - s.h ∧ ∀ p ∈ s.f, (-(2 ^ 400) ≤ p.1 ∧ p.1 ≤ 2 ^ 400) ∧ -(2 ^ 400) ≤ p.2 ∧ p.2 ≤ 2 ^ 400) (fun s => s.h.toNat) ⟨h, d, n, 0, []⟩ rfl ?_ ?_ ?_ ?_
  · refine ⟨h1, h2, Int.le_refl h, h4, h5, Int.le_refl 0, ?_, ?_, fun p hp => (nomatch hp)⟩
    · show 0 ≤ 2 ^ 210 * (h - h)
      omega
    · show ((0 : Nat) : Int) ≤ h - h
      omega
  · intro s _
    walk_at "ev"
  · rintro ⟨l, d, n, b, f⟩ ⟨p1, p2, p3, p4, p5, p6, p7, p8, p9⟩ hc
    have hc : d > 0 := of_decide_eq_true hc
    dsimp only at p1 p2 p3 p4 p5 p6 p7 p8 p9
    obtain ⟨t1, t2, t3⟩ := cutLv_bd (k := k) (h := l) (by omega)
    obtain ⟨_, q, c1⟩ := use_fn (K := K) p_cut_levels [.str k, .int l] ⟨_, _, rfl, hk, by omega, by omega⟩
    obtain rfl := q _ _ rfl
    generalize cutLv k l = T at *
    have z1 := p2pos T.toNat
    have z2 := p2le (a := T.toNat) (b := 100) (by omega)
    have z3 := p2pos (l - T).toNat
    have z4 := p2le (a := (l - T).toNat) (b := 100) (by omega)
    have z5 := p2le (a := d.toNat) (b := 100) (by omega)
    have z6 := p2pos d.toNat
    have z7 : (2 : Int) ^ 101 = 2 * 2 ^ 100 := p2succ 100
    have e210 : (2 : Int) ^ 100 + 2 ^ 201 ≤ 2 ^ 210 := by decide
    have e211 : (2 : Int) ^ 210 * 100 + 2 ^ 210 + 2 ^ 201 ≤ 2 ^ 400 := by decide
    by_cases c : d < T
    · have m1 := mul_pw (x := n) (a := 100) (b := 100) (n := (T - d).toNat) p4 (by omega) (by omega)
      have m2 := mul_pw (x := 1 * 2 ^ (l - T).toNat - 1) (a := 100) (b := 100) (n := (T - d).toNat) (by omega) (by omega) (by omega)
      have k1 : CShl n (T - d) := shl_nn (a := 101) p4 (by omega) (by omega) (by omega)
      have k2 : CShl (1 * 2 ^ (l - T).toNat - 1) (T - d) := shl_nn (a := 101) (by omega) (by omega) (by omega) (by omega)
      have k3 : CMulW (n * 2 ^ (T - d).toNat) (1 * 2 ^ (l - T).toNat - 1) := mul_ok (a := 201) (b := 101) (nab_lt m1.1 (by have := p2succ 200; omega)) (nab_lt (by omega) (by omega))
      -- the number, moved down, is below 2 ^ T
      have m3 : n * 2 ^ (T - d).toNat ≤ 2 ^ 100 := by
        have a1 : n * 2 ^ (T - d).toNat ≤ 2 ^ d.toNat * 2 ^ (T - d).toNat := Int.mul_le_mul_of_nonneg_right (by omega) (Int.le_of_lt (p2pos _))
        have a2 : (2 : Int) ^ d.toNat * 2 ^ (T - d).toNat = 2 ^ T.toNat := by
          rw [← Int.pow_add]
          congr 1
          omega
        omega
      have m4 := abs_mul (x := n * 2 ^ (T - d).toNat) (y := 1 * 2 ^ (l - T).toNat - 1) (a := 2 ^ 100) (b := 2 ^ 100) (by omega) (by omega)
      have m5 : (2 : Int) ^ 100 * 2 ^ 100 = 2 ^ 200 := (Int.pow_add ..).symm
      have m6 : (2 : Int) ^ (100 + 100) = 2 ^ 200 := rfl
      have m7 : 0 ≤ n * 2 ^ (T - d).toNat * (1 * 2 ^ (l - T).toNat - 1) := Int.mul_nonneg m1.1 (by omega)
      have hb7 : b ≤ 2 ^ 210 * 100 := Int.le_trans p7 (Int.mul_le_mul_of_nonneg_left (by omega) (by decide))
      have e212 : (2 : Int) ^ 210 * 100 + 2 ^ 100 + 2 ^ 200 + 2 ^ 200 ≤ 2 ^ 400 := by decide
      refine ⟨⟨T, d, n, b, f ++ [(b + 1 * 2 ^ T.toNat - 1 + n * 2 ^ (T - d).toNat * (1 * 2 ^ (l - T).toNat - 1), b + 1 * 2 ^ T.toNat - 1 + n * 2 ^ (T - d).toNat * (1 * 2 ^ (l - T).toNat - 1) + (1 * 2 ^ (l - T).toNat - 1) * 2 ^ (T - d).toNat - 1)]⟩, ⟨p1, c, by dsimp only; omega, p4, p5, p6, ?_, ?_, ?_⟩, by dsimp only; omega, ?_⟩
      · dsimp only
        exact Int.le_trans p7 (Int.mul_le_mul_of_nonneg_left (by omega) (by decide))
      · dsimp only
        rw [List.length_append]
        show ((f.length + 1 : Nat) : Int) ≤ _
        omega
      · intro p hp
        rcases List.mem_append.mp hp with a | a
        · exact p9 p a
        · have a := List.mem_singleton.mp a
          subst a
          dsimp only
          rw [m6] at m1 m2
          rw [m5] at m4
          generalize n * 2 ^ (T - d).toNat * (1 * 2 ^ (l - T).toNat - 1) = U at *
          generalize (1 * 2 ^ (l - T).toNat - 1) * 2 ^ (T - d).toNat = U2 at *
          generalize (2 : Int) ^ 400 = Y at *
          generalize (2 : Int) ^ 200 = X at *
          generalize (2 : Int) ^ 100 = W at *
          generalize (2 : Int) ^ 210 * 100 = V at *
          omega
      · apply tw
        · apply sd_goN
          dsimp only
          walk_at "asg"
          walk_at "asg"
          refine sd_ifT (et_is (by walk_at "ev") (dtr c)) ?_
          walk_at "asg"
          apply sd_seq
          · apply sd_app
            · rfl
            · walk_at "ev"
            · rw [List.length_map]
              omega
          · apply sd_asg
            · walk_at "ev"
            · walk_at "ev"
        · rw [← mapapD]
          rfl
    · have y0 : 0 ≤ n / 2 ^ (d - T).toNat := Int.ediv_nonneg p4 (Int.le_of_lt (p2pos _))
      have y1 : n / 2 ^ (d - T).toNat ≤ n := Int.ediv_le_self _ p4
      have k3 : CMulW (n / 2 ^ (d - T).toNat) (1 * 2 ^ (l - T).toNat - 1) := mul_ok (a := 101) (b := 101) (nab_lt y0 (by omega)) (nab_lt (by omega) (by omega))
      have m4 := abs_mul (x := n / 2 ^ (d - T).toNat) (y := 1 * 2 ^ (l - T).toNat - 1) (a := 2 ^ 100) (b := 2 ^ 100) (by omega) (by omega)
      have m7 : 0 ≤ n / 2 ^ (d - T).toNat * (1 * 2 ^ (l - T).toNat - 1) := Int.mul_nonneg y0 (by omega)
      have m5 : (2 : Int) ^ 100 * 2 ^ 100 = 2 ^ 200 := (Int.pow_add ..).symm
      have m6 : (2 : Int) ^ 201 = 2 * 2 ^ 200 := p2succ 200
      have bm := band_mask (n := n) (k := (d - T).toNat) p4
      have b0 := Int.emod_nonneg n (b := 2 ^ (d - T).toNat) (Int.ne_of_gt (p2pos _))
      have b1 := Int.emod_lt_of_pos n (p2pos (d - T).toNat)
      refine ⟨⟨l - T, d - T, Builtin.bitAnd n (1 * 2 ^ (d - T).toNat - 1), b + (1 * 2 ^ T.toNat - 1 + n / 2 ^ (d - T).toNat * (1 * 2 ^ (l - T).toNat - 1)), f⟩, ⟨by dsimp only; omega, by dsimp only; omega, by dsimp only; omega, by dsimp only; omega, by dsimp only; omega, by dsimp only; omega, ?_, by dsimp only; omega, p9⟩, by dsimp only; omega, ?_⟩
      · dsimp only
        have e : (2 : Int) ^ 210 * (h - (l - T)) = 2 ^ 210 * (h - l) + 2 ^ 210 * T := by
          rw [← Int.mul_add]
          congr 1
          omega
        have e2 : (2 : Int) ^ 210 * 1 ≤ 2 ^ 210 * T := Int.mul_le_mul_of_nonneg_left t1 (by decide)
        rw [e]
        rw [m5] at m4
        generalize n / 2 ^ (d - T).toNat * (1 * 2 ^ (l - T).toNat - 1) = U at *
        generalize (2 : Int) ^ 210 * T = V at *
        generalize (2 : Int) ^ 210 * (h - l) = V2 at *
        generalize (2 : Int) ^ 210 = Y at *
        generalize (2 : Int) ^ 201 = X2 at *
        generalize (2 : Int) ^ 200 = X at *
        generalize (2 : Int) ^ 100 = W at *
        omega
      · apply tw
        · apply sd_goN
          dsimp only
          walk_at "asg"
          walk_at "asg"
          refine sd_ifF (et_is (by walk_at "ev") (dfa c)) ?_
          walk_at "par"
          walk_at "aug"
          apply sd_par
          walk_at "ev"
        · rfl
  · rintro ⟨l, d, n, b, f⟩ ⟨p1, p2, p3, p4, p5, p6, p7, p8, p9⟩ hc
    dsimp only at p1 p2 p3 p4 p5 p6 p7 p8 p9
    dsimp only
    apply se_frz (i := 5) rfl
    refine se_ret (d := .list (((b, b + 1 * 2 ^ l.toNat - 2) :: f.reverse).map prD)) ?_ ⟨_, rfl, ?_, ?_⟩
    · apply ev_new
      apply evn_is
      · apply evn_lst
        · apply ea_cons
          · walk_at "ev"
          · apply ea_star
            · apply ev_new
              apply evn_rev
              exact ev_var rfl
            · walk_at "ev"
        · rw [List.append_nil, List.length_cons, List.length_reverse, List.length_map]
          omega
      · rw [List.append_nil, List.map_cons, List.map_reverse]
        rfl
    · rw [List.length_cons, List.length_reverse]
      omega
    · intro p hp
      rcases List.mem_cons.mp hp with rfl | hp
      · have hb7 : b ≤ 2 ^ 210 * 100 := Int.le_trans p7 (Int.mul_le_mul_of_nonneg_left (by omega) (by decide))
        have e211 : (2 : Int) ^ 210 * 100 + 2 ^ 100 ≤ 2 ^ 400 := by decide
        have z4 := p2le (a := l.toNat) (b := 100) (by omega)
        have z3 := p2pos l.toNat
        have e2 : (2 : Int) ≤ 2 ^ 400 := by decide
        dsimp only
        generalize (2 : Int) ^ 210 * 100 = V at *
        generalize (2 : Int) ^ 400 = Y at *
        generalize (2 : Int) ^ 100 = W at *
        omega
      · exact p9 p (List.mem_reverse.mp hp)
def straightK : List Str := ["inorder", "preorder", "postorder"]
def Q_straight_run (ds : List PyData) : Prop := ∃ k h d n, ds = [.str k, .int h, .int d, .int n] ∧ k ∈ straightK ∧ 0 ≤ d ∧ d < h ∧ h ≤ 100
def Z_straight_run (_ : List PyData) (z : PyData) : Prop := ∃ p : Int × Int, z = prD p ∧ (-(2 ^ 400) ≤ p.1 ∧ p.1 ≤ 2 ^ 400) ∧ -(2 ^ 400) ≤ p.2 ∧ p.2 ≤ 2 ^ 400
def aheadF (k : Str) (s : Int) : Int := if k = "preorder" then 0 else if k = "inorder" then s / 2 else s - 1
theorem ahead_get {k : Str} (hk : k ∈ straightK) (s : Int) : valV (mergeK [] [((.inr "preorder" : Key), V.int 0), (.inr "inorder", .int (s / 2)), (.inr "postorder", .int (s - 1))]) (.inr k) = some (.int (aheadF k s)) := by
  have : k = "inorder" ∨ k = "preorder" ∨ k = "postorder" := by
    unfold straightK at hk
    simpa using hk
  rcases this with rfl | rfl | rfl
  · rfl
  · rfl
  · rfl
abbrev F_straight_run (P : Program) (w : World) (K : PySem.W.Frag) (mg : Str → Option Value) (base : Heap) : Prop := Fn P w K mg base "straight_run" 4 ["kind", "height", "depth", "number"] Q_straight_run Z_straight_run
theorem ok_straight_run (B : Bt w K mg) (D : Df K mg "straight_run" "straight_run" s_straight_run) (h_spot_of : F_spot_of P w K mg base) : F_straight_run P w K mg base := by
  obtain ⟨f_spot_of, p_spot_of, C_spot_of⟩ := h_spot_of
  refine mk_fn D sc_straight_run (fun _ _ _ _ _ _ us hl => match us, hl with | [_, _, _, _], _ => rfl) ⟨_, fun cdv A outer s H E f hr =>
    (pss_cons (ps_par (i := 4) (j := 5) rfl sc_straight_run.nd rfl rfl (by decide) rfl rfl  (pa_cons (pe_callC C_spot_of hr (by rfl) (pa_cons (pv 0) (pa_cons (pv 1) (pa_cons (pe_tup (pa_cons (pv 2) (pa_cons (pv 3) pa_nil))) pa_nil)))) (pa_cons (pe_op op_sub (pe_op op_shlW pe_int (pe_op op_sub (pv 1) (pv 2))) pe_int) pa_nil)) (by rfl))
    (pss_cons (ps_set (i := 6) sc_straight_run.nd rfl (Or.inl rfl) (pe_dget (hu_of hr) (pe_disp (pps_cons pe_str pe_int (pps_cons pe_str (pe_op op_fdivW (pv 5) pe_int) (pps_cons pe_str (pe_op op_sub (pv 5) pe_int) pps_nil))) (by rfl) (by rfl) (fun z => by cases z) (by decide)) (pv 0) (fun _ _ => rfl)))
    (pss_one (ps_ret (pe_tup (pa_cons (pe_op op_sub (pv 4) (pv 6)) (pa_cons (pe_op op_sub (pe_op op_add (pe_op op_sub (pv 4) (pv 6)) (pv 5)) pe_int) pa_nil))))))), ?_⟩
  rintro ds ⟨k, h, d, n, rfl, hk, h1, h2, h3⟩
  apply rt_se
  show SE K _ [.dat (.str k), .dat (.int h), .dat (.int d), .dat (.int n), .un, .un, .un] _
  obtain ⟨_, q, c1⟩ := use_fn (K := K) p_spot_of [.str k, .int h, ND d n] ⟨_, _, _, _, rfl, by omega, by omega, by omega⟩
  obtain ⟨m, rfl, m1, m2⟩ := q
  have z4 := p2le (a := (h - d).toNat) (b := 100) (by omega)
  have z3 := p2pos (h - d).toNat
  walk_at "par"
  generalize hs : (1 * 2 ^ (h - d).toNat - 1 : Int) = s at *
  apply se_seq (r1 := [.dat (.str k), .dat (.int h), .dat (.int d), .dat (.int n), .dat (.int m), .dat (.int s), .dat (.int (aheadF k s))])
  · apply sd_asg
    · exact ev_disp3 (by walk_at "ev") (by walk_at "ev") (by walk_at "ev") (ev_var rfl) (ahead_get hk s)
    · walk_at "ev"
  have ha : 0 ≤ aheadF k s + 1 ∧ aheadF k s ≤ s := by
    unfold aheadF
    split
    · omega
    · split <;> omega
  refine se_ret (d := prD (m - aheadF k s, m - aheadF k s + s - 1)) (by walk_at "ev") ⟨_, rfl, ?_⟩
  have e211 : (2 : Int) ^ 210 + 2 ^ 100 + 10 ≤ 2 ^ 400 := by decide
  dsimp only
  generalize (2 : Int) ^ 210 = V at *
  generalize (2 : Int) ^ 400 = Y at *
  generalize (2 : Int) ^ 100 = W at *
  omega
def Q_runs (ds : List PyData) : Prop := Q_place_of ds
def Z_runs (_ : List PyData) (z : PyData) : Prop := Z_prs z
abbrev F_runs (P : Program) (w : World) (K : PySem.W.Frag) (mg : Str → Option Value) (base : Heap) : Prop := Fn P w K mg base "runs" 5 ["kind", "height", "node"] Q_runs Z_runs
theorem ok_runs (B : Bt w K mg) (D : Df K mg "runs" "runs" s_runs) (h_require_kind : F_require_kind P w K mg base) (h_require_height : F_require_height P w K mg base) (h_require_node : F_require_node P w K mg base) (h_level_runs : F_level_runs P w K mg base) (h_cut_runs : F_cut_runs P w K mg base) (h_straight_run : F_straight_run P w K mg base) : F_runs P w K mg base := by
  obtain ⟨f_require_kind, p_require_kind, C_require_kind⟩ := h_require_kind
  obtain ⟨f_require_height, p_require_height, C_require_height⟩ := h_require_height
  obtain ⟨f_require_node, p_require_node, C_require_node⟩ := h_require_node
  obtain ⟨f_level_runs, p_level_runs, C_level_runs⟩ := h_level_runs
  obtain ⟨f_cut_runs, p_cut_runs, C_cut_runs⟩ := h_cut_runs
  obtain ⟨f_straight_run, p_straight_run, C_straight_run⟩ := h_straight_run
  refine mk_fn D sc_runs (fun _ _ _ _ _ _ us hl => match us, hl with | [_, _, _], _ => rfl) ⟨_, fun cdv A outer s H E f hr =>
    (pss_cons (ps_expr (pe_callC C_require_kind hr (by rfl) (pa_cons (pv 0) pa_nil)))
    (pss_cons (ps_expr (pe_callC C_require_height hr (by rfl) (pa_cons (pv 1) pa_nil)))
    (pss_cons (ps_expr (pe_callC C_require_node hr (by rfl) (pa_cons (pv 1) (pa_cons (pv 2) pa_nil))))
    (pss_cons (ps_asg (pv 2) (pg_tupK (n := 2) K rfl (pgs_cons (pg_name (i := 3) sc_runs.nd rfl (Or.inl rfl)) (pgs_cons (pg_name (i := 4) sc_runs.nd rfl (Or.inl rfl)) pgs_nil))))
    (pss_cons (ps_if (pt_cmpR op_eq (pv 3) pe_int (nomark _)) (pss_one (ps_ret (pe_lst (pa_cons (pe_tup (pa_cons pe_int (pa_cons (pe_op op_sub (pe_op op_shlW pe_int (pv 1)) pe_int) pa_nil))) pa_nil)))) pss_nil)
    (pss_cons (ps_if (pt_cmpR op_eq (pv 0) pe_str (nomark _)) (pss_one (ps_ret (pe_callC C_level_runs hr (by rfl) (pa_cons (pv 1) (pa_cons (pv 3) (pa_cons (pv 4) pa_nil)))))) pss_nil)
    (pss_cons (ps_if (pt_cmpR (op_in_seqK K) (pv 0) (pe_glob (by rfl) B.c_CUT_KINDS B.r_CUT_KINDS) rfl) (pss_one (ps_ret (pe_callC C_cut_runs hr (by rfl) (pa_cons (pv 0) (pa_cons (pv 1) (pa_cons (pv 3) (pa_cons (pv 4) pa_nil))))))) pss_nil)
    (pss_one (ps_ret (pe_lst (pa_cons (pe_callC C_straight_run hr (by rfl) (pa_cons (pv 0) (pa_cons (pv 1) (pa_cons (pv 3) (pa_cons (pv 4) pa_nil))))) pa_nil))))))))))), ?_⟩
  rintro ds ⟨k, h, d, n, rfl, hk, h1, h2, h3, h4, h5, h6⟩
  apply rt_se
  show SE K _ [.dat (.str k), .dat (.int h), .dat (ND d n), .un, .un] _
  obtain ⟨_, rfl, c1⟩ := use_fn (K := K) p_require_kind [.str k] ⟨_, rfl, hk⟩
  obtain ⟨_, rfl, c2⟩ := use_fn (K := K) p_require_height [.int h] ⟨_, rfl, h1, h2⟩
  obtain ⟨_, rfl, c3⟩ := use_fn (K := K) p_require_node [.int h, ND d n] ⟨_, _, _, rfl, h3, h4, by omega, h5, h6⟩
  walk_at "drop"
  walk_at "drop"
  walk_at "drop"
  walk_at "asg"
  have e400 : (2 : Int) ^ 100 + 2 ≤ 2 ^ 400 := by decide
  by_cases a : d = 0
  · apply se_seqR
    refine se_ifT (et_is (by walk_at "ev") (dtr a)) ?_
    refine se_ret (d := .list ([((0 : Int), (1 * 2 ^ h.toNat - 2 : Int))].map prD)) ?_ ⟨_, rfl, (by decide : 1 ≤ 200), ?_⟩
    · apply ev_new
      apply evn_lst
      · apply ea_cons
        · show Ev K _ _ (.tuple [.int 0, .int (1 * 2 ^ h.toNat - 2)])
          walk_at "ev"
        · walk_at "ev"
      · exact (by decide : 1 ≤ 100000)
    · intro p hp
      have hp := List.mem_singleton.mp hp
      subst hp
      have z4 := p2le (a := h.toNat) (b := 100) (by omega)
      have z3 := p2pos h.toNat
      dsimp only
      generalize (2 : Int) ^ 400 = Y at *
      generalize (2 : Int) ^ 100 = W at *
      omega
  · refine se_seq (sd_ifF (et_is (by walk_at "ev") (dfa a)) sd_next) ?_
    by_cases b : k = "levels"
    · apply se_seqR
      refine se_ifT (et_is (by walk_at "ev") (dtr b)) ?_
      obtain ⟨z, hz, c4⟩ := use_fn (K := K) p_level_runs [.int h, .int d, .int n] ⟨_, _, _, rfl, h3, h4, h2, h5, h6⟩
      refine se_ret ?_ hz
      walk_at "ev"
    · refine se_seq (sd_ifF (et_is (by walk_at "ev") (dfa b)) sd_next) ?_
      by_cases c : k ∈ cutK
      · apply se_seqR
        refine se_ifT (et_is (by walk_at "ev") (dtr c)) ?_
        obtain ⟨z, hz, c4⟩ := use_fn (K := K) p_cut_runs [.str k, .int h, .int d, .int n] ⟨_, _, _, _, rfl, c, h3, h4, h2, h5, h6⟩
        refine se_ret ?_ hz
        walk_at "ev"
      · refine se_seq (sd_ifF (et_is (by walk_at "ev") (dfa c)) sd_next) ?_
        have hs : k ∈ straightK := by
          have q : k = "levels" ∨ k = "inorder" ∨ k = "preorder" ∨ k = "postorder" ∨ k = "lesser" ∨ k = "greater" ∨ k = "powers" := by
            unfold kinds at hk
            simpa using hk
          have hc2 : ¬ (k = "lesser" ∨ k = "greater" ∨ k = "powers") := by
            unfold cutK at c
            simpa using c
          unfold straightK
          rcases q with q | q | q | q | q
          · exact absurd q b
          · simp [q]
          · simp [q]
          · simp [q]
          · exact absurd q hc2
        obtain ⟨_, q, c4⟩ := use_fn (K := K) p_straight_run [.str k, .int h, .int d, .int n] ⟨_, _, _, _, rfl, hs, h3, h4, h2⟩
        obtain ⟨p, rfl, hp⟩ := q
        refine se_ret (d := .list ([p].map prD)) ?_ ⟨_, rfl, (by decide : 1 ≤ 200), ?_⟩
        · apply ev_new
          apply evn_lst
          · apply ea_cons
            · walk_at "ev"
            · walk_at "ev"
          · exact (by decide : 1 ≤ 100000)
        · intro p' hp'
          rw [List.mem_singleton.mp hp']
          exact hp
def Q_count_ahead (ds : List PyData) : Prop := ∃ k h d l, ds = [.str k, .int h, .int d, .int l] ∧ 0 ≤ d ∧ d < h ∧ h ≤ 100
def Z_count_ahead (_ : List PyData) (z : PyData) : Prop := ∃ m, z = .int m ∧ 0 ≤ m ∧ m ≤ 2 ^ 100
abbrev F_count_ahead (P : Program) (w : World) (K : PySem.W.Frag) (mg : Str → Option Value) (base : Heap) : Prop := Fn P w K mg base "count_ahead" 3 ["kind", "height", "depth", "limit"] Q_count_ahead Z_count_ahead
theorem ok_count_ahead (B : Bt w K mg) (D : Df K mg "count_ahead" "count_ahead" s_count_ahead) (h_sums_of : F_sums_of P w K mg base) : F_count_ahead P w K mg base := by
  obtain ⟨f_sums_of, p_sums_of, C_sums_of⟩ := h_sums_of
  refine mk_fn D sc_count_ahead (fun _ _ _ _ _ _ us hl => match us, hl with | [_, _, _, _], _ => rfl) ⟨_, fun cdv A outer s H E f hr =>
    (pss_cons (ps_asg (pe_callC C_sums_of hr (by rfl) (pa_cons (pv 0) (pa_cons (pv 1) (pa_cons (pv 2) pa_nil)))) (pg_tupK (n := 2) K rfl (pgs_cons (pg_name (i := 4) sc_count_ahead.nd rfl (Or.inl rfl)) (pgs_cons (pg_name (i := 5) sc_count_ahead.nd rfl (Or.inl rfl)) pgs_nil))))
    (pss_cons (ps_par (i := 6) (j := 7) rfl sc_count_ahead.nd rfl rfl (by decide) rfl rfl  (pa_cons (pe_op op_sub (pe_op op_sub (pv 3) pe_int) (pv 4)) (pa_cons pe_int pa_nil)) (by rfl))
    (pss_cons (ps_if (pt_cmpR op_lt (pv 6) pe_int (nomark _)) (pss_one (ps_ret pe_int)) pss_nil)
    (pss_cons (ps_for PassesOwn.never rfl (pi_listK K (pv 5)) (pg_name (i := 8) sc_count_ahead.nd rfl (Or.inl rfl)) (pss_cons (ps_aug (i := 7) sc_count_ahead.nd rfl (Or.inl rfl) pe_int iop_mulW)
    (pss_one (ps_if (pt_cmpR op_ge (pv 6) (pv 8) (nomark _)) (pss_one (ps_par (i := 7) (j := 6) rfl sc_count_ahead.nd rfl rfl (by decide) rfl rfl  (pa_cons (pe_op op_add (pv 7) pe_int) (pa_cons (pe_op op_sub (pv 6) (pv 8)) pa_nil)) (by rfl))) pss_nil))))
    (pss_one (ps_ret (pe_op op_add (pv 7) pe_int))))))), ?_⟩
  rintro ds ⟨k, h, d, l, rfl, h1, h2, h3⟩
  apply rt_se
  show SE K _ [.dat (.str k), .dat (.int h), .dat (.int d), .dat (.int l), .un, .un, .un, .un, .un] _
  obtain ⟨_, q, c1⟩ := use_fn (K := K) p_sums_of [.str k, .int h, .int d] ⟨_, _, _, rfl, h1, h2, by omega⟩
  obtain rfl := q _ _ _ rfl
  have ok := smF_ok k h1 h2
  have hl := ok.len
  generalize smF k h d = S at *
  walk_at "asg"
  walk_at "par"
  by_cases a : l - 1 - S.1 < 0
  · apply se_seqR
    refine se_ifT (et_is (by walk_at "ev") (dtr a)) ?_
    exact se_ret ev_int ⟨0, rfl, by decide, by decide⟩
  · refine se_seq (sd_ifF (et_is (by walk_at "ev") (dfa a)) sd_next) ?_
    refine se_for [8] (fun s : Int × Int => [.dat (.str k), .dat (.int h), .dat (.int d), .dat (.int l), .dat (.int S.1), .dat (LI S.2), .dat (.int s.1), .dat (.int s.2), .un]) PyData.int (fun i s => 0 ≤ s.2 ∧ s.2 < 2 ^ i) S.2 (l - 1 - S.1, 0) rfl ⟨Int.le_refl 0, (by decide : (0 : Int) < 2 ^ 0)⟩ (it_list (by walk_at "ev")) ?_ ?_
    · rintro j x ⟨le, fo⟩ hj hx ⟨s1, s2⟩
      dsimp only at s1 s2
      have e2 := p2succ j
      have h6 : fo.natAbs < 2 ^ 200 := nab_lt s1 (Int.lt_of_lt_of_le s2 (pow_le (by omega)))
      have hm : CMulW fo 2 := mul_ok (b := 2) h6 (by decide)
      by_cases c : le ≥ x
      · refine ⟨(le - x, fo * 2 + 1), ⟨by dsimp only; omega, by dsimp only; omega⟩, ?_⟩
        apply tn
        · walk_at "ev"
        · apply sd_goN
          dsimp only
          walk_at "aug"
          refine sd_ifT (et_is (by walk_at "ev") (dtr c)) ?_
          apply sd_par
          walk_at "ev"
        · rfl
      · refine ⟨(le, fo * 2), ⟨by dsimp only; omega, by dsimp only; omega⟩, ?_⟩
        apply tn
        · walk_at "ev"
        · apply sd_goN
          dsimp only
          walk_at "aug"
          refine sd_ifF (et_is (by walk_at "ev") (dfa c)) ?_
          exact sd_next
        · rfl
    · rintro ⟨le, fo⟩ ⟨s1, s2⟩
      dsimp only at s1 s2
      dsimp only
      have q := p2le (a := S.2.length) (b := 99) (by omega)
      have q2 : (2 : Int) ^ 100 = 2 * 2 ^ 99 := p2succ 99
      refine se_ret (d := .int (fo + 1)) (by walk_at "ev") ⟨fo + 1, rfl, by omega, by omega⟩
def Q_depth_counts (ds : List PyData) : Prop := ∃ k h p q, ds = [.str k, .int h, .int p, .int q] ∧ k ∈ kinds ∧ 1 ≤ h ∧ h ≤ 100 ∧ 0 ≤ p ∧ p < q ∧ q ≤ 2 ^ h.toNat - 1
def Z_depth_counts (_ : List PyData) (z : PyData) : Prop := Z_prs z
abbrev F_depth_counts (P : Program) (w : World) (K : PySem.W.Frag) (mg : Str → Option Value) (base : Heap) : Prop := Fn P w K mg base "depth_counts" 4 ["kind", "height", "begin", "end"] Q_depth_counts Z_depth_counts
theorem ok_depth_counts (B : Bt w K mg) (D : Df K mg "depth_counts" "depth_counts" s_depth_counts) (h_require_kind : F_require_kind P w K mg base) (h_require_height : F_require_height P w K mg base) (h_require_span : F_require_span P w K mg base) (h_count_ahead : F_count_ahead P w K mg base) : F_depth_counts P w K mg base := by
  obtain ⟨f_require_kind, p_require_kind, C_require_kind⟩ := h_require_kind
  obtain ⟨f_require_height, p_require_height, C_require_height⟩ := h_require_height
  obtain ⟨f_require_span, p_require_span, C_require_span⟩ := h_require_span
  obtain ⟨f_count_ahead, p_count_ahead, C_count_ahead⟩ := h_count_ahead
  refine mk_fn D sc_depth_counts (fun _ _ _ _ _ _ us hl => match us, hl with | [_, _, _, _], _ => rfl) ⟨_, fun cdv A outer s H E f hr =>
    (pss_cons (ps_expr (pe_callC C_require_kind hr (by rfl) (pa_cons (pv 0) pa_nil)))
    (pss_cons (ps_expr (pe_callC C_require_height hr (by rfl) (pa_cons (pv 1) pa_nil)))
    (pss_cons (ps_expr (pe_callC C_require_span hr (by rfl) (pa_cons (pv 1) (pa_cons (pv 2) (pa_cons (pv 3) pa_nil)))))
    (pss_cons (ps_set (i := 4) sc_depth_counts.nd rfl (Or.inl rfl) (pe_lst pa_nil))
    (pss_cons (ps_for PassesOwn.never rfl (pi_range1 (by rfl) B.range (pa_cons (pv 1) pa_nil)) (pg_name (i := 5) sc_depth_counts.nd rfl (Or.inl rfl)) (pss_cons (ps_set (i := 6) sc_depth_counts.nd rfl (Or.inl rfl) (pe_op op_sub (pe_callC C_count_ahead hr (by rfl) (pa_cons (pv 0) (pa_cons (pv 1) (pa_cons (pv 5) (pa_cons (pv 3) pa_nil))))) (pe_callC C_count_ahead hr (by rfl) (pa_cons (pv 0) (pa_cons (pv 1) (pa_cons (pv 5) (pa_cons (pv 2) pa_nil)))))))
    (pss_one (ps_if (pt_cmpR op_gt (pv 6) pe_int (nomark _)) (pss_one (ps_expr (pe_appK K (pv 4) (pe_tup (pa_cons (pv 5) (pa_cons (pv 6) pa_nil)))))) pss_nil))))
    (pss_one (ps_ret (pv 4)))))))), ?_⟩
  rintro ds ⟨k, h, p, q, rfl, hk, h1, h2, h3, h4, h5⟩
  apply rt_se
  show SE K _ [.dat (.str k), .dat (.int h), .dat (.int p), .dat (.int q), .un, .un, .un] _
  obtain ⟨_, rfl, c1⟩ := use_fn (K := K) p_require_kind [.str k] ⟨_, rfl, hk⟩
  obtain ⟨_, rfl, c2⟩ := use_fn (K := K) p_require_height [.int h] ⟨_, rfl, h1, h2⟩
  obtain ⟨_, rfl, c3⟩ := use_fn (K := K) p_require_span [.int h, .int p, .int q] ⟨_, _, _, rfl, h1, h2, h3, h4, h5⟩
  walk_at "drop"
  walk_at "drop"
  walk_at "drop"
  apply se_seq (r1 := [.dat (.str k), .dat (.int h), .dat (.int p), .dat (.int q), .own (([] : List (Int × Int)).map prD), .un, .un])
  · apply sd_own (ds := ([] : List (Int × Int)).map prD)
    apply evn_lst
    · walk_at "ev"
    · walk_at "sc"
  refine se_for [5, 6] (fun f : List (Int × Int) => [.dat (.str k), .dat (.int h), .dat (.int p), .dat (.int q), .own (f.map prD), .un, .un]) PyData.int (fun j f => f.length ≤ j ∧ ∀ p ∈ f, (-(2 ^ 400) ≤ p.1 ∧ p.1 ≤ 2 ^ 400) ∧ -(2 ^ 400) ≤ p.2 ∧ p.2 ≤ 2 ^ 400) (rgI 0 h) [] rfl ⟨Nat.le_refl 0, fun p hp => nomatch hp⟩ (it_rng1 (by walk_at "ev") (by omega)) ?_ ?_
  · rintro j d f hj hd ⟨l1, b1⟩
    have hd := mem_rgI hd
    rw [rg_len0] at hj
    obtain ⟨_, z, c4⟩ := use_fn (K := K) p_count_ahead [.str k, .int h, .int d, .int q] ⟨_, _, _, _, rfl, hd.1, hd.2, h2⟩
    obtain ⟨m1, rfl, u1, u2⟩ := z
    obtain ⟨_, z, c5⟩ := use_fn (K := K) p_count_ahead [.str k, .int h, .int d, .int p] ⟨_, _, _, _, rfl, hd.1, hd.2, h2⟩
    obtain ⟨m2, rfl, u3, u4⟩ := z
    by_cases c : m1 - m2 > 0
    · refine ⟨f ++ [(d, m1 - m2)], ⟨by rw [List.length_append]; show _ + 1 ≤ _; omega, ?_⟩, ?_⟩
      · intro x hx
        rcases List.mem_append.mp hx with a | a
        · exact b1 x a
        · have a := List.mem_singleton.mp a
          subst a
          have e2 : (2 : Int) ^ 100 + 100 ≤ 2 ^ 400 := by decide
          dsimp only
          generalize (2 : Int) ^ 400 = Y at *
          generalize (2 : Int) ^ 100 = W at *
          omega
      · apply tn
        · walk_at "ev"
        · apply sd_goN
          walk_at "asg"
          refine sd_ifT (et_is (by walk_at "ev") (dtr c)) ?_
          apply sd_app
          · rfl
          · walk_at "ev"
          · rw [List.length_map]
            omega
        · rw [← mapapD]
          rfl
    · refine ⟨f, ⟨by omega, b1⟩, ?_⟩
      apply tn
      · walk_at "ev"
      · apply sd_goN
        walk_at "asg"
        refine sd_ifF (et_is (by walk_at "ev") (dfa c)) ?_
        exact sd_next
      · rfl
  · intro f hf
    rw [rg_len0] at hf
    exact se_of (sd_frz (i := 4) rfl (sd_ret (ev_var rfl))) ⟨f, rfl, by omega, hf.2⟩
end
end
end
section
set_option exponentiation.threshold 5000
section
open PySem L2
section
variable {P : Program} {w : World} {K : PySem.W.Frag} {mg : Str → Option Value} {base : Heap}
theorem cLR : cp (Str.ofString "LR") = [76, 82] := by decide +kernel
theorem at_LR {x : Int} (h : x = 0 ∨ x = 1) : atI (Str.ofString "LR").cps.toList x = some (if x = 1 then 82 else 76) := by
  have e : (Str.ofString "LR").cps.toList = [76, 82] := cLR
  rw [e]
  rcases h with rfl | rfl <;> rfl
theorem lLR : (Str.ofString "LR").length ≤ 100000 := by decide +kernel
def Q_node_text (ds : List PyData) : Prop := ∃ d n, ds = [ND d n] ∧ 0 ≤ d ∧ d ≤ 100
def Z_node_text (ds : List PyData) (z : PyData) : Prop := ∀ d n, ds = [ND d n] → z = .str (wordF d n)
theorem inj_N {d n d' n' : Int} (e : [ND d n] = [ND d' n']) : d = d' ∧ n = n' := by
  injection e with e1 _
  have e4 := PyData.tuple.inj e1
  injection e4 with e5 e6
  injection e6 with e6 _
  exact ⟨PyData.int.inj e5, PyData.int.inj e6⟩
theorem one_len (c : Nat) : (⟨#[c]⟩ : Str).length = 1 := rfl
theorem sum_ones {α : Type} (c : α → Nat) (xs : List α) : ((xs.map fun x => (⟨#[c x]⟩ : Str)).map (·.length)).sum = xs.length := by
  induction xs with
  | nil => rfl
  | cons x xs ih =>
    rw [List.map_cons, List.map_cons, List.sum_cons, ih, List.length_cons, one_len]
    omega
theorem join_len {d n : Int} (h1 : 0 ≤ d) (h2 : d ≤ 100) : (((rgI 0 d).map fun s => (⟨#[sgn d n s]⟩ : Str)).map (·.length)).sum + ((rgI 0 d).map fun s => (⟨#[sgn d n s]⟩ : Str)).length * (Str.ofString "").length ≤ 100000 := by
  rw [sum_ones]
  have e : (Str.ofString "").length = 0 := by decide +kernel
  rw [e, rg_len0]
  omega
abbrev F_node_text (P : Program) (w : World) (K : PySem.W.Frag) (mg : Str → Option Value) (base : Heap) : Prop := Fn P w K mg base "node_text" 1 ["node"] Q_node_text Z_node_text
theorem ok_node_text (B : Bt w K mg) (D : Df K mg "node_text" "node_text" s_node_text)  : F_node_text P w K mg base := by
  refine mk_fn D sc_node_text (fun _ _ _ _ _ _ us hl => match us, hl with | [_], _ => rfl) ⟨_, fun cdv A outer s H E f hr =>
    (pss_cons (ps_asg (pv 0) (pg_tupK (n := 2) K rfl (pgs_cons (pg_name (i := 1) sc_node_text.nd rfl (Or.inr rfl)) (pgs_cons (pg_name (i := 2) sc_node_text.nd rfl (Or.inr rfl)) pgs_nil))))
    (pss_cons (ps_if (pt_cmpR op_eq (pv 1) pe_int (nomark _)) (pss_one (ps_ret pe_str)) pss_nil)
    (pss_one (ps_ret (pe_joinK K pe_str (pe_lc (own := [("step", 3)]) rfl sc_node_text.nd (pi_range1 (by rfl) B.range (pa_cons (pv 1) pa_nil)) (blkOk_by (own := [("step", 3)]) (N := n_node_text) (sc := defScope s_node_text) (by decide +kernel)) (fun _ _ _ _ _ => (pg_name (i := 3) sc_node_text.nd rfl (Or.inl rfl))) (fun _ _ _ _ _ => pts_nil) (fun _ _ _ _ _ => (pe_ix ix_str pe_str (pe_op op_and (pe_op op_shr (pv 2) (pe_op op_sub (pe_op op_sub (pv 1) pe_int) (pv 3))) pe_int) (fun _ _ => rfl))))))))), ?_⟩
  rintro ds ⟨d, n, rfl, h1, h2⟩
  refine ⟨.str (wordF d n), fun d' n' e => ?_, .inl ?_⟩
  · obtain ⟨rfl, rfl⟩ := inj_N e
    rfl
  · show SD K _ [.dat (ND d n), .un, .un, .un] _
    walk_at "asg"
    by_cases c : d = 0
    · apply sd_seqR
      refine sd_ifT (et_is (by walk_at "ev") (dtr c)) ?_
      have e : wordF d n = Str.ofString "-" := if_pos c
      rw [e]
      walk_at "ret"
    · refine sd_seq (sd_ifF (et_is (by walk_at "ev") (dfa c)) sd_next) ?_
      have e : wordF d n = mk ((rgI 0 d).map (sgn d n)) := if_neg c
      rw [e, ← join_mk]
      apply sd_ret
      apply ev_join
      · walk_at "ev"
      · apply ev_new
        apply evn_is
        · apply evn_lcM (f := fun s => PyData.str ⟨#[sgn d n s]⟩)
          · apply it_rng1
            · walk_at "ev"
            · omega
          · rw [rg_len0]
            omega
          · intro s hs
            have := mem_rgI hs
            refine ⟨_, _, gd_name, by walk_at "sc", ?_⟩
            apply ev_op (b := .int (Builtin.bitAnd (n / 2 ^ (d - 1 - s).toNat) 1))
            · walk_at "ev"
            · walk_at "ev"
            · apply rd_ixS lLR
              rw [PyProof.Rows.bitAnd_m1]
              exact at_LR (by omega)
        · rw [List.map_map]
          rfl
      · exact join_len h1 h2
abbrev Q_law_word := Q_node_text
abbrev Z_law_word := Z_node_text
abbrev F_law_word (P : Program) (w : World) (K : PySem.W.Frag) (mg : Str → Option Value) (base : Heap) : Prop := Fn P w K mg base "_law_word" 1 ["_law_node_here"] Q_law_word Z_law_word
theorem ok_law_word (B : Bt w K mg) (D : Df K mg "_law_word" "_law_word" s_law_word)  : F_law_word P w K mg base := by
  refine mk_fn D sc_law_word (fun _ _ _ _ _ _ us hl => match us, hl with | [_], _ => rfl) ⟨_, fun cdv A outer s H E f hr =>
    (pss_cons (ps_if (pt_cmpR op_eq (pe_ix (ix_tupK K) (pv 0) pe_int (fun _ _ => rfl)) pe_int (nomark _)) (pss_one (ps_ret pe_str)) pss_nil)
    (pss_one (ps_ret (pe_joinK K pe_str (pe_lc (own := [("_law_step", 1)]) rfl sc_law_word.nd (pi_range1 (by rfl) B.range (pa_cons (pe_ix (ix_tupK K) (pv 0) pe_int (fun _ _ => rfl)) pa_nil)) (blkOk_by (own := [("_law_step", 1)]) (N := n_law_word) (sc := defScope s_law_word) (by decide +kernel)) (fun _ _ _ _ _ => (pg_name (i := 1) sc_law_word.nd rfl (Or.inl rfl))) (fun _ _ _ _ _ => pts_nil) (fun _ _ _ _ _ => (pe_ix ix_str pe_str (pe_op op_mod (pe_op op_shr (pe_ix (ix_tupK K) (pv 0) pe_int (fun _ _ => rfl)) (pe_op op_sub (pe_op op_sub (pe_ix (ix_tupK K) (pv 0) pe_int (fun _ _ => rfl)) pe_int) (pv 1))) pe_int) (fun _ _ => rfl)))))))), ?_⟩
  rintro ds ⟨d, n, rfl, h1, h2⟩
  refine ⟨.str (wordF d n), fun d' n' e => ?_, .inl ?_⟩
  · obtain ⟨rfl, rfl⟩ := inj_N e
    rfl
  · show SD K _ [.dat (ND d n), .un] _
    have i0 : atI [PyData.int d, .int n] 0 = some (.int d) := rfl
    have i1 : atI [PyData.int d, .int n] 1 = some (.int n) := rfl
    by_cases c : d = 0
    · apply sd_seqR
      refine sd_ifT (et_is (et_test (ev_op (ev_op (ev_var rfl) ev_int (rd_ixT i0)) ev_int rd_eqI)) (dtr c)) ?_
      have e : wordF d n = Str.ofString "-" := if_pos c
      rw [e]
      walk_at "ret"
    · refine sd_seq (sd_ifF (et_is (et_test (ev_op (ev_op (ev_var rfl) ev_int (rd_ixT i0)) ev_int rd_eqI)) (dfa c)) sd_next) ?_
      have e : wordF d n = mk ((rgI 0 d).map (sgn d n)) := if_neg c
      rw [e, ← join_mk]
      apply sd_ret
      apply ev_join
      · walk_at "ev"
      · apply ev_new
        apply evn_is
        · apply evn_lcM (f := fun s => PyData.str ⟨#[sgn d n s]⟩)
          · apply it_rng1
            · apply ea_cons
              · exact ev_op (ev_var rfl) ev_int (rd_ixT i0)
              · walk_at "ev"
            · omega
          · rw [rg_len0]
            omega
          · intro s hs
            have := mem_rgI hs
            refine ⟨_, _, gd_name, by walk_at "sc", ?_⟩
            apply ev_op (b := .int (n / 2 ^ (d - 1 - s).toNat % 2))
            · walk_at "ev"
            · apply ev_op (a := .int (n / 2 ^ (d - 1 - s).toNat))
              · apply ev_op (a := .int n) (b := .int (d - 1 - s))
                · exact ev_op (ev_var rfl) ev_int (rd_ixT i1)
                · apply ev_op (a := .int (d - 1))
                  · apply ev_op (a := .int d)
                    · exact ev_op (ev_var rfl) ev_int (rd_ixT i0)
                    · walk_at "ev"
                    · walk_at "ev"
                  · walk_at "ev"
                  · walk_at "ev"
                · walk_at "ev"
              · walk_at "ev"
              · walk_at "ev"
            · apply rd_ixS lLR
              exact at_LR (by omega)
        · rw [List.map_map]
          rfl
      · exact join_len h1 h2
def Q_show_node (ds : List PyData) : Prop := ∃ d n, ds = [ND d n] ∧ 0 ≤ d ∧ d < 100 ∧ 0 ≤ n ∧ n < 2 ^ d.toNat
abbrev Z_show_node := Z_node_text
abbrev F_show_node (P : Program) (w : World) (K : PySem.W.Frag) (mg : Str → Option Value) (base : Heap) : Prop := Fn P w K mg base "show_node" 5 ["node"] Q_show_node Z_show_node
theorem ok_show_node (B : Bt w K mg) (D : Df K mg "show_node" "show_node" s_show_node) (h_require_node : F_require_node P w K mg base) (h_node_text : F_node_text P w K mg base) : F_show_node P w K mg base := by
  obtain ⟨f_require_node, p_require_node, C_require_node⟩ := h_require_node
  obtain ⟨f_node_text, p_node_text, C_node_text⟩ := h_node_text
  refine mk_fn D sc_show_node (fun _ _ _ _ _ _ us hl => match us, hl with | [_], _ => rfl) ⟨_, fun cdv A outer s H E f hr =>
    (pss_cons (ps_expr (pe_callC C_require_node hr (by rfl) (pa_cons (pe_glob (by rfl) B.c_MOST_HEIGHT B.r_MOST_HEIGHT) (pa_cons (pv 0) pa_nil))))
    (pss_one (ps_ret (pe_callC C_node_text hr (by rfl) (pa_cons (pv 0) pa_nil))))), ?_⟩
  rintro ds ⟨d, n, rfl, h1, h2, h3, h4⟩
  apply rt_se
  show SE K _ [.dat (ND d n)] _
  obtain ⟨_, rfl, c1⟩ := use_fn (K := K) p_require_node [.int 100, ND d n] ⟨_, _, _, rfl, h1, h2, by omega, h3, h4⟩
  obtain ⟨z, hz, c2⟩ := use_fn (K := K) p_node_text [ND d n] ⟨_, _, rfl, h1, by omega⟩
  walk_at "drop"
  refine se_ret ?_ hz
  walk_at "ev"
theorem c_R (c : Nat) : decide ((⟨#[c]⟩ : Str) = Str.ofString "R") = decide (c = 82) := by
  have e : Str.ofString "R" = ⟨#[82]⟩ := by decide +kernel
  rw [e]
  by_cases h : c = 82
  · rw [h]
    rfl
  · rw [dfa h]
    apply dfa
    intro z
    have := congrArg cp z
    exact h (List.cons.inj this).1
theorem all_true {α : Type} {xs : List α} {f : α → Bool} (h : ∀ x ∈ xs, f x = true) : (xs.map f).all id = true := by
  rw [List.all_map]
  exact List.all_eq_true.mpr h
def Q_node_in (ds : List PyData) : Prop := ∃ d n, ds = [.str (wordF d n)] ∧ 0 ≤ d ∧ d < 100 ∧ 0 ≤ n ∧ n < 2 ^ d.toNat
def Z_node_in (ds : List PyData) (z : PyData) : Prop := ∀ w, ds = [.str w] → z = nodeF w
abbrev F_node_in (P : Program) (w : World) (K : PySem.W.Frag) (mg : Str → Option Value) (base : Heap) : Prop := Fn P w K mg base "node_in" 1 ["word"] Q_node_in Z_node_in
theorem ok_node_in (B : Bt w K mg) (D : Df K mg "node_in" "node_in" s_node_in)  : F_node_in P w K mg base := by
  refine mk_fn D sc_node_in (fun _ _ _ _ _ _ us hl => match us, hl with | [_], _ => rfl) ⟨_, fun cdv A outer s H E f hr =>
    (pss_cons (ps_if (pt_cmpR op_eq (pv 0) pe_str (nomark _)) (pss_one (ps_ret (pe_tup (pa_cons pe_int (pa_cons pe_int pa_nil))))) pss_nil)
    (pss_cons (ps_if (PW.pt (pw_or (pt_cmpR op_eq (pv 0) pe_str (nomark _)) (pw_or (pt_cmpR op_ge (pe_callB (call_lenK K) (by rfl) B.len (by decide +kernel) (pa_cons (pv 0) pa_nil)) (pe_glob (by rfl) B.c_MOST_HEIGHT B.r_MOST_HEIGHT) (nomark _)) (pw_or1 (pt_not (pt_val (pe_callB (cr_allK K rfl) (by rfl) B.all (by decide +kernel) (pa_cons (pe_lc (own := [("sign", 2)]) rfl sc_node_in.nd (pi_str (pv 0)) (blkOk_by (own := [("sign", 2)]) (N := n_node_in) (sc := defScope s_node_in) (by decide +kernel)) (fun _ _ _ _ _ => (pg_name (i := 2) sc_node_in.nd rfl (Or.inl rfl))) (fun _ _ _ _ _ => pts_nil) (fun _ _ _ _ _ => (pe_cmpR op_in_sign (pv 2) pe_str rfl))) pa_nil)))))))) (pss_one (ps_ret pe_non)) pss_nil)
    (pss_cons (ps_set (i := 1) sc_node_in.nd rfl (Or.inl rfl) pe_int)
    (pss_cons (ps_for PassesOwn.never rfl (pi_str (pv 0)) (pg_name (i := 2) sc_node_in.nd rfl (Or.inl rfl)) (pss_one (ps_set (i := 1) sc_node_in.nd rfl (Or.inl rfl) (pe_op op_add (pe_op op_mulW pe_int (pv 1)) (pe_callTy call_int1 (by rfl) B.int (by decide +kernel) (pa_cons (pe_cmpR op_eq (pv 2) pe_str (nomark _)) pa_nil))))))
    (pss_one (ps_ret (pe_tup (pa_cons (pe_callB (call_lenK K) (by rfl) B.len (by decide +kernel) (pa_cons (pv 0) pa_nil)) (pa_cons (pv 1) pa_nil))))))))), ?_⟩
  rintro ds ⟨d, n, rfl, h1, h2, h3, h4⟩
  refine ⟨nodeF (wordF d n), fun w' e => ?_, .inl ?_⟩
  · injection e with e _
    rw [PyData.str.inj e]
  · show SD K _ [.dat (.str (wordF d n)), .un, .un] _
    by_cases c : d = 0
    · have e : wordF d n = Str.ofString "-" := if_pos c
      have e2 : nodeF (wordF d n) = .tuple [.int 0, .int 0] := if_pos e
      rw [e2]
      apply sd_seqR
      refine sd_ifT (et_is (by walk_at "ev") (dtr e)) ?_
      walk_at "ret"
    · have ne := wordF_ne (n := n) h1 c
      have hl := wordF_len (n := n) h1 c
      have hcp := wordF_cp (n := n) c
      have e2 : nodeF (wordF d n) = .tuple [.int ((wordF d n).length : Int), .int ((cp (wordF d n)).foldl decF 0)] := if_neg ne
      rw [e2]
      have hin : ∀ x ∈ cp (wordF d n), x = 76 ∨ x = 82 := fun x hx => by
        rw [hcp] at hx
        obtain ⟨s, _, rfl⟩ := List.mem_map.mp hx
        unfold sgn
        split
        · exact .inr rfl
        · exact .inl rfl
      have hlc := len_cp (wordF d n)
      generalize wordF d n = w at *
      have hne : ¬ w = Str.ofString "" := fun z => by
        have : (Str.ofString "").length = 0 := by decide +kernel
        rw [z, this] at hl
        omega
      have hlw : w.length ≤ 100000 := by omega
      refine sd_seq (sd_ifF (et_is (by walk_at "ev") (dfa ne)) sd_next) ?_
      refine sd_seq (sd_ifF (et_orF (et_is (by walk_at "ev") (dfa hne)) (et_orF (et_is (by walk_at "ev") (dfa (by omega))) (et_notT (et_B ?_)))) sd_next) ?_
      · apply ev_is
        · apply ev_cb
          · apply ea_cons (d := .list (((cp w).map fun c => decide (c ∈ (Str.ofString "LR").cps.toList)).map .bool))
            · apply ev_new
              rw [List.map_map]
              apply evn_lcM (e := fun c => PyData.str ⟨#[c]⟩) (xs := cp w)
              · apply it_str
                walk_at "ev"
              · omega
              · intro x hx
                refine ⟨_, _, gd_name, by walk_at "sc", ?_⟩
                apply ev_op (ev_var rfl) ev_str
                exact rd_inS
            · walk_at "ev"
          · exact rc_all
        · congr 1
          apply all_true
          intro x hx
          apply dtr
          have e : (Str.ofString "LR").cps.toList = [76, 82] := cLR
          rw [e]
          rcases hin x hx with rfl | rfl
          · exact List.mem_cons_self
          · exact List.mem_cons_of_mem _ List.mem_cons_self
      walk_at "asg"
      refine sd_fold [2] (fun s : Int => [.dat (.str w), .dat (.int s), .un]) (fun c => PyData.str ⟨#[c]⟩) decF (fun i s => 0 ≤ s ∧ s < 2 ^ i) (cp w) 0 rfl ⟨Int.le_refl 0, (by decide : (0 : Int) < 2 ^ 0)⟩ (it_str (by walk_at "ev")) ?_ fun _ => ?_
      · intro j x s hj hx hs
        have h3 : s.natAbs < 2 ^ 200 := nab_lt hs.1 (Int.lt_of_lt_of_le hs.2 (pow_le (by omega)))
        have hm : CMulW 2 s := mul_ok (a := 2) (by decide) h3
        have e2 := p2succ j
        refine ⟨?_, ?_⟩
        · unfold decF
          split <;> omega
        · apply tn
          · walk_at "ev"
          · apply sd_goN
            apply sd_asg (d := .int (decF s x))
            · refine ev_is (d := PyData.int (2 * s + (if decide ((⟨#[x]⟩ : Str) = Str.ofString "R") = true then 1 else 0))) ?_ ?_
              · apply ev_op
                · walk_at "ev"
                · apply ev_cb
                  · apply ea_cons
                    · walk_at "ev"
                    · walk_at "ev"
                  · exact rc_intB
                · walk_at "ev"
              · rw [c_R]
                unfold decF
                by_cases hx : x = 82
                · rw [dtr hx, if_pos rfl, if_pos hx]
                · rw [dfa hx, if_neg Bool.false_ne_true, if_neg hx]
            · walk_at "ev"
          · rfl
      · walk_at "ret"
def numF (w : Str) : PyData := .int ((intText? w).getD 0)
theorem numF_tx {n : Int} (h : 0 ≤ n) (h1 : n < 10 ^ 100) : numF (tx n) = .int n := by
  unfold numF
  rw [tx_int h h1]
  rfl
def Q_number_in (ds : List PyData) : Prop := ∃ n, ds = [.str (tx n)] ∧ 0 ≤ n ∧ n < 10 ^ 100
def Z_number_in (ds : List PyData) (z : PyData) : Prop := ∀ w, ds = [.str w] → z = numF w
abbrev F_number_in (P : Program) (w : World) (K : PySem.W.Frag) (mg : Str → Option Value) (base : Heap) : Prop := Fn P w K mg base "number_in" 1 ["word"] Q_number_in Z_number_in
theorem ok_number_in (B : Bt w K mg) (D : Df K mg "number_in" "number_in" s_number_in)  : F_number_in P w K mg base := by
  refine mk_fn D sc_number_in (fun _ _ _ _ _ _ us hl => match us, hl with | [_], _ => rfl) ⟨_, fun cdv A outer s H E f hr =>
    (pss_cons (ps_set (i := 1) sc_number_in.nd rfl (Or.inl rfl) (pe_ifExp (pt_cmpR op_eq (pe_slice sl_str (pv 0) po_none (po_some pe_int)) pe_str (nomark _)) (pe_slice sl_str (pv 0) (po_some pe_int) po_none) (pv 0)))
    (pss_cons (ps_if (PW.pt (pw_or (pt_cmpR op_eq (pv 1) pe_str (nomark _)) (pw_or (pt_cmpR op_gt (pe_callB (call_lenK K) (by rfl) B.len (by decide +kernel) (pa_cons (pv 1) pa_nil)) (pe_glob (by rfl) B.c_MOST_DIGITS B.r_MOST_DIGITS) (nomark _)) (pw_or1 (pt_not (pt_val (pe_callB (cr_allK K rfl) (by rfl) B.all (by decide +kernel) (pa_cons (pe_lc (own := [("sign", 2)]) rfl sc_number_in.nd (pi_str (pv 1)) (blkOk_by (own := [("sign", 2)]) (N := n_number_in) (sc := defScope s_number_in) (by decide +kernel)) (fun _ _ _ _ _ => (pg_name (i := 2) sc_number_in.nd rfl (Or.inl rfl))) (fun _ _ _ _ _ => pts_nil) (fun _ _ _ _ _ => (pe_cmpR op_in_sign (pv 2) pe_str rfl))) pa_nil)))))))) (pss_one (ps_ret pe_non)) pss_nil)
    (pss_cons (ps_if (PW.pt (pw_and (pt_cmpR op_eq (pe_ix ix_str (pv 1) pe_int (fun _ _ => rfl)) pe_str (nomark _)) (pw_and1 (pt_cmpR op_ne (pv 0) pe_str (nomark _))))) (pss_one (ps_ret pe_non)) pss_nil)
    (pss_one (ps_ret (pe_ifExp (pt_cmpR op_eq (pe_slice sl_str (pv 0) po_none (po_some pe_int)) pe_str (nomark _)) (pe_un un_neg (pe_callTy call_int_str (by rfl) B.int (by decide +kernel) (pa_cons (pv 1) pa_nil))) (pe_callTy call_int_str (by rfl) B.int (by decide +kernel) (pa_cons (pv 1) pa_nil)))))))), ?_⟩
  rintro ds ⟨n, rfl, h1, h2⟩
  refine ⟨numF (tx n), fun w' e => ?_, .inl ?_⟩
  · injection e with e _
    rw [PyData.str.inj e]
  · show SD K _ [.dat (.str (tx n)), .un, .un] _
    rw [numF_tx h1 h2]
    have hd := tx_dig h1
    have hl := tx_len h1 h2
    have hi := tx_int h1 h2
    obtain ⟨c, r, ec, hc, h0⟩ := tx_head h1
    have hlc := len_cp (tx n)
    have ez : c = 48 → tx n = Str.ofString "0" := fun z => by rw [h0 z]; exact tx_zero
    generalize tx n = w at *
    have hne : ¬ w = Str.ofString "" := fun z => by
      have : cp (Str.ofString "") = [] := by decide +kernel
      rw [z, this] at ec
      cases ec
    have hlw : w.length ≤ 100000 := by omega
    have h640 : w.length ≤ 640 := by omega
    have hcut : ¬ cutS w none (some 1) = Str.ofString "-" := fun z => by
      have e1 := congrArg cp z
      have e2 : cp (cutS w none (some 1)) = (cp w).take (HT.sIx w.length w.length (some 1) - 0) := rfl
      have e3 : cp (Str.ofString "-") = [45] := by decide +kernel
      rw [e2, e3, ec] at e1
      have e4 : HT.sIx w.length w.length (some 1) - 0 = 1 := by
        have q := HT.sIx_nat w.length w.length 1
        have : 1 ≤ w.length := by
          rw [hlc, ec]
          exact Nat.succ_le_succ (Nat.zero_le _)
        rw [Nat.min_eq_left this] at q
        exact q
      rw [e4] at e1
      have e5 := (List.cons.inj e1).1
      omega
    apply sd_seq (r1 := [.dat (.str w), .dat (.str w), .un])
    · apply sd_asg (d := .str w)
      · refine ev_ifF (et_is (by walk_at "ev") (dfa hcut)) ?_
        walk_at "ev"
      · walk_at "ev"
    refine sd_seq (sd_ifF (et_orF (et_is (by walk_at "ev") (dfa hne)) (et_orF (et_is (by walk_at "ev") (dfa (by omega))) (et_notT (et_B ?_)))) sd_next) ?_
    · apply ev_is
      · apply ev_cb
        · apply ea_cons (d := .list (((cp w).map fun c => decide (c ∈ (Str.ofString "0123456789").cps.toList)).map .bool))
          · apply ev_new
            rw [List.map_map]
            apply evn_lcM (e := fun c => PyData.str ⟨#[c]⟩) (xs := cp w)
            · apply it_str
              walk_at "ev"
            · omega
            · intro x hx
              refine ⟨_, _, gd_name, by walk_at "sc", ?_⟩
              apply ev_op (ev_var rfl) ev_str
              exact rd_inS
          · walk_at "ev"
        · exact rc_all
      · congr 1
        apply all_true
        intro x hx
        apply dtr
        have e : (Str.ofString "0123456789").cps.toList = [48, 49, 50, 51, 52, 53, 54, 55, 56, 57] := by decide +kernel
        rw [e]
        have q := hd x hx
        have : ∀ y : Nat, y < 58 → 48 ≤ y → y ∈ [48, 49, 50, 51, 52, 53, 54, 55, 56, 57] := by decide
        exact this x (by omega) q.1
    have at0 : atI w.cps.toList 0 = some c := by
      show atI (cp w) 0 = some c
      rw [ec]
      unfold atI
      rw [ixN_in (by decide) (by rw [List.length_cons]; omega)]
      rfl
    have e48 : Str.ofString "0" = ⟨#[48]⟩ := by decide +kernel
    have ho : decide ((⟨#[c]⟩ : Str) = Str.ofString "0") = decide (c = 48) := by
      rw [e48]
      by_cases h : c = 48
      · rw [h]
        rfl
      · rw [dfa h]
        apply dfa
        intro z
        have := congrArg cp z
        exact h (List.cons.inj this).1
    have tfirst : EvT K (tTest (tOp rEq (tOp rIxS (tVar 1) (tC (.int 0))) (tC (.str (Str.ofString "0"))))) [.dat (.str w), .dat (.str w), .un] (decide (c = 48)) := by
      apply et_is
      · apply et_test
        apply ev_op
        · apply ev_op
          · walk_at "ev"
          · walk_at "ev"
          · exact rd_ixS hlw at0
        · walk_at "ev"
        · exact rd_eqS
      · exact ho
    have hret : SD K (tRet (tIf (tTest (tOp rEq (tSl rSlS (tVar 0) tNoPart (tPart (tC (.int 1)))) (tC (.str (Str.ofString "-"))))) (tUn (rU fun i => .int (-i)) (tCB (fun xs H Q => ∃ a n, xs = [.str a] ∧ PySem.intText? a = some n ∧ a.length ≤ 640 ∧ Q (.int n) H) (tCons (tVar 1) tNil))) (tCB (fun xs H Q => ∃ a n, xs = [.str a] ∧ PySem.intText? a = some n ∧ a.length ≤ 640 ∧ Q (.int n) H) (tCons (tVar 1) tNil)))) [.dat (.str w), .dat (.str w), .un] (.rt (.int n)) := by
      apply sd_ret
      refine ev_ifF (et_is (by walk_at "ev") (dfa hcut)) ?_
      apply ev_cb
      · walk_at "ev"
      · exact rc_intS hi h640
    by_cases c0 : c = 48
    · refine sd_seq (sd_ifF (et_andT (et_is tfirst (dtr c0)) (et_is (by walk_at "ev") (not_tr (dtr (ez c0))))) sd_next) ?_
      exact hret
    · refine sd_seq (sd_ifF (et_andF (et_is tfirst (dfa c0))) sd_next) ?_
      exact hret
def valF (f w : Str) : PyData := if f = Str.ofString "K" then .str w else if f = Str.ofString "N" then numF w else nodeF w
def ArgOk (f w : Str) : Prop := (f = Str.ofString "K" ∧ w ∈ kinds) ∨ (f = Str.ofString "N" ∧ ∃ n, w = tx n ∧ 0 ≤ n ∧ n < 10 ^ 100) ∨ (f = Str.ofString "W" ∧ ∃ d n, w = wordF d n ∧ 0 ≤ d ∧ d < 100 ∧ 0 ≤ n ∧ n < 2 ^ d.toNat)
theorem kinds_ok : ∀ k ∈ kinds, ¬ k = Str.ofString "" ∧ 10 ∉ k.cps.toList := by decide +kernel
theorem ev_nl {r : List QV} : Ev K (tC (.str (Str.ofString "\n"))) r (.str ⟨#[10]⟩) := by
  have e : Str.ofString "\n" = ⟨#[10]⟩ := by decide +kernel
  rw [e]
  exact ev_str
def Q_value_in (ds : List PyData) : Prop := ∃ f w, ds = [.str f, .str w] ∧ ArgOk f w
def Z_value_in (ds : List PyData) (z : PyData) : Prop := ∀ f w, ds = [.str f, .str w] → z = valF f w
abbrev F_value_in (P : Program) (w : World) (K : PySem.W.Frag) (mg : Str → Option Value) (base : Heap) : Prop := Fn P w K mg base "value_in" 2 ["form", "word"] Q_value_in Z_value_in
theorem ok_value_in (B : Bt w K mg) (D : Df K mg "value_in" "value_in" s_value_in) (h_number_in : F_number_in P w K mg base) (h_node_in : F_node_in P w K mg base) : F_value_in P w K mg base := by
  obtain ⟨f_number_in, p_number_in, C_number_in⟩ := h_number_in
  obtain ⟨f_node_in, p_node_in, C_node_in⟩ := h_node_in
  refine mk_fn D sc_value_in (fun _ _ _ _ _ _ us hl => match us, hl with | [_, _], _ => rfl) ⟨_, fun cdv A outer s H E f hr =>
    (pss_cons (ps_if (pt_cmpR op_eq (pv 0) pe_str (nomark _)) (pss_one (ps_ret (pe_ifExp (PW.pt (pw_or (pt_cmpR op_eq (pv 1) pe_str (nomark _)) (pw_or1 (pt_cmpR op_in_sign pe_str (pv 1) rfl)))) pe_non (pv 1)))) pss_nil)
    (pss_one (ps_ret (pe_ifExp (pt_cmpR op_eq (pv 0) pe_str (nomark _)) (pe_callC C_number_in hr (by rfl) (pa_cons (pv 1) pa_nil)) (pe_callC C_node_in hr (by rfl) (pa_cons (pv 1) pa_nil)))))), ?_⟩
  rintro ds ⟨f, w, rfl, ho⟩
  refine ⟨valF f w, fun f' w' e => ?_, .inl ?_⟩
  · injection e with e1 e2
    injection e2 with e2 _
    rw [PyData.str.inj e1, PyData.str.inj e2]
  · show SD K _ [.dat (.str f), .dat (.str w)] _
    have nNK : ¬ Str.ofString "N" = Str.ofString "K" := by decide +kernel
    have nWK : ¬ Str.ofString "W" = Str.ofString "K" := by decide +kernel
    have nWN : ¬ Str.ofString "W" = Str.ofString "N" := by decide +kernel
    rcases ho with ⟨rfl, hk⟩ | ⟨rfl, n, rfl, h1, h2⟩ | ⟨rfl, d, n, rfl, h1, h2, h3, h4⟩
    · have e : valF (Str.ofString "K") w = .str w := if_pos rfl
      rw [e]
      have q := kinds_ok w hk
      apply sd_seqR
      refine sd_ifT (et_is (by walk_at "ev") (dtr rfl)) ?_
      apply sd_ret
      refine ev_ifF (et_orF (et_is (by walk_at "ev") (dfa q.1)) (et_is (et_test (ev_op ev_nl (ev_var rfl) rd_inS)) (dfa q.2))) ?_
      walk_at "ev"
    · have e : valF (Str.ofString "N") (tx n) = numF (tx n) := (if_neg nNK).trans (if_pos rfl)
      rw [e]
      obtain ⟨_, q, c1⟩ := use_fn (K := K) p_number_in [.str (tx n)] ⟨_, rfl, h1, h2⟩
      obtain rfl := q _ rfl
      refine sd_seq (sd_ifF (et_is (by walk_at "ev") (dfa nNK)) sd_next) ?_
      apply sd_ret
      refine ev_ifT (et_is (by walk_at "ev") (dtr rfl)) ?_
      walk_at "ev"
    · have e : valF (Str.ofString "W") (wordF d n) = nodeF (wordF d n) := (if_neg nWK).trans (if_neg nWN)
      rw [e]
      obtain ⟨_, q, c1⟩ := use_fn (K := K) p_node_in [.str (wordF d n)] ⟨_, _, rfl, h1, h2, h3, h4⟩
      obtain rfl := q _ rfl
      refine sd_seq (sd_ifF (et_is (by walk_at "ev") (dfa nWK)) sd_next) ?_
      apply sd_ret
      refine ev_ifF (et_is (by walk_at "ev") (dfa nWN)) ?_
      walk_at "ev"
def formD (c : Nat) : PyData := .str ⟨#[c]⟩
def cwD (p : Nat × Str) : PyData := .tuple [.str ⟨#[p.1]⟩, .str p.2]
def cwV (p : Nat × Str) : PyData := valF ⟨#[p.1]⟩ p.2
theorem zpD_cw : ∀ (cs : List Nat) (ws : List Str), zpD (cs.map fun c => .str ⟨#[c]⟩) (ws.map .str) = (cs.zip ws).map cwD
  | [], [] => rfl
  | [], _ :: _ => rfl
  | _ :: _, [] => rfl
  | c :: cs, w :: ws => by
    show PyData.tuple [.str ⟨#[c]⟩, .str w] :: zpD (cs.map fun c => .str ⟨#[c]⟩) (ws.map .str) = _
    rw [zpD_cw cs ws]
    rfl
def valsF (f : Str) (ws : List Str) : List PyData := ((cp f).zip ws).map cwV
def ArgsOk (f : Str) (ws : List Str) : Prop := (cp f).length = ws.length ∧ ∀ p ∈ (cp f).zip ws, ArgOk ⟨#[p.1]⟩ p.2
def formOf (h : Str) : Str := (formsT.lookup h).getD (Str.ofString "")
theorem form_of : ∀ p ∈ formsT, formOf p.1 = p.2 := by decide +kernel
def Q_values_behind (ds : List PyData) : Prop := ∃ h f ws, ds = [.list ((h :: ws).map .str)] ∧ (h, f) ∈ formsT ∧ ArgsOk f ws
def Z_values_behind (ds : List PyData) (z : PyData) : Prop := ∀ h ws, ds = [.list ((h :: ws).map .str)] → z = .list (valsF (formOf h) ws)
def plainV : PyData → Bool
  | .str x => PyData.strOk x
  | .int _ => true
  | .tuple [.int _, .int _] => true
  | _ => false
theorem kinds_asc : ∀ k ∈ kinds, PyData.strOk k = true := by decide +kernel
theorem val_plain {f w : Str} (h : ArgOk f w) : plainV (valF f w) = true := by
  have nNK : ¬ Str.ofString "N" = Str.ofString "K" := by decide +kernel
  have nWK : ¬ Str.ofString "W" = Str.ofString "K" := by decide +kernel
  have nWN : ¬ Str.ofString "W" = Str.ofString "N" := by decide +kernel
  rcases h with ⟨rfl, hk⟩ | ⟨rfl, n, rfl, h1, h2⟩ | ⟨rfl, d, n, rfl, h1, h2, h3, h4⟩
  · have e : valF (Str.ofString "K") w = .str w := if_pos rfl
    rw [e]
    exact kinds_asc w hk
  · have e : valF (Str.ofString "N") (tx n) = numF (tx n) := (if_neg nNK).trans (if_pos rfl)
    rw [e, numF_tx h1 h2]
    rfl
  · have e : valF (Str.ofString "W") (wordF d n) = nodeF (wordF d n) := (if_neg nWK).trans (if_neg nWN)
    rw [e, nodeF_wordF h1 h3 h4]
    rfl
theorem plain_shaped : ∀ {ds : List PyData}, (∀ d ∈ ds, plainV d = true) → PyData.canLayAll0 ds = true ∧ PyData.depthAll ds ≤ 1 ∧ ds.any (fun z => PyData.eqv z .none) = false
  | [], _ => ⟨rfl, Nat.zero_le _, rfl⟩
  | d :: ds, h => by
    obtain ⟨a, b, c⟩ := plain_shaped (ds := ds) fun e he => h e (List.mem_cons_of_mem _ he)
    have hd := h d List.mem_cons_self
    have key : d.canLay0 = true ∧ d.depth ≤ 1 ∧ PyData.eqv d .none = false := by
      unfold plainV at hd
      split at hd
      · exact ⟨hd, Nat.zero_le _, rfl⟩
      · exact ⟨rfl, Nat.zero_le _, rfl⟩
      · exact ⟨rfl, Nat.le_refl _, rfl⟩
      · cases hd
    refine ⟨?_, ?_, ?_⟩
    · show (d.canLay0 && PyData.canLayAll0 ds) = true
      rw [key.1, a]
      rfl
    · show max d.depth (PyData.depthAll ds) ≤ 1
      have := key.2.1
      omega
    · rw [List.any_cons, key.2.2, c]
      rfl
abbrev F_values_behind (P : Program) (w : World) (K : PySem.W.Frag) (mg : Str → Option Value) (base : Heap) : Prop := Fn P w K mg base "values_behind" 3 ["words"] Q_values_behind Z_values_behind
theorem ok_values_behind (B : Bt w K mg) (D : Df K mg "values_behind" "values_behind" s_values_behind) (h_value_in : F_value_in P w K mg base) : F_values_behind P w K mg base := by
  obtain ⟨f_value_in, p_value_in, C_value_in⟩ := h_value_in
  refine mk_fn D sc_values_behind (fun _ _ _ _ _ _ us hl => match us, hl with | [_], _ => rfl) ⟨_, fun cdv A outer s H E f hr =>
    (pss_cons (ps_set (i := 1) sc_values_behind.nd rfl (Or.inl rfl) (pe_kgetK K B.D_FORMS (pe_glob (by rfl) B.c_FORMS B.r_FORMS) (pe_ix (ix_listK K) (pv 0) pe_int (fun _ _ => rfl)) ⟨rfl, rfl, rfl, rfl⟩))
    (pss_cons (ps_if (PW.pt (pw_or (pt_cmpR op_isN (pv 1) pe_non (nomark _)) (pw_or1 (pt_cmpR op_ne (pe_callB (call_lenK K) (by rfl) B.len (by decide +kernel) (pa_cons (pv 1) pa_nil)) (pe_op op_sub (pe_callB (call_lenK K) (by rfl) B.len (by decide +kernel) (pa_cons (pv 0) pa_nil)) pe_int) (nomark _))))) pss_never pss_nil)
    (pss_cons (ps_setLc (i := 2) (own := [("form", 3), ("word", 4)]) rfl sc_values_behind.nd rfl rfl (sw_true rfl rfl rfl (by decide +kernel)) (pi_zipGK K (by rfl) B.zip (pa_cons (pv 1) (pa_cons (pe_slice (sl_listK K) (pv 0) (po_some pe_int) po_none) pa_nil))) (blkOk_by (own := [("form", 3), ("word", 4)]) (N := n_values_behind) (sc := defScope s_values_behind) (by decide +kernel)) (fun _ _ _ _ _ => (pg_tupK (n := 2) K rfl (pgs_cons (pg_name (i := 3) sc_values_behind.nd rfl (Or.inl rfl)) (pgs_cons (pg_name (i := 4) sc_values_behind.nd rfl (Or.inl rfl)) pgs_nil)))) (fun _ _ _ _ _ => pts_nil) (fun _ _ _ _ _ => (pe_callC C_value_in hr (by rfl) (pa_cons (pv 3) (pa_cons (pv 4) pa_nil)))))
    (pss_cons (ps_if (pt_cmpR (op_inDK K (hu65 hr)) pe_non (pv 2) rfl) pss_never pss_nil)
    (pss_one (ps_ret (pv 2))))))), ?_⟩
  rintro ds ⟨h, f, ws, rfl, hf, hl, ha⟩
  have hfo := form_of _ hf
  dsimp only at hfo
  refine ⟨.list (valsF (formOf h) ws), fun h' ws' e => ?_, .inl ?_⟩
  · injection e with e _
    have e2 : (h :: ws).map PyData.str = (h' :: ws').map PyData.str := PyData.list.inj e
    have e3 := (List.map_inj_right (fun x y e => PyData.str.inj e)).mp e2
    injection e3 with e4 e5
    rw [e4, e5]
  · rw [hfo]
    show SD K _ [.dat (.list ((h :: ws).map .str)), .un, .un, .un, .un] _
    obtain ⟨u, hu, ru⟩ := B.g_FORMS _ hf
    have hfl : ∀ p ∈ formsT, p.2.length ≤ 10 := by decide +kernel
    have hfl := hfl _ hf
    have hfs : f.length ≤ 100000 := by dsimp only at hfl; omega
    have hlc := len_cp f
    have hat : atI ((h :: ws).map PyData.str) 0 = some (.str h) := by
      unfold atI
      rw [ixN_in (by decide) (by rw [List.length_map, List.length_cons]; omega)]
      rfl
    apply sd_seq (r1 := [.dat (.list ((h :: ws).map .str)), .dat (.str f), .un, .un, .un])
    · apply sd_asg
      · exact ev_kget (ev_op (ev_var rfl) ev_int (rd_ixL hat)) hu ru
      · walk_at "ev"
    refine sd_seq (sd_ifF (et_orF (by walk_at "ev") (et_is (et_test (ev_op (ev_cb (ea_cons (ev_var rfl) ea_nil) (rc_lenS hfs)) (ev_op (ev_cb (ea_cons (ev_var rfl) ea_nil) rc_lenL) ev_int rd_I0) rd_neI)) (not_tr (dtr ?_)))) sd_next) ?_
    · rw [List.length_map, List.length_cons]
      omega
    have hpl : ∀ d ∈ valsF f ws, plainV d = true := fun d hd => by
      obtain ⟨p, hp, rfl⟩ := List.mem_map.mp hd
      exact val_plain (ha p hp)
    have pk := plain_shaped hpl
    apply sd_seq (r1 := [.dat (.list ((h :: ws).map .str)), .dat (.str f), .dat (.list (valsF f ws)), .un, .un])
    · apply sd_asg (d := .list (valsF f ws))
      · apply ev_new
        apply evn_lcM (e := cwD) (f := cwV)
        · rw [← zpD_cw]
          apply it_zipG (SrcD.text f) (SrcD.list (ws.map .str))
          apply ea_cons
          · walk_at "ev"
          · apply ea_cons
            · apply ev_new
              apply evn_is
              · apply evn_slL
                · walk_at "ev"
                · walk_at "ev"
                · walk_at "ev"
              · rw [cut_lo _ (by decide) (by rw [List.length_map, List.length_cons]; omega)]
                rfl
            · walk_at "ev"
        · rw [List.length_zip]
          omega
        · intro p hp
          obtain ⟨_, q, c1⟩ := use_fn (K := K) p_value_in [.str ⟨#[p.1]⟩, .str p.2] ⟨_, _, rfl, ha p hp⟩
          obtain rfl := q _ _ rfl
          refine ⟨_, _, gd_tup (gds_cons gd_name (gds_cons gd_name gds_nil)) rfl, by walk_at "sc", ?_⟩
          show Ev K _ _ (valF ⟨#[p.1]⟩ p.2)
          walk_at "ev"
      · walk_at "ev"
    refine sd_seq (sd_ifF (et_is (et_test (ev_op ev_non (ev_var rfl) (rd_inD rfl ?_))) pk.2.2) sd_next) ?_
    · unfold SeqAt.shaped
      have e1 : (PyData.list (valsF f ws)).canLay0 = true := pk.1
      have e2 : decide ((PyData.list (valsF f ws)).depth ≤ 64) = true := dtr (by
        show PyData.depthAll (valsF f ws) + 1 ≤ 64
        have := pk.2.1
        omega)
      rw [e1, e2]
      rfl
    · walk_at "ret"
end
end
end
section
set_option exponentiation.threshold 5000
section
open PySem L2
section
variable {P : Program} {w : World} {K : PySem.W.Frag} {mg : Str → Option Value} {base : Heap}
theorem lg_ok {n : Int} (h : -(2 ^ 900) ≤ n ∧ n ≤ 2 ^ 900) : n.natAbs.log2 < 1920 := by
  have e : (2 : Int) ^ 900 = ((2 ^ 900 : Nat) : Int) := by norm_cast
  have q : n.natAbs < 2 ^ (900 + 1) := by
    have : (2 : Nat) ^ (900 + 1) = 2 ^ 900 * 2 := Nat.pow_succ ..
    have := Nat.two_pow_pos 900
    omega
  have := log_lt q
  omega
theorem tx_len9 {n : Int} (h : -(2 ^ 900) ≤ n ∧ n ≤ 2 ^ 900) : (tx n).length ≤ 601 := by
  apply tx_len2
  have e : (2 : Int) ^ 900 = ((2 ^ 900 : Nat) : Int) := by norm_cast
  have : (2 : Nat) ^ 900 < 10 ^ 600 := by decide
  omega
theorem ev_str9 {r : List QV} {te : TE} {n : Int} (hE : Ev K te r (.int n)) (h : -(2 ^ 900) ≤ n ∧ n ≤ 2 ^ 900) : Ev K (tCB (fun xs H Q => ∃ i, xs = [V.int i] ∧ i.natAbs.log2 < 1920 ∧ Q (V.str (toString i)) H) (tCons te tNil)) r (.str (tx n)) := ev_cb (ea_cons hE ea_nil) (rc_str (lg_ok h))
theorem tx_len4 {n : Int} (h : -(2 ^ 400) ≤ n ∧ n ≤ 2 ^ 400) : (tx n).length ≤ 122 := by
  have e : (2 : Int) ^ 400 = ((2 ^ 400 : Nat) : Int) := by norm_cast
  have h2 : (2 : Nat) ^ 400 < 10 ^ 121 := by decide
  have := int_text_length_le10 (a := n) (k := 121) (by decide) (by omega)
  show (Str.ofString (toString n)).length ≤ 122
  rw [ofString_length]
  exact this
def prT (s : Str) (p : Int × Int) : Str := tx p.1 ++ s ++ tx p.2
def prTs (s : Str) (ps : List (Int × Int)) : Str := Txt.join (Str.ofString " ") (ps.map (prT s))
theorem e49 : (2 : Int) ^ 400 ≤ 2 ^ 900 := by decide
theorem rn9 {n : Int} (h : -(2 ^ 400) ≤ n ∧ n ≤ 2 ^ 400) : -(2 ^ 900) ≤ n ∧ n ≤ 2 ^ 900 := by
  have := e49
  omega
abbrev rCatS : R2 := fun x y H Q => ∃ i j, x = .str i ∧ y = .str j ∧ i.length + j.length ≤ sizeLine ∧ Q (.str (i ++ j)) H
abbrev rStr1 : List V → Hp → VK → Prop := fun xs H Q => ∃ i, xs = [V.int i] ∧ i.natAbs.log2 < 1920 ∧ Q (V.str (toString i)) H
theorem ev_catS {r : List QV} {ta tb : TE} {x y : Str} (h1 : Ev K ta r (.str x)) (h2 : Ev K tb r (.str y)) (h : x.length + y.length ≤ 100000) : Ev K (tOp rCatS ta tb) r (.str (x ++ y)) := ev_op h1 h2 (rd_catS h)
abbrev PrOk (p : Int × Int) : Prop := (-(2 ^ 400) ≤ p.1 ∧ p.1 ≤ 2 ^ 400) ∧ -(2 ^ 400) ≤ p.2 ∧ p.2 ≤ 2 ^ 400
theorem prT_len {s : Str} {p : Int × Int} (hs : s.length ≤ 1) (h : PrOk p) : (prT s p).length ≤ 245 := by
  unfold prT
  rw [Str.length_append, Str.length_append]
  have := tx_len4 h.1
  have := tx_len4 h.2
  omega
theorem ev_prT {r : List QV} {ta ts tb : TE} {s : Str} {p : Int × Int} (h1 : Ev K ta r (.int p.1)) (hs : Ev K ts r (.str s)) (h2 : Ev K tb r (.int p.2)) (hl : s.length ≤ 1) (h : PrOk p) :
    Ev K (tOp rCatS (tOp rCatS (tCB rStr1 (tCons ta tNil)) ts) (tCB rStr1 (tCons tb tNil))) r (.str (prT s p)) := by
  have l1 := tx_len4 h.1
  have l2 := tx_len4 h.2
  refine ev_catS (ev_catS (ev_str9 h1 (rn9 h.1)) hs (by omega)) (ev_str9 h2 (rn9 h.2)) ?_
  rw [Str.length_append]
  omega
theorem sum_le {C : Nat} : ∀ {ls : List Nat}, (∀ l ∈ ls, l ≤ C) → ls.sum ≤ C * ls.length
  | [], _ => Nat.zero_le _
  | l :: ls, h => by
    have := h l List.mem_cons_self
    have := sum_le (ls := ls) fun x hx => h x (List.mem_cons_of_mem _ hx)
    rw [List.sum_cons, List.length_cons, Nat.mul_succ]
    omega
theorem pr_join_len {s : Str} {ps : List (Int × Int)} (hs : s.length ≤ 1) (hp : RnOk ps) : ((ps.map (prT s)).map (·.length)).sum + (ps.map (prT s)).length * (Str.ofString " ").length ≤ 100000 := by
  have e : (Str.ofString " ").length = 1 := by decide +kernel
  have q := sum_le (C := 245) (ls := (ps.map (prT s)).map (·.length)) (fun l hl => by
    obtain ⟨x, hx, rfl⟩ := List.mem_map.mp hl
    obtain ⟨p, hp', rfl⟩ := List.mem_map.mp hx
    exact prT_len hs (hp.2 p hp'))
  rw [List.length_map, List.length_map] at q
  have := hp.1
  rw [e, List.length_map]
  omega
theorem ev_prTs {r : List QV} {wi : TI} {i j : Nat} {vs : List Nat} {ta tb ts to : TE} {s : Str} {ps : List (Int × Int)} (hi : ItD K wi r (ps.map prD)) (hs : s.length ≤ 1) (hp : RnOk ps) (ho : Ev K to r (.str (Str.ofString " ")))
    (h : ∀ p ∈ ps, ∃ r1 js, GD K (gTup K 2 (gCons (gName i) (gCons (gName j) gNil))) (fgt r vs) (prD p) r1 js ∧ (∀ j ∈ js, j ∈ vs) ∧ Ev K ta r1 (.int p.1) ∧ Ev K ts r1 (.str s) ∧ Ev K tb r1 (.int p.2)) :
    Ev K (tM1 (fun x xs H Q => ∃ a p, ∃ ys : List Str, x = .str a ∧ xs = [.ref p] ∧ (SqL K H p (ys.map V.str) ∨ SqT K H p (ys.map V.str)) ∧ (ys.map (·.length)).sum + ys.length * a.length ≤ 16777216 ∧ Q (.str (Txt.join a ys)) H) to (tLc wi (gTup K 2 (gCons (gName i) (gCons (gName j) gNil))) tYes (tOp rCatS (tOp rCatS (tCB rStr1 (tCons ta tNil)) ts) (tCB rStr1 (tCons tb tNil))) vs)) r (.str (prTs s ps)) := by
  apply ev_join ho
  · apply ev_new
    rw [List.map_map]
    apply evn_lcM hi
    · have := hp.1
      omega
    · intro p hp'
      obtain ⟨r1, js, a, b, c1, c2, c3⟩ := h p hp'
      exact ⟨r1, js, a, b, ev_prT c1 c2 c3 hs (hp.2 p hp')⟩
  · exact pr_join_len hs hp
def Q_law_pairs (ds : List PyData) : Prop := ∃ ps s, ds = [.list (ps.map prD), .str s] ∧ RnOk ps ∧ s.length ≤ 1
def Z_law_pairs (ds : List PyData) (z : PyData) : Prop := ∀ ps s, ds = [.list (ps.map prD), .str s] → z = .str (prTs s ps)
theorem prD_inj {a b : Int × Int} (e : prD a = prD b) : a = b := by
  have e4 := PyData.tuple.inj e
  injection e4 with e5 e6
  injection e6 with e6 _
  exact Prod.ext (PyData.int.inj e5) (PyData.int.inj e6)
abbrev F_law_pairs (P : Program) (w : World) (K : PySem.W.Frag) (mg : Str → Option Value) (base : Heap) : Prop := Fn P w K mg base "_law_pairs" 1 ["_law_pairs_here", "_law_sign"] Q_law_pairs Z_law_pairs
theorem ok_law_pairs (B : Bt w K mg) (D : Df K mg "_law_pairs" "_law_pairs" s_law_pairs)  : F_law_pairs P w K mg base := by
  refine mk_fn D sc_law_pairs (fun _ _ _ _ _ _ us hl => match us, hl with | [_, _], _ => rfl) ⟨_, fun cdv A outer s H E f hr =>
    (pss_one (ps_ret (pe_joinK K pe_str (pe_lc (own := [("_law_one", 2), ("_law_other", 3)]) rfl sc_law_pairs.nd (pi_listK K (pv 0)) (blkOk_by (own := [("_law_one", 2), ("_law_other", 3)]) (N := n_law_pairs) (sc := defScope s_law_pairs) (by decide +kernel)) (fun _ _ _ _ _ => (pg_tupK (n := 2) K rfl (pgs_cons (pg_name (i := 2) sc_law_pairs.nd rfl (Or.inl rfl)) (pgs_cons (pg_name (i := 3) sc_law_pairs.nd rfl (Or.inl rfl)) pgs_nil)))) (fun _ _ _ _ _ => pts_nil) (fun _ _ _ _ _ => (pe_op op_add_str (pe_op op_add_str (pe_callTy call_str_int (by rfl) B.str (by decide +kernel) (pa_cons (pv 2) pa_nil)) (pv 1)) (pe_callTy call_str_int (by rfl) B.str (by decide +kernel) (pa_cons (pv 3) pa_nil)))))))), ?_⟩
  rintro ds ⟨ps, s, rfl, hp, hs⟩
  refine ⟨.str (prTs s ps), fun ps' s' e => ?_, .inl ?_⟩
  · injection e with e1 e2
    injection e2 with e2 _
    have e3 := (List.map_inj_right (fun x y e => prD_inj e)).mp (PyData.list.inj e1)
    rw [e3, PyData.str.inj e2]
  · show SD K _ [.dat (.list (ps.map prD)), .dat (.str s), .un, .un] _
    apply sd_ret
    apply ev_prTs
    · apply it_list
      walk_at "ev"
    · exact hs
    · exact hp
    · walk_at "ev"
    · intro p hp
      refine ⟨_, _, gd_tup (gds_cons gd_name (gds_cons gd_name gds_nil)) rfl, by walk_at "sc", ?_, ?_, ?_⟩
      · walk_at "ev"
      · walk_at "ev"
      · walk_at "ev"
def Q_law_kinds (ds : List PyData) : Prop := ds = []
def Z_law_kinds (ds : List PyData) (z : PyData) : Prop := z = .list (kinds.map .str)
abbrev F_law_kinds (P : Program) (w : World) (K : PySem.W.Frag) (mg : Str → Option Value) (base : Heap) : Prop := Fn P w K mg base "_law_kinds" 1 [] Q_law_kinds Z_law_kinds
theorem ok_law_kinds (B : Bt w K mg) (D : Df K mg "_law_kinds" "_law_kinds" s_law_kinds)  : F_law_kinds P w K mg base := by
  refine mk_fn D sc_law_kinds (fun _ _ _ _ _ _ us hl => match us, hl with | [], _ => rfl) ⟨_, fun cdv A outer s H E f hr =>
    (pss_one (ps_ret (pe_lst (pa_cons pe_str (pa_cons pe_str (pa_cons pe_str (pa_cons pe_str (pa_cons pe_str (pa_cons pe_str (pa_cons pe_str pa_nil)))))))))), ?_⟩
  rintro ds rfl
  refine ⟨.list (kinds.map .str), rfl, .inl ?_⟩
  show SD K _ [] _
  apply sd_ret
  apply ev_new
  apply evn_lst
  · show EvA K _ _ [.str "levels", .str "inorder", .str "preorder", .str "postorder", .str "lesser", .str "greater", .str "powers"]
    walk_at "ev"
  · exact (by decide : 7 ≤ 100000)
end
end
end
section
set_option exponentiation.threshold 5000
section
open PySem L2
section
def toIz : PyData → Int
  | .int n => n
  | _ => 0
structure RS where
  k : Str
  h : Int
  s : Int
  m : Int
  page : Option Int
  spent : Int
  past : List (Option Int × Int)
  calls : List PyData
def pgV : Option Int → V
  | none => .non
  | some n => .int n
def pgD : Option Int → PyData
  | none => .none
  | some n => .int n
theorem pg_dp {K : PySem.W.Frag} {G : Hp} : ∀ p, Dp K G (pgV p) (pgD p)
  | none => .non
  | some n => .int n
theorem pg_v {K : PySem.W.Frag} {G : Hp} {v : V} : ∀ {p}, Dp K G v (pgD p) → v = pgV p
  | none, h => by cases h; rfl
  | some n, h => by cases h; rfl
def rNames : List Str := ["own_budget", "own_kind", "own_height", "own_size", "own_shift", "own_page", "own_spent", "own_calls", "own_past"]
def rMeths : List Str := ["behind", "perform", "search", "drop", "undo", "log"]
structure RdW (ws : List (Str × V)) (R : RS) : Prop where
  len : ws.length ≤ 20
  budget : ws.lookup ("own_budget" : Str) = some .non
  kind : ws.lookup ("own_kind" : Str) = some (.str R.k)
  height : ws.lookup ("own_height" : Str) = some (.int R.h)
  size : ws.lookup ("own_size" : Str) = some (.int R.s)
  shift : ws.lookup ("own_shift" : Str) = some (.int R.m)
  page : ws.lookup ("own_page" : Str) = some (pgV R.page)
  spent : ws.lookup ("own_spent" : Str) = some (.int R.spent)
  meth : ∀ m ∈ rMeths, ws.lookup m = none
def RdV (C : Addr) (R : RS) (v : V) (H : Hp) : Prop := ∃ a dx ws, v = .ref a ∧ H a = some (.ins C dx ws) ∧ RdW ws R
theorem RdV.st {C : Addr} {R : RS} {v : V} {H H' : Hp} (h : RdV C R v H) (s : ∀ (a C dx : Addr) (ws : List (Str × V)), H a = some (.ins C dx ws) → H' a = some (.ins C dx ws)) : RdV C R v H' := by
  obtain ⟨a, dx, ws, e, e2, w⟩ := h
  exact ⟨a, dx, ws, e, s a C dx ws e2, w⟩
def RdP (C : Addr) (R : RS) : ObP := ⟨fun v _ H => RdV C R v H, fun _ _ _ _ _ _ s h => h.st s⟩
structure Bo (K : PySem.W.Frag) : Type where
  cR : Addr
  cC : Addr
  hR : Cls K cR
  nR : ∀ f ∈ rNames, NoAttr K cR f
  hC : Cls K cC
  nC : NoAttr K cC "own_reader"
section
variable {K : PySem.W.Frag} {r : List QV} {i : Nat} {R : RS} {C : Addr} {f : Str} {d : PyData} {E : XK}
theorem ev_fldR (c : Cls K C) (n : NoAttr K C f) (hi : r[i]? = some (.ob (RdP C R))) (hd : ∀ (ws : List (Str × V)) (G : Hp), RdW ws R → ∃ u, ws.lookup f = some u ∧ Dp K G u d) : Ev K (tFld K (tVar i) f) r d := fun G σ H l Q q => by
  obtain ⟨v, e1, a, dx, ws, rfl, e2, w⟩ := l.ob i _ hi
  obtain ⟨u, e3, h⟩ := hd ws G w
  exact ⟨_, e1, a, C, dx, ws, u, rfl, e2, c, n, e3, q u G H (Gr.refl l.gh) h⟩
def spPr (K : PySem.W.Frag) (C : Addr) (g : RS → PyData) : Sp := fun vs H Q _ => ∃ G R v, vs = [v] ∧ Same G H ∧ RdV C R v H ∧ ∀ u G' H', Gr G H G' H' → Dp K G' u (g R) → Q u H'
theorem ev_propR {g : RS → PyData} (hi : r[i]? = some (.ob (RdP C R))) : Ev K (tProp C (spPr K C g) [] E (tVar i)) r (g R) := fun G σ H l Q q => by
  obtain ⟨v, e1, a, dx, ws, rfl, e2, w⟩ := l.ob i _ hi
  exact ⟨_, e1, a, dx, ws, rfl, e2, G, R, .ref a, rfl, l.gh, ⟨a, dx, ws, rfl, e2, w⟩, q⟩
end
theorem ql_cons {K : PySem.W.Frag} {G H : Hp} {r : List QV} {σ : L2.St} {s : QV} {x : Option V} (l : QL K G r σ H) (hs : ∀ es, s ≠ .own es) (hd : ∀ d, s = .dat d → ∃ v, x = some v ∧ Dp K G v d) (ho : ∀ o, s = .ob o → ∃ v, x = some v ∧ o.fits v G H) (hn : ∀ (i : Nat) (es : List PyData), r[i]? ≠ some (.own es)) : QL K G (s :: r) (x :: σ) H where
  gh := l.gh
  dat := fun i d e => by
    cases i with
    | zero =>
      obtain ⟨v, e2, h⟩ := hd d (Option.some.inj e)
      exact ⟨v, by rw [e2]; rfl, h⟩
    | succ i => exact l.dat i d e
  own := fun i es e => by
    cases i with
    | zero => exact absurd (Option.some.inj e) (hs es)
    | succ i => exact absurd e (hn i es)
  len := by
    rw [List.length_cons, List.length_cons, l.len]
  ob := fun i o e => by
    cases i with
    | zero =>
      obtain ⟨v, e2, h⟩ := ho o (Option.some.inj e)
      exact ⟨v, by rw [e2]; rfl, h⟩
    | succ i => exact l.ob i o e
theorem ent_noown {n : Nat} {ds : List PyData} (i : Nat) (es : List PyData) : (ent n ds)[i]? ≠ some (.own es) := fun e => by
  unfold ent at e
  by_cases hi : i < ds.length
  · rw [List.getElem?_append_left (by rw [List.length_map]; exact hi), List.getElem?_map] at e
    cases q : ds[i]? with
    | none => rw [q] at e; cases e
    | some d2 => rw [q] at e; cases e
  · rw [List.getElem?_append_right (by rw [List.length_map]; omega), List.getElem?_replicate] at e
    split at e <;> cases e
theorem ql_entO {K : PySem.W.Frag} {G H : Hp} {y : Str} {N : List Str} {v : V} {vs : List V} {o : ObP} {ds : List PyData} (gh : Same G H) (hv : DpAll K G vs ds) (h : o.fits v G H) : QL K G (.ob o :: ent N.length ds) (L2.start (y :: N) (v :: vs)) H := by
  have e : L2.start (y :: N) (v :: vs) = some v :: L2.start N vs := by
    unfold L2.start
    rw [List.length_cons, List.length_cons, List.map_cons, List.cons_append]
    congr 3
    omega
  rw [e]
  exact ql_cons (ql_ent gh hv) (fun _ z => by cases z) (fun _ z => by cases z) (fun o' z => by cases z; exact ⟨v, rfl, h⟩) ent_noown
theorem bs_noown {G H : Hp} {r : List QV} {σ : L2.St} (gh : Same G H) (hn : ∀ (i : Nat) (es : List PyData), r[i]? ≠ some (.own es)) : Bs G H G H r σ := ⟨Gr.refl gh, fun i es p e _ => absurd e (hn i es)⟩
theorem sd_runQ {K : PySem.W.Frag} {ts : TS} {G H : Hp} {r : List QV} {σ : L2.St} {Q : VK} {d : PyData} (l : QL K G r σ H) (hn : ∀ (i : Nat) (es : List PyData), r[i]? ≠ some (.own es)) (q : ∀ v G' H', Gr G H G' H' → Dp K G' v d → Q v H') (h : SD K ts r (.rt d)) : ts { nx := fun _ H' => Q .non H', rt := Q } σ H :=
  h G H G _ H _ l (bs_noown l.gh hn) fun v G' H' g d1 => q v G' H' g d1
theorem cons_noown {s : QV} {r : List QV} (hs : ∀ es, s ≠ .own es) (hn : ∀ (i : Nat) (es : List PyData), r[i]? ≠ some (.own es)) : ∀ (i : Nat) (es : List PyData), (s :: r)[i]? ≠ some (.own es)
  | 0, es, e => hs es (Option.some.inj e)
  | i + 1, es, e => hn i es e
theorem mk_raw {P : Program} {w : World} {K : PySem.W.Frag} {mg : Str → Option Value} {base : Heap} {x qual : Str} {st : Stmt} {N ps : List Str} {k : Nat} {sp : Sp} {f : Addr} {fd : FuncData}
    (F : FunD K x qual (defArgs st) (defBody st) (defScope st) [] [] f fd) (sc : FnScope N ps (defScope st)) (len : ∀ vs H Q E, sp vs H Q E → vs.length = ps.length)
    (h : ∃ t, (∀ (cdv : Value) (A : Around) (outer : List Env) (s : Shared) (H : Hp) (E : XK) (f : Addr), Room k (A.deeper (PyProof.Rows.envOfC qual (defScope st) s.heap.objs.size f cdv)) → PSs (cxOf CX0 P w K mg base N qual (defScope st) f cdv A outer s H E).nox (defBody st) t) ∧
      ∀ vs H Q E, sp vs H Q E → t { nx := fun _ H' => Q .non H', rt := Q } (L2.start N vs) H) : FnOk P w K mg base CX0 (k + 1) f fd ps sp := by
  obtain ⟨t, hT, hR⟩ := h
  exact F.ok sc len fun cdv A outer s H vs Q E hr hsp => ⟨t, PSs.nox (hT cdv A outer s H E f hr), hR vs H Q E hsp⟩
def DfM (K : PySem.W.Frag) (C : Addr) (m qual : Str) (st : Stmt) : Prop := ∃ (f : Addr) (fd : FuncData), FunD K m qual (defArgs st) (defBody st) (defScope st) [] [] f fd ∧ Meth K C m f
def DfP (K : PySem.W.Frag) (C : Addr) (m qual : Str) (st : Stmt) : Prop := ∃ (p f : Addr) (fd : FuncData), FunD K m qual (defArgs st) (defBody st) (defScope st) [] [] f fd ∧ PropOf K C m p f
def DfC (K : PySem.W.Frag) (mg : Str → Option Value) (x : Str) (C : Addr) (m qual : Str) (st : Stmt) : Prop := ∃ (f : Addr) (fd : FuncData), FunD K m qual (defArgs st) (defBody st) (defScope st) [] [] f fd ∧ mg x = some (.ref C) ∧ Mk K C f
section
variable {P : Program} {w : World} {K : PySem.W.Frag} {mg : Str → Option Value} {base : Heap}
theorem ok_prop {O : Bo K} {m qual fld : Str} {st : Stmt} {N : List Str} {g : RS → PyData} (D : DfP K O.cR m qual st) (sc : FnScope N ["self"] (defScope st)) (bd : ∀ (kV doc pm : Value) (an : Option Addr) (cdv ct : Value) (us : List Value), us.length = 1 → bindArgs (PySem.W.fnOf m qual (defArgs st) (defBody st) (defScope st) .none kV doc pm an cdv ct) ⟨us, []⟩ = pure ((["self"] : List Str).zip us))
    (hT : ∀ (cdv : Value) (A : Around) (outer : List Env) (s : Shared) (H : Hp) (E : XK) (f : Addr), PSs (cxOf CX0 P w K mg base N qual (defScope st) f cdv A outer s H E).nox (defBody st) (tRet (tFld K (tVar 0) fld)))
    (hn : fld ∈ rNames) (hd : ∀ (ws : List (Str × V)) (R : RS) (G : Hp), RdW ws R → ∃ u, ws.lookup fld = some u ∧ Dp K G u (g R)) : CalP P w K mg base O.cR m 1 (spPr K O.cR g) := by
  obtain ⟨p, f, fd, F, hp⟩ := D
  refine ⟨O.hR, p, f, fd, ?_, hp, F.bindsN bd⟩
  refine mk_raw F sc (fun vs H Q E h => ?_) ⟨tRet (tFld K (tVar 0) fld), fun cdv A outer s H E f hr => hT cdv A outer s H E f, fun vs H Q E h => ?_⟩
  · obtain ⟨_, _, _, e, _⟩ := h
    rw [e]
    rfl
  · obtain ⟨G, R, v, rfl, gh, ⟨a, dx, ws, rfl, e2, w⟩, q⟩ := h
    obtain ⟨u, e3, h⟩ := hd ws R G w
    have e0 : (L2.start N [V.ref a])[0]? = some (some (.ref a)) := rfl
    exact ⟨_, e0, a, O.cR, dx, ws, u, rfl, e2, O.hR, O.nR _ hn, e3, q u G H (Gr.refl gh) h⟩
theorem ok_kind {O : Bo K} (D : DfP K O.cR "kind" "Reader.kind" s_Reader_kind) : CalP P w K mg base O.cR "kind" 1 (spPr K O.cR fun R => .str R.k) :=
  ok_prop D sc_Reader_kind (fun _ _ _ _ _ _ us hl => match us, hl with | [_], _ => rfl) (fun cdv A outer s H E f => (pss_one (ps_ret (pe_fldK K (pv 0) rfl)))
    ) (fld := "own_kind") (by decide +kernel) fun ws R G w => ⟨_, w.kind, .str _⟩
theorem ok_height {O : Bo K} (D : DfP K O.cR "height" "Reader.height" s_Reader_height) : CalP P w K mg base O.cR "height" 1 (spPr K O.cR fun R => .int R.h) :=
  ok_prop D sc_Reader_height (fun _ _ _ _ _ _ us hl => match us, hl with | [_], _ => rfl) (fun cdv A outer s H E f => (pss_one (ps_ret (pe_fldK K (pv 0) rfl)))
    ) (fld := "own_height") (by decide +kernel) fun ws R G w => ⟨_, w.height, .int _⟩
theorem ok_size {O : Bo K} (D : DfP K O.cR "size" "Reader.size" s_Reader_size) : CalP P w K mg base O.cR "size" 1 (spPr K O.cR fun R => .int R.s) :=
  ok_prop D sc_Reader_size (fun _ _ _ _ _ _ us hl => match us, hl with | [_], _ => rfl) (fun cdv A outer s H E f => (pss_one (ps_ret (pe_fldK K (pv 0) rfl)))
    ) (fld := "own_size") (by decide +kernel) fun ws R G w => ⟨_, w.size, .int _⟩
theorem ok_shift {O : Bo K} (D : DfP K O.cR "shift" "Reader.shift" s_Reader_shift) : CalP P w K mg base O.cR "shift" 1 (spPr K O.cR fun R => .int R.m) :=
  ok_prop D sc_Reader_shift (fun _ _ _ _ _ _ us hl => match us, hl with | [_], _ => rfl) (fun cdv A outer s H E f => (pss_one (ps_ret (pe_fldK K (pv 0) rfl)))
    ) (fld := "own_shift") (by decide +kernel) fun ws R G w => ⟨_, w.shift, .int _⟩
theorem ok_page {O : Bo K} (D : DfP K O.cR "page" "Reader.page" s_Reader_page) : CalP P w K mg base O.cR "page" 1 (spPr K O.cR fun R => pgD R.page) :=
  ok_prop D sc_Reader_page (fun _ _ _ _ _ _ us hl => match us, hl with | [_], _ => rfl) (fun cdv A outer s H E f => (pss_one (ps_ret (pe_fldK K (pv 0) rfl)))
    ) (fld := "own_page") (by decide +kernel) fun ws R G w => ⟨_, w.page, pg_dp _⟩
theorem ok_spent {O : Bo K} (D : DfP K O.cR "spent" "Reader.spent" s_Reader_spent) : CalP P w K mg base O.cR "spent" 1 (spPr K O.cR fun R => .int R.spent) :=
  ok_prop D sc_Reader_spent (fun _ _ _ _ _ _ us hl => match us, hl with | [_], _ => rfl) (fun cdv A outer s H E f => (pss_one (ps_ret (pe_fldK K (pv 0) rfl)))
    ) (fld := "own_spent") (by decide +kernel) fun ws R G w => ⟨_, w.spent, .int _⟩
theorem rd_nePg {m : Int} {p : Option Int} : RD K rNe (.int m) (pgD p) (.bool (!decide (some m = p))) := fun G H x y gh hx hy Q q => by
  cases hx
  have e := pg_v hy
  subst e
  cases p with
  | none => exact ⟨rfl, q _ G H (Gr.refl gh) (.bl _)⟩
  | some n =>
    refine ⟨rfl, ?_⟩
    have e : decide (V.int m = pgV (some n)) = decide (some m = some n) := by
      show decide (V.int m = V.int n) = _
      rw [dec_vint]
      by_cases h : m = n
      · rw [dtr h, dtr (congrArg some h)]
      · rw [dfa h, dfa (fun z => h (Option.some.inj z))]
    rw [e]
    exact q _ G H (Gr.refl gh) (.bl _)
def behS (sf : List PyData → PyData) (R : RS) (d n : Int) (st : Option Int × Int) (x : Int) : Option Int × Int :=
  (some ((toIz (sf [.str R.k, .int R.h, ND x (n / 2 ^ (d - x).toNat)]) + R.m) / R.s), st.2 + (if (!decide (some ((toIz (sf [.str R.k, .int R.h, ND x (n / 2 ^ (d - x).toNat)]) + R.m) / R.s) = st.1)) = true then 1 else 0))
inductive OpD where
  | drop
  | search (d n : Int)
def opD : OpD → PyData
  | .drop => .tuple [.str "drop"]
  | .search d n => .tuple [.str "search", ND d n]
def behF (sf : List PyData → PyData) (R : RS) (st : Option Int × Int) : OpD → Option Int × Int
  | .drop => (none, st.2)
  | .search d n => (rgI 0 (d + 1)).foldl (behS sf R d n) st
structure RsOk (R : RS) (t : Nat) : Prop where
  k : R.k ∈ kinds
  h1 : 1 ≤ R.h
  h2 : R.h ≤ 100
  s1 : 1 ≤ R.s
  s2 : R.s ≤ 10 ^ 30
  m1 : 0 ≤ R.m
  m2 : R.m < R.s
  pg : ∀ n, R.page = some n → 0 ≤ n ∧ n ≤ 2 ^ 300
  sp : 0 ≤ R.spent ∧ R.spent ≤ 200 * (t : Int)
  pa : ∀ p ∈ R.past, (∀ n, p.1 = some n → 0 ≤ n ∧ n ≤ 2 ^ 300) ∧ 0 ≤ p.2 ∧ p.2 ≤ 200 * (t : Int)
  ln : R.calls.length = R.past.length
  lt : R.past.length ≤ t
  cl : ∀ c ∈ R.calls, ∃ op, c = opD op
def OpOk (R : RS) : OpD → Prop
  | .drop => True
  | .search d n => 0 ≤ d ∧ d < R.h ∧ 0 ≤ n ∧ n < 2 ^ d.toNat
theorem beh_bd {sf : List PyData → PyData} {R : RS} {t : Nat} {d n : Int} (hsf : ∀ ds, Q_spot_of ds → Z_spot_of ds (sf ds)) (ok : RsOk R t) (hd : 0 ≤ d ∧ d < R.h) : ∀ (xs : List Int), (∀ x ∈ xs, 0 ≤ x ∧ x ≤ d) → ∀ st : Option Int × Int, (∀ n, st.1 = some n → 0 ≤ n ∧ n ≤ 2 ^ 300) →
    (∀ z, (xs.foldl (behS sf R d n) st).1 = some z → 0 ≤ z ∧ z ≤ 2 ^ 300) ∧ st.2 ≤ (xs.foldl (behS sf R d n) st).2 ∧ (xs.foldl (behS sf R d n) st).2 ≤ st.2 + (xs.length : Int)
  | [], _, st, hst => ⟨hst, Int.le_refl _, by show st.2 ≤ st.2 + 0; omega⟩
  | x :: xs, hx, st, hst => by
    have hx0 := hx x List.mem_cons_self
    obtain ⟨m, e, m1, m2⟩ := hsf [.str R.k, .int R.h, ND x (n / 2 ^ (d - x).toNat)] ⟨_, _, _, _, rfl, hx0.1, by omega, by have := ok.h2; omega⟩
    have e2 : toIz (sf [.str R.k, .int R.h, ND x (n / 2 ^ (d - x).toNat)]) = m := by rw [e]; rfl
    have q := beh_bd (n := n) hsf ok hd xs (fun y hy => hx y (List.mem_cons_of_mem _ hy)) (behS sf R d n st x) (by
      intro z hz
      have hz : some ((toIz (sf [.str R.k, .int R.h, ND x (n / 2 ^ (d - x).toNat)]) + R.m) / R.s) = some z := hz
      rw [e2] at hz
      have hz := Option.some.inj hz
      have h1 := ok.m1
      have h2 := ok.m2
      have h3 := ok.s2
      have h4 := ok.s1
      have q0 : 0 ≤ (m + R.m) / R.s := Int.ediv_nonneg (by omega) (by omega)
      have q1 : (m + R.m) / R.s ≤ m + R.m := Int.ediv_le_self _ (by omega)
      have e3 : (10 : Int) ^ 30 + 2 ^ 210 ≤ 2 ^ 300 := by decide
      generalize (10 : Int) ^ 30 = X at *
      generalize (2 : Int) ^ 210 = Y at *
      generalize (2 : Int) ^ 300 = Z at *
      omega)
    have e5 : st.2 ≤ (behS sf R d n st x).2 ∧ (behS sf R d n st x).2 ≤ st.2 + 1 := by
      unfold behS
      dsimp only
      split <;> omega
    rw [List.length_cons]
    show (∀ z, (xs.foldl (behS sf R d n) (behS sf R d n st x)).1 = some z → 0 ≤ z ∧ z ≤ 2 ^ 300) ∧ st.2 ≤ (xs.foldl (behS sf R d n) (behS sf R d n st x)).2 ∧ (xs.foldl (behS sf R d n) (behS sf R d n st x)).2 ≤ st.2 + ((xs.length + 1 : Nat) : Int)
    exact ⟨q.1, by omega, by omega⟩
def spBeh (K : PySem.W.Frag) (C : Addr) (sf : List PyData → PyData) : Sp := fun vs H Q _ => ∃ G R t v us p sp op, vs = v :: us ∧ us.length = 3 ∧ Same G H ∧ RdV C R v H ∧ RsOk R t ∧ OpOk R op ∧ DpAll K G us [pgD p, .int sp, opD op] ∧ (∀ n, p = some n → 0 ≤ n ∧ n ≤ 2 ^ 300) ∧
  ∀ u G' H', Gr G H G' H' → Dp K G' u (.tuple [pgD (behF sf R (p, sp) op).1, .int (behF sf R (p, sp) op).2]) → Q u H'
theorem ok_behind {O : Bo K} {sf : List PyData → PyData} (B : Bt w K mg) (D : DfM K O.cR "behind" "Reader.behind" s_Reader_behind) (h_require_node : F_require_node P w K mg base) (hsf : ∀ ds, Q_spot_of ds → Z_spot_of ds (sf ds))
    (C_spot_of : Cal P w K mg base "spot_of" 3 ["kind", "height", "node"] (spD K (["kind", "height", "node"] : List Str).length fun ds d => Q_spot_of ds ∧ d = sf ds)) : CalM P w K mg base O.cR "behind" 5 ["self", "page", "spent", "operation"] (spBeh K O.cR sf) := by
  obtain ⟨f_require_node, p_require_node, C_require_node⟩ := h_require_node
  obtain ⟨f, fd, F, hm⟩ := D
  refine ⟨O.hR, f, fd, ?_, hm, F.bindsN (fun _ _ _ _ _ _ us hl => match us, hl with | [_, _, _, _], _ => rfl)⟩
  refine mk_raw F sc_Reader_behind (fun vs H Q E h => ?_) ⟨_, fun cdv A outer s H E f hr => (pss_cons (ps_if (pt_cmpR op_eq (pe_ix (ix_tupK K) (pv 3) pe_int (fun _ _ => rfl)) pe_str (nomark _)) (pss_one (ps_ret (pe_tup (pa_cons pe_non (pa_cons (pv 2) pa_nil))))) pss_nil)
    (pss_cons (ps_expr (pe_callC C_require_node hr (by rfl) (pa_cons (pe_fldK K (pv 0) rfl) (pa_cons (pe_ix (ix_tupK K) (pv 3) pe_int (fun _ _ => rfl)) pa_nil))))
    (pss_cons (ps_asg (pe_ix (ix_tupK K) (pv 3) pe_int (fun _ _ => rfl)) (pg_tupK (n := 2) K rfl (pgs_cons (pg_name (i := 4) sc_Reader_behind.nd rfl (Or.inl rfl)) (pgs_cons (pg_name (i := 5) sc_Reader_behind.nd rfl (Or.inl rfl)) pgs_nil))))
    (pss_cons (ps_for PassesOwn.never rfl (pi_range1 (by rfl) B.range (pa_cons (pe_op op_add (pv 4) pe_int) pa_nil)) (pg_name (i := 6) sc_Reader_behind.nd rfl (Or.inl rfl)) (pss_cons (ps_set (i := 7) sc_Reader_behind.nd rfl (Or.inl rfl) (pe_tup (pa_cons (pv 6) (pa_cons (pe_op op_shr (pv 5) (pe_op op_sub (pv 4) (pv 6))) pa_nil))))
    (pss_cons (ps_set (i := 8) sc_Reader_behind.nd rfl (Or.inl rfl) (pe_op op_fdivW (pe_op op_add (pe_callC C_spot_of hr (by rfl) (pa_cons (pe_fldK K (pv 0) rfl) (pa_cons (pe_fldK K (pv 0) rfl) (pa_cons (pv 7) pa_nil)))) (pe_fldK K (pv 0) rfl)) (pe_fldK K (pv 0) rfl)))
    (pss_cons (ps_aug (i := 2) sc_Reader_behind.nd rfl (Or.inl rfl) (pe_callTy call_int1 (by rfl) B.int (by decide +kernel) (pa_cons (pe_cmpR op_ne (pv 8) (pv 1) (nomark _)) pa_nil)) ip_add)
    (pss_one (ps_set (i := 1) sc_Reader_behind.nd rfl (Or.inl rfl) (pv 8)))))))
    (pss_cons (ps_if (PW.pt (pw_and (pt_cmpR op_notN (pe_fldK K (pv 0) rfl) pe_non (nomark _)) (pw_and1 (pt_cmpR op_gt (pv 2) (pe_fldK K (pv 0) rfl) (nomark _))))) pss_never pss_nil)
    (pss_one (ps_ret (pe_tup (pa_cons (pv 1) (pa_cons (pv 2) pa_nil))))))))))
    , ?_⟩
  · obtain ⟨_, _, _, _, _, _, _, _, rfl, h, _⟩ := h
    rw [List.length_cons, h]
    rfl
  rintro vs H Q E ⟨G, R, t, v, us, p, sp, op, rfl, hl, gh, hv, ok, oo, hus, hp, q⟩
  have ql := ql_entO (y := "self") (N := ["page", "spent", "operation", "depth", "number", "step", "node", "there"]) (o := RdP O.cR R) gh hus hv
  refine sd_runQ ql (cons_noown (fun _ z => by cases z) ent_noown) q ?_
  show SD K _ [.ob (RdP O.cR R), .dat (pgD p), .dat (.int sp), .dat (opD op), .un, .un, .un, .un, .un] _
  have fk : ∀ {r : List QV}, r[0]? = some (.ob (RdP O.cR R)) → Ev K (tFld K (tVar 0) "own_kind") r (.str R.k) := fun hi => ev_fldR O.hR (O.nR _ (by decide +kernel)) hi fun ws G w => ⟨_, w.kind, .str _⟩
  have fh : ∀ {r : List QV}, r[0]? = some (.ob (RdP O.cR R)) → Ev K (tFld K (tVar 0) "own_height") r (.int R.h) := fun hi => ev_fldR O.hR (O.nR _ (by decide +kernel)) hi fun ws G w => ⟨_, w.height, .int _⟩
  have fs : ∀ {r : List QV}, r[0]? = some (.ob (RdP O.cR R)) → Ev K (tFld K (tVar 0) "own_size") r (.int R.s) := fun hi => ev_fldR O.hR (O.nR _ (by decide +kernel)) hi fun ws G w => ⟨_, w.size, .int _⟩
  have fm : ∀ {r : List QV}, r[0]? = some (.ob (RdP O.cR R)) → Ev K (tFld K (tVar 0) "own_shift") r (.int R.m) := fun hi => ev_fldR O.hR (O.nR _ (by decide +kernel)) hi fun ws G w => ⟨_, w.shift, .int _⟩
  have fb : ∀ {r : List QV}, r[0]? = some (.ob (RdP O.cR R)) → Ev K (tFld K (tVar 0) "own_budget") r .none := fun hi => ev_fldR O.hR (O.nR _ (by decide +kernel)) hi fun ws G w => ⟨_, w.budget, .non⟩
  cases op with
  | drop =>
    apply sd_seqR
    refine sd_ifT (et_is (et_test (ev_op (ev_op (ev_var rfl) ev_int (rd_ixT (d := .str "drop") rfl)) ev_str rd_eqS)) (dtr rfl)) ?_
    show SD K _ _ (.rt (.tuple [.none, .int sp]))
    walk_at "ret"
  | search d n =>
    have nd : ¬ ("search" : Str) = "drop" := by decide +kernel
    obtain ⟨o1, o2, o3, o4⟩ := oo
    have hh2 := ok.h2
    refine sd_seq (sd_ifF (et_is (et_test (ev_op (ev_op (ev_var rfl) ev_int (rd_ixT (d := .str "search") rfl)) ev_str rd_eqS)) (dfa nd)) sd_next) ?_
    obtain ⟨_, rfl, c1⟩ := use_fn (K := K) p_require_node [.int R.h, ND d n] ⟨_, _, _, rfl, o1, o2, by omega, o3, o4⟩
    apply sd_seq
    · apply sd_drop
      apply ev_call
      · apply ea_cons (fh rfl)
        apply ea_cons
        · exact ev_op (ev_var rfl) ev_int (rd_ixT (d := ND d n) rfl)
        · walk_at "ev"
      · exact c1
    apply sd_seq (r1 := [.ob (RdP O.cR R), .dat (pgD p), .dat (.int sp), .dat (opD (.search d n)), .dat (.int d), .dat (.int n), .un, .un, .un])
    · apply sd_asg (d := ND d n)
      · exact ev_op (ev_var rfl) ev_int (rd_ixT (d := ND d n) rfl)
      · walk_at "ev"
    refine sd_fold [6, 7, 8] (fun s : Option Int × Int => [.ob (RdP O.cR R), .dat (pgD s.1), .dat (.int s.2), .dat (opD (.search d n)), .dat (.int d), .dat (.int n), .un, .un, .un]) PyData.int (behS sf R d n) (fun _ _ => True) (rgI 0 (d + 1)) (p, sp) rfl trivial (it_rng1 (by walk_at "ev") ⟨by omega, by omega⟩) ?_ fun _ => ?_
    · intro j x st hj hx _
      have hx := mem_rgI hx
      refine ⟨trivial, ?_⟩
      obtain ⟨m, e, m1, m2⟩ := hsf [.str R.k, .int R.h, ND x (n / 2 ^ (d - x).toNat)] ⟨_, _, _, _, rfl, hx.1, by omega, by omega⟩
      have e2 : toIz (sf [.str R.k, .int R.h, ND x (n / 2 ^ (d - x).toNat)]) = m := by rw [e]; rfl
      have c2 : Spd K (spD K (["kind", "height", "node"] : List Str).length fun ds d => Q_spot_of ds ∧ d = sf ds) [.str R.k, .int R.h, ND x (n / 2 ^ (d - x).toNat)] (.int m) := spd_of ⟨⟨_, _, _, _, rfl, hx.1, by omega, by omega⟩, e.symm⟩ rfl
      have hd : CDivW (m + R.m) R.s := div_ok (a := 100) (by have := ok.s1; omega) (nab_lt (by have := ok.s1; omega) (by
        have := ok.s2
        have e3 : (10 : Int) ^ 30 < 2 ^ 100 := by decide
        generalize (10 : Int) ^ 30 = X at *
        generalize (2 : Int) ^ 100 = Y at *
        omega))
      have eS : behS sf R d n st x = (some ((m + R.m) / R.s), st.2 + (if (!decide (some ((m + R.m) / R.s) = st.1)) = true then 1 else 0)) := by
        unfold behS
        rw [e2]
      rw [eS]
      apply tn
      · walk_at "ev"
      · apply sd_goN
        walk_at "asg"
        apply sd_seq
        · apply sd_asg (d := .int ((m + R.m) / R.s))
          · apply ev_op
            · apply ev_op
              · apply ev_call
                · apply ea_cons (fk rfl)
                  apply ea_cons (fh rfl)
                  apply ea_cons (ev_var rfl)
                  walk_at "ev"
                · exact c2
              · exact fm rfl
              · walk_at "ev"
            · exact fs rfl
            · walk_at "ev"
          · walk_at "ev"
        apply sd_seq
        · apply sd_aug
          · rfl
          · apply ev_cb
            · apply ea_cons
              · exact ev_op (ev_var rfl) (ev_var rfl) rd_nePg
              · walk_at "ev"
            · exact rc_intB
          · walk_at "ev"
        · apply sd_asg (d := pgD (some ((m + R.m) / R.s)))
          · exact ev_var rfl
          · walk_at "ev"
      · rfl
    · refine sd_seq (sd_ifF (et_andF (et_is (et_test (ev_op (fb rfl) ev_non ?_)) rfl)) sd_next) ?_
      · intro G H x y gh hx hy Q q
        cases hx
        cases hy
        exact ⟨rfl, q _ G H (Gr.refl gh) (.bl _)⟩
      show SD K _ _ (.rt (.tuple [pgD ((rgI 0 (d + 1)).foldl (behS sf R d n) (p, sp)).1, .int ((rgI 0 (d + 1)).foldl (behS sf R d n) (p, sp)).2]))
      walk_at "ret"
end
end
end
end
section
set_option exponentiation.threshold 5000
section
open PySem L2
section
structure GrF (F : Addr → Prop) (G H : Hp) (F' : Addr → Prop) (G' H' : Hp) : Prop where
  gg : Same G G'
  gh : Same G' H'
  fr : ∀ (x : Addr) (o : HO), H x = some o → ¬ F x → H' x = some o ∧ ¬ F' x ∧ G' x = G x
theorem GrF.trans {F F1 F2 : Addr → Prop} {G H G1 H1 G2 H2 : Hp} (a : GrF F G H F1 G1 H1) (b : GrF F1 G1 H1 F2 G2 H2) : GrF F G H F2 G2 H2 where
  gg := a.gg.trans b.gg
  gh := b.gh
  fr := fun x o h n => by
    obtain ⟨h1, n1, g1⟩ := a.fr x o h n
    obtain ⟨h2, n2, g2⟩ := b.fr x o h1 n1
    exact ⟨h2, n2, g2.trans g1⟩
theorem GrF.pure {F : Addr → Prop} {G H G' H' : Hp} (g : Gr G H G' H') : GrF F G H F G' H' := ⟨g.gg, g.gh, fun x o h n => ⟨g.hh x o h, n, g.ag x o h⟩⟩
theorem GrF.upd {F : Addr → Prop} {G H : Hp} {p : Addr} {o : HO} (gh : Same G H) (hF : F p) (hg : G p = none) : GrF F G H F G (L2.upd H p o) := ⟨Same.refl G, fun c u e => by
    rw [upd_ne (ne_of_none e hg)]
    exact gh c u e, fun x u h n => ⟨by
    have hne : x ≠ p := fun z => by
      subst z
      exact n hF
    rw [upd_ne hne]
    exact h, n, rfl⟩⟩
def pastD (p : Option Int × Int) : PyData := .tuple [pgD p.1, .int p.2]
structure HR (K : PySem.W.Frag) (C a : Addr) (R : RS) (dx pc pp : Addr) (vc vp : List V) (ws : List (Str × V)) (G H : Hp) : Prop where
  ha : H a = some (.ins C dx ws)
  hx : H dx = some (.own a)
  hc : H pc = some (.lst vc)
  hp : H pp = some (.lst vp)
  ne : pc ≠ pp
  w : RdW ws R
  wc : ws.lookup ("own_calls" : Str) = some (.ref pc)
  wp : ws.lookup ("own_past" : Str) = some (.ref pp)
  dc : DpAll K G vc R.calls
  dp : DpAll K G vp (R.past.map pastD)
  ga : G a = none
  gx : G dx = none
  gc : G pc = none
  gp : G pp = none
def rF (a dx pc pp : Addr) (x : Addr) : Prop := x = a ∨ x = dx ∨ x = pc ∨ x = pp
def HoldR (K : PySem.W.Frag) (C a : Addr) (R : RS) (F : Addr → Prop) (G H : Hp) : Prop := ∃ dx pc pp vc vp ws, HR K C a R dx pc pp vc vp ws G H ∧ F = rF a dx pc pp
section
variable {K : PySem.W.Frag} {C a : Addr} {R : RS} {dx pc pp : Addr} {vc vp : List V} {ws : List (Str × V)} {G H G' H' : Hp}
theorem HR.pure (h : HR K C a R dx pc pp vc vp ws G H) (g : Gr G H G' H') : HR K C a R dx pc pp vc vp ws G' H' :=
  ⟨g.hh _ _ h.ha, g.hh _ _ h.hx, g.hh _ _ h.hc, g.hh _ _ h.hp, h.ne, h.w, h.wc, h.wp, dpa_mono g.gg _ _ h.dc, dpa_mono g.gg _ _ h.dp, (g.ag _ _ h.ha).trans h.ga, (g.ag _ _ h.hx).trans h.gx, (g.ag _ _ h.hc).trans h.gc, (g.ag _ _ h.hp).trans h.gp⟩
theorem HR.stay (h : HR K C a R dx pc pp vc vp ws G H) (gg : Same G G') (hs : ∀ x o, H x = some o → rF a dx pc pp x → H' x = some o ∧ G' x = G x) : HR K C a R dx pc pp vc vp ws G' H' :=
  ⟨(hs _ _ h.ha (.inl rfl)).1, (hs _ _ h.hx (.inr (.inl rfl))).1, (hs _ _ h.hc (.inr (.inr (.inl rfl)))).1, (hs _ _ h.hp (.inr (.inr (.inr rfl)))).1, h.ne, h.w, h.wc, h.wp, dpa_mono gg _ _ h.dc, dpa_mono gg _ _ h.dp,
    ((hs _ _ h.ha (.inl rfl)).2).trans h.ga, ((hs _ _ h.hx (.inr (.inl rfl))).2).trans h.gx, ((hs _ _ h.hc (.inr (.inr (.inl rfl)))).2).trans h.gc, ((hs _ _ h.hp (.inr (.inr (.inr rfl)))).2).trans h.gp⟩
theorem ne_ins_lst {p : Addr} {vs : List V} (h1 : H a = some (.ins C dx ws)) (h2 : H p = some (.lst vs)) : a ≠ p := fun z => by
  subst z
  rw [h1] at h2
  cases h2
theorem ne_own_lst {p x : Addr} {vs : List V} (h1 : H dx = some (.own x)) (h2 : H p = some (.lst vs)) : dx ≠ p := fun z => by
  subst z
  rw [h1] at h2
  cases h2
theorem ne_ins_own {x : Addr} (h1 : H a = some (.ins C dx ws)) (h2 : H dx = some (.own x)) : a ≠ dx := fun z => by
  rw [← z, h1] at h2
  cases h2
theorem HR.setP (h : HR K C a R dx pc pp vc vp ws G H) {v2 : List V} {ps : List (Option Int × Int)} (d : DpAll K G v2 (ps.map pastD)) : HR K C a { R with past := ps } dx pc pp vc v2 ws G (upd H pp (.lst v2)) :=
  ⟨by rw [upd_ne (ne_ins_lst h.ha h.hp)]; exact h.ha, by rw [upd_ne (ne_own_lst h.hx h.hp)]; exact h.hx, by rw [upd_ne h.ne]; exact h.hc, upd_same, h.ne, ⟨h.w.len, h.w.budget, h.w.kind, h.w.height, h.w.size, h.w.shift, h.w.page, h.w.spent, h.w.meth⟩, h.wc, h.wp, h.dc, d, h.ga, h.gx, h.gc, h.gp⟩
theorem HR.setC (h : HR K C a R dx pc pp vc vp ws G H) {v2 : List V} {cs : List PyData} (d : DpAll K G v2 cs) : HR K C a { R with calls := cs } dx pc pp v2 vp ws G (upd H pc (.lst v2)) :=
  ⟨by rw [upd_ne (ne_ins_lst h.ha h.hc)]; exact h.ha, by rw [upd_ne (ne_own_lst h.hx h.hc)]; exact h.hx, upd_same, by rw [upd_ne (fun z => h.ne z.symm)]; exact h.hp, h.ne, ⟨h.w.len, h.w.budget, h.w.kind, h.w.height, h.w.size, h.w.shift, h.w.page, h.w.spent, h.w.meth⟩, h.wc, h.wp, d, h.dp, h.ga, h.gx, h.gc, h.gp⟩
theorem putF_len {f : Str} {v u : V} : ∀ {ws : List (Str × V)}, ws.lookup f = some u → (putF f v ws).length = ws.length
  | [], h => by cases h
  | (g, x) :: r, h => by
    show (if g = f then (g, v) :: r else (g, x) :: putF f v r).length = _
    by_cases e : g = f
    · rw [if_pos e]
      rfl
    · rw [if_neg e]
      have h2 : r.lookup f = some u := by
        have hb : (f == g) = false := beq_eq_false_iff_ne.mpr fun z => e z.symm
        simp only [List.lookup, hb] at h
        exact h
      rw [List.length_cons, List.length_cons, putF_len h2]
theorem lk_ne {f g : Str} {v : V} {x : Option V} (h : ws.lookup g = x) (n : ¬ g = f) : (putF f v ws).lookup g = x := by
  rw [lookup_putF, if_neg n]
  exact h
theorem lk_eq {f : Str} {v : V} : (putF f v ws).lookup f = some v := by rw [lookup_putF, if_pos rfl]
theorem meth_ne_page : ∀ m ∈ rMeths, ¬ m = ("own_page" : Str) ∧ ¬ m = ("own_spent" : Str) := by decide +kernel
theorem RdW.setPage (w : RdW ws R) (p : Option Int) : RdW (putF "own_page" (pgV p) ws) { R with page := p } :=
  ⟨by rw [putF_len w.page]; exact w.len, lk_ne w.budget (by decide +kernel), lk_ne w.kind (by decide +kernel), lk_ne w.height (by decide +kernel), lk_ne w.size (by decide +kernel), lk_ne w.shift (by decide +kernel), lk_eq, lk_ne w.spent (by decide +kernel), fun m hm => lk_ne (w.meth m hm) (meth_ne_page m hm).1⟩
theorem RdW.setSpent (w : RdW ws R) (n : Int) : RdW (putF "own_spent" (.int n) ws) { R with spent := n } :=
  ⟨by rw [putF_len w.spent]; exact w.len, lk_ne w.budget (by decide +kernel), lk_ne w.kind (by decide +kernel), lk_ne w.height (by decide +kernel), lk_ne w.size (by decide +kernel), lk_ne w.shift (by decide +kernel), lk_ne w.page (by decide +kernel), lk_eq, fun m hm => lk_ne (w.meth m hm) (meth_ne_page m hm).2⟩
theorem HR.setPage (h : HR K C a R dx pc pp vc vp ws G H) (p : Option Int) : HR K C a { R with page := p } dx pc pp vc vp (putF "own_page" (pgV p) ws) G (upd H a (.ins C dx (putF "own_page" (pgV p) ws))) :=
  ⟨upd_same, by rw [upd_ne (fun z => ne_ins_own h.ha h.hx z.symm)]; exact h.hx, by rw [upd_ne (fun z => ne_ins_lst h.ha h.hc z.symm)]; exact h.hc, by rw [upd_ne (fun z => ne_ins_lst h.ha h.hp z.symm)]; exact h.hp, h.ne, h.w.setPage p, lk_ne h.wc (by decide +kernel), lk_ne h.wp (by decide +kernel), h.dc, h.dp, h.ga, h.gx, h.gc, h.gp⟩
theorem HR.setSpent (h : HR K C a R dx pc pp vc vp ws G H) (n : Int) : HR K C a { R with spent := n } dx pc pp vc vp (putF "own_spent" (.int n) ws) G (upd H a (.ins C dx (putF "own_spent" (.int n) ws))) :=
  ⟨upd_same, by rw [upd_ne (fun z => ne_ins_own h.ha h.hx z.symm)]; exact h.hx, by rw [upd_ne (fun z => ne_ins_lst h.ha h.hc z.symm)]; exact h.hc, by rw [upd_ne (fun z => ne_ins_lst h.ha h.hp z.symm)]; exact h.hp, h.ne, h.w.setSpent n, lk_ne h.wc (by decide +kernel), lk_ne h.wp (by decide +kernel), h.dc, h.dp, h.ga, h.gx, h.gc, h.gp⟩
end
def perfF (sf : List PyData → PyData) (R : RS) (op : OpD) : RS := { R with page := (behF sf R (R.page, R.spent) op).1, spent := (behF sf R (R.page, R.spent) op).2, past := R.past ++ [(R.page, R.spent)], calls := R.calls ++ [opD op] }
def spPerf (K : PySem.W.Frag) (C : Addr) (sf : List PyData → PyData) : Sp := fun vs H Q _ => ∃ G F R t a v op, vs = [.ref a, v] ∧ Same G H ∧ HoldR K C a R F G H ∧ RsOk R t ∧ t ≤ 1000 ∧ OpOk R op ∧ Dp K G v (opD op) ∧ ∀ G' H' F', GrF F G H F' G' H' → HoldR K C a (perfF sf R op) F' G' H' → Q .non H'
def spSearch (K : PySem.W.Frag) (C : Addr) (sf : List PyData → PyData) : Sp := fun vs H Q _ => ∃ G F R t a v d n, vs = [.ref a, v] ∧ Same G H ∧ HoldR K C a R F G H ∧ RsOk R t ∧ t ≤ 1000 ∧ OpOk R (.search d n) ∧ Dp K G v (ND d n) ∧ ∀ G' H' F', GrF F G H F' G' H' → HoldR K C a (perfF sf R (.search d n)) F' G' H' → Q .non H'
def spDrop (K : PySem.W.Frag) (C : Addr) (sf : List PyData → PyData) : Sp := fun vs H Q _ => ∃ G F R t a, vs = [.ref a] ∧ Same G H ∧ HoldR K C a R F G H ∧ RsOk R t ∧ t ≤ 1000 ∧ ∀ G' H' F', GrF F G H F' G' H' → HoldR K C a (perfF sf R .drop) F' G' H' → Q .non H'
section
variable {P : Program} {w : World} {K : PySem.W.Frag} {mg : Str → Option Value} {base : Heap}
theorem ok_perform {O : Bo K} {sf : List PyData → PyData} (B : Bt w K mg) (D : DfM K O.cR "perform" "Reader.perform" s_Reader_perform) (M_Reader_behind : CalM P w K mg base O.cR "behind" 5 ["self", "page", "spent", "operation"] (spBeh K O.cR sf)) : CalM P w K mg base O.cR "perform" 6 ["self", "operation"] (spPerf K O.cR sf) := by
  obtain ⟨f, fd, F, hm⟩ := D
  refine ⟨O.hR, f, fd, ?_, hm, F.bindsN (fun _ _ _ _ _ _ us hl => match us, hl with | [_, _], _ => rfl)⟩
  refine mk_raw F sc_Reader_perform (fun vs H Q E h => ?_) ⟨_, fun cdv A outer s H E f hr => (pss_cons (ps_asg (pe_methC M_Reader_behind hr (pv 0) (pa_cons (pe_fldK K (pv 0) rfl) (pa_cons (pe_fldK K (pv 0) rfl) (pa_cons (pv 1) pa_nil)))) (pg_tupK (n := 2) K rfl (pgs_cons (pg_name (i := 2) sc_Reader_perform.nd rfl (Or.inl rfl)) (pgs_cons (pg_name (i := 3) sc_Reader_perform.nd rfl (Or.inl rfl)) pgs_nil))))
    (pss_cons (ps_expr (pe_appK K (pe_fldK K (pv 0) rfl) (pe_tup (pa_cons (pe_fldK K (pv 0) rfl) (pa_cons (pe_fldK K (pv 0) rfl) pa_nil)))))
    (pss_cons (ps_expr (pe_appK K (pe_fldK K (pv 0) rfl) (pv 1)))
    (pss_one (ps_asg (pe_tup (pa_cons (pv 2) (pa_cons (pv 3) pa_nil))) (pg_tupK (n := 2) K rfl (pgs_cons (pg_fldK K (pv 0)) (pgs_cons (pg_fldK K (pv 0)) pgs_nil))))))))
    , ?_⟩
  · obtain ⟨_, _, _, _, _, _, _, rfl, _⟩ := h
    rfl
  rintro vs H Q E ⟨G, F, R, t, a, v, op, rfl, gh, ⟨dx, pc, pp, vc, vp, ws, hr, rfl⟩, ok, ht, oo, hv, q⟩
  have n1 : NoAttr K O.cR "own_page" := O.nR _ (by decide +kernel)
  have n2 : NoAttr K O.cR "own_spent" := O.nR _ (by decide +kernel)
  have n3 : NoAttr K O.cR "own_past" := O.nR _ (by decide +kernel)
  have n4 : NoAttr K O.cR "own_calls" := O.nR _ (by decide +kernel)
  have m1 : ws.lookup ("behind" : Str) = none := hr.w.meth _ (by decide +kernel)
  refine ⟨_, rfl, a, dx, ws, rfl, hr.ha, m1, _, rfl, a, O.cR, dx, ws, _, rfl, hr.ha, O.hR, n1, hr.w.page, _, rfl, a, O.cR, dx, ws, _, rfl, hr.ha, O.hR, n2, hr.w.spent, _, rfl, ?_⟩
  refine ⟨G, R, t, .ref a, [pgV R.page, .int R.spent, v], R.page, R.spent, op, rfl, rfl, gh, ⟨a, dx, ws, rfl, hr.ha, hr.w⟩, ok, oo, .cons (pg_dp _) (.cons (.int _) (.cons hv .nil)), ok.pg, fun u G1 H1 g1 d1 => ?_⟩
  have hr1 := hr.pure g1
  generalize hb : behF sf R (R.page, R.spent) op = b at *
  cases d1 with
  | tup hs ha =>
    cases ha with
    | cons h1 ha =>
      cases ha with
      | cons h2 ha =>
        cases ha
        have e1 := pg_v h1
        subst e1
        cases h2
        refine ⟨_, _, rfl, same_seqT g1.gh hs, rfl, _, _, rfl, _, _, rfl, rfl, ?_⟩
        -- the past grows
        refine ⟨_, rfl, a, O.cR, dx, ws, _, rfl, hr1.ha, O.hR, n3, hr1.wp, .inl ⟨rfl, vp, .inl (.inl hr1.hp)⟩, _, rfl, a, O.cR, dx, ws, _, rfl, hr1.ha, O.hR, n1, hr1.w.page, _, rfl, a, O.cR, dx, ws, _, rfl, hr1.ha, O.hR, n2, hr1.w.spent, (by decide : 2 ≤ 16777216), fun T hT => ?_⟩
        have g2 := Gr.newG (o := .tup [pgV R.page, .int R.spent]) g1.gh hT
        have hr2 := hr1.pure g2
        have dT : Dp K (upd G1 T (.tup [pgV R.page, .int R.spent])) (.ref T) (pastD (R.page, R.spent)) := .tup (.inl (.inl upd_same)) (.cons (pg_dp _) (.cons (.int _) .nil))
        have lp : vp.length ≤ 1000 := by
          rw [hr.dp.len, List.length_map]
          have := ok.lt
          omega
        refine ⟨pp, vp, .ref T, rfl, rfl, hr2.hp, Nat.lt_of_le_of_lt lp (by decide), ?_⟩
        have hr3 := hr2.setP (v2 := vp ++ [.ref T]) (ps := R.past ++ [(R.page, R.spent)]) (by
          rw [List.map_append]
          exact DpAll.app hr2.dp (.cons dT .nil))
        have gf3 : GrF (rF a dx pc pp) G H (rF a dx pc pp) _ _ := (GrF.pure (g1.trans g2)).trans (GrF.upd (o := .lst (vp ++ [.ref T])) g2.gh (.inr (.inr (.inr rfl))) hr2.gp)
        -- the calls grow
        have lc : vc.length ≤ 1000 := by
          rw [hr.dc.len, ok.ln]
          have := ok.lt
          omega
        refine ⟨_, rfl, a, O.cR, dx, ws, _, rfl, hr3.ha, O.hR, n4, hr3.wc, .inl ⟨rfl, vc, .inl (.inl hr3.hc)⟩, _, rfl, pc, vc, v, rfl, rfl, hr3.hc, Nat.lt_of_le_of_lt lc (by decide), ?_⟩
        have hv3 := dp_mono gf3.gg _ _ hv
        have hr4 := hr3.setC (v2 := vc ++ [v]) (cs := R.calls ++ [opD op]) (DpAll.app hr3.dc (.cons hv3 .nil))
        have gf4 := gf3.trans (GrF.upd (o := .lst (vc ++ [v])) gf3.gh (.inr (.inr (.inl rfl))) hr3.gc)
        -- page, spent
        refine ⟨_, rfl, _, rfl, (by decide : 2 ≤ 16777216), fun T2 hT2 => ?_⟩
        have g5 := Gr.newH (o := .tup [pgV b.1, .int b.2]) gf4.gh hT2
        have hr5 := hr4.pure g5
        have gf5 := gf4.trans (GrF.pure g5)
        have hr6 := hr5.setPage b.1
        have gf6 := gf5.trans (GrF.upd (o := .ins O.cR dx (putF "own_page" (pgV b.1) ws)) gf5.gh (.inl rfl) hr5.ga)
        have hr7 := hr6.setSpent b.2
        have gf7 := gf6.trans (GrF.upd (o := .ins O.cR dx (putF "own_spent" (.int b.2) (putF "own_page" (pgV b.1) ws))) gf6.gh (.inl rfl) hr6.ga)
        refine ⟨T2, [pgV b.1, .int b.2], rfl, .inl (.inl upd_same), rfl, _, _, rfl, _, rfl, a, O.cR, dx, ws, rfl, hr5.ha, O.hR, n1, Nat.lt_of_le_of_lt hr5.w.len (by decide), _, _, rfl, _, rfl, a, O.cR, dx, _, rfl, hr6.ha, O.hR, n2, Nat.lt_of_le_of_lt hr6.w.len (by decide), rfl, ?_⟩
        have e : perfF sf R op = { R with page := b.1, spent := b.2, past := R.past ++ [(R.page, R.spent)], calls := R.calls ++ [opD op] } := by
          unfold perfF
          rw [hb]
        exact q _ _ _ gf7 ⟨dx, pc, pp, vc ++ [v], vp ++ [V.ref T], putF "own_spent" (.int b.2) (putF "own_page" (pgV b.1) ws), by rw [e]; exact hr7, rfl⟩
theorem ok_search {O : Bo K} {sf : List PyData → PyData} (B : Bt w K mg) (D : DfM K O.cR "search" "Reader.search" s_Reader_search) (M_Reader_perform : CalM P w K mg base O.cR "perform" 6 ["self", "operation"] (spPerf K O.cR sf)) : CalM P w K mg base O.cR "search" 7 ["self", "node"] (spSearch K O.cR sf) := by
  obtain ⟨f, fd, F, hm⟩ := D
  refine ⟨O.hR, f, fd, ?_, hm, F.bindsN (fun _ _ _ _ _ _ us hl => match us, hl with | [_, _], _ => rfl)⟩
  refine mk_raw F sc_Reader_search (fun vs H Q E h => ?_) ⟨_, fun cdv A outer s H E f hr => (pss_one (ps_expr (pe_methC M_Reader_perform hr (pv 0) (pa_cons (pe_tup (pa_cons pe_str (pa_cons (pv 1) pa_nil))) pa_nil))))
    , ?_⟩
  · obtain ⟨_, _, _, _, _, _, _, _, rfl, _⟩ := h
    rfl
  rintro vs H Q E ⟨G, F, R, t, a, v, d, n, rfl, gh, ⟨dx, pc, pp, vc, vp, ws, hr, rfl⟩, ok, ht, oo, hv, q⟩
  have m1 : ws.lookup ("perform" : Str) = none := hr.w.meth _ (by decide +kernel)
  refine ⟨_, rfl, a, dx, ws, rfl, hr.ha, m1, _, rfl, (by decide : 2 ≤ 16777216), fun T hT => ?_⟩
  have g1 := Gr.newG (o := .tup [.str "search", v]) gh hT
  have dT : Dp K (upd G T (.tup [.str "search", v])) (.ref T) (opD (.search d n)) := .tup (.inl (.inl upd_same)) (.cons (.str _) (.cons (dp_mono g1.gg _ _ hv) .nil))
  refine ⟨_, rF a dx pc pp, R, t, a, .ref T, .search d n, rfl, g1.gh, ⟨dx, pc, pp, vc, vp, ws, hr.pure g1, rfl⟩, ok, ht, oo, dT, fun G' H' F' gf hR => ?_⟩
  exact q G' H' F' ((GrF.pure g1).trans gf) hR
theorem ok_drop {O : Bo K} {sf : List PyData → PyData} (B : Bt w K mg) (D : DfM K O.cR "drop" "Reader.drop" s_Reader_drop) (M_Reader_perform : CalM P w K mg base O.cR "perform" 6 ["self", "operation"] (spPerf K O.cR sf)) : CalM P w K mg base O.cR "drop" 7 ["self"] (spDrop K O.cR sf) := by
  obtain ⟨f, fd, F, hm⟩ := D
  refine ⟨O.hR, f, fd, ?_, hm, F.bindsN (fun _ _ _ _ _ _ us hl => match us, hl with | [_], _ => rfl)⟩
  refine mk_raw F sc_Reader_drop (fun vs H Q E h => ?_) ⟨_, fun cdv A outer s H E f hr => (pss_one (ps_expr (pe_methC M_Reader_perform hr (pv 0) (pa_cons (pe_tup (pa_cons pe_str pa_nil)) pa_nil))))
    , ?_⟩
  · obtain ⟨_, _, _, _, _, rfl, _⟩ := h
    rfl
  rintro vs H Q E ⟨G, F, R, t, a, rfl, gh, ⟨dx, pc, pp, vc, vp, ws, hr, rfl⟩, ok, ht, q⟩
  have m1 : ws.lookup ("perform" : Str) = none := hr.w.meth _ (by decide +kernel)
  refine ⟨_, rfl, a, dx, ws, rfl, hr.ha, m1, (by decide : 1 ≤ 16777216), fun T hT => ?_⟩
  have g1 := Gr.newG (o := .tup [.str "drop"]) gh hT
  have dT : Dp K (upd G T (.tup [.str "drop"])) (.ref T) (opD .drop) := .tup (.inl (.inl upd_same)) (.cons (.str _) .nil)
  refine ⟨_, rF a dx pc pp, R, t, a, .ref T, .drop, rfl, g1.gh, ⟨dx, pc, pp, vc, vp, ws, hr.pure g1, rfl⟩, ok, ht, trivial, dT, fun G' H' F' gf hR => ?_⟩
  exact q G' H' F' ((GrF.pure g1).trans gf) hR
end
end
end
end
section
set_option exponentiation.threshold 5000
section
open PySem L2
section
def newR (k : Str) (h s m : Int) : RS := ⟨k, h, s, m, none, 0, [], []⟩
def NewOk (k : Str) (h s m : Int) : Prop := k ∈ kinds ∧ 1 ≤ h ∧ h ≤ 100 ∧ 1 ≤ s ∧ s ≤ 10 ^ 30 ∧ 0 ≤ m ∧ m < s
theorem newR_ok {k : Str} {h s m : Int} (o : NewOk k h s m) : RsOk (newR k h s m) 0 :=
  ⟨o.1, o.2.1, o.2.2.1, o.2.2.2.1, o.2.2.2.2.1, o.2.2.2.2.2.1, o.2.2.2.2.2.2, (fun n e => by cases e), ⟨Int.le_refl 0, Int.le_refl 0⟩, (fun p hp => nomatch hp), rfl, Nat.le_refl 0, fun c hc => nomatch hc⟩
def spUndo (K : PySem.W.Frag) (C : Addr) : Sp := fun vs H Q _ => ∃ G F R a ps p cs c, vs = [.ref a] ∧ Same G H ∧ HoldR K C a R F G H ∧ R.past = ps ++ [p] ∧ R.calls = cs ++ [c] ∧ ∀ G' H' F', GrF F G H F' G' H' → HoldR K C a { R with page := p.1, spent := p.2, past := ps, calls := cs } F' G' H' → Q .non H'
def spLog (K : PySem.W.Frag) (C : Addr) : Sp := fun vs H Q _ => ∃ G F R a, vs = [.ref a] ∧ Same G H ∧ HoldR K C a R F G H ∧ ∀ v G' H', Gr G H G' H' → Dp K G' v (.list R.calls) → Q v H'
def iF (a dx : Addr) (x : Addr) : Prop := x = a ∨ x = dx
def spInit (K : PySem.W.Frag) (C : Addr) : Sp := fun vs H Q _ => ∃ G a dx us k h s m, vs = .ref a :: us ∧ us.length = 4 ∧ Same G H ∧ H a = some (.ins C dx []) ∧ H dx = some (.own a) ∧ G a = none ∧ G dx = none ∧ DpAll K G us [.str k, .int h, .int s, .int m] ∧ NewOk k h s m ∧
  ∀ G' H' F', GrF (iF a dx) G H F' G' H' → HoldR K C a (newR k h s m) F' G' H' → Q .non H'
theorem dpa_snoc {K : PySem.W.Frag} {G : Hp} : ∀ {ds : List PyData} {d : PyData} {vs : List V}, DpAll K G vs (ds ++ [d]) → ∃ us v, vs = us ++ [v] ∧ DpAll K G us ds ∧ Dp K G v d
  | [], d, vs, h => by
    cases h with
    | cons h1 h2 =>
      cases h2
      exact ⟨[], _, rfl, .nil, h1⟩
  | e :: ds, d, vs, h => by
    cases h with
    | cons h1 h2 =>
      obtain ⟨us, v, rfl, h3, h4⟩ := dpa_snoc (ds := ds) h2
      exact ⟨_ :: us, v, rfl, .cons h1 h3, h4⟩
theorem past_shaped : ∀ ps : List (Option Int × Int), PyData.canLayAll0 (ps.map pastD) = true ∧ PyData.depthAll (ps.map pastD) ≤ 1
  | [] => ⟨rfl, Nat.zero_le _⟩
  | (p, n) :: ps => by
    obtain ⟨a, b⟩ := past_shaped ps
    have k : (pastD (p, n)).canLay0 = true ∧ (pastD (p, n)).depth ≤ 1 := by
      cases p
      · exact ⟨rfl, Nat.le_refl _⟩
      · exact ⟨rfl, Nat.le_refl _⟩
    refine ⟨?_, ?_⟩
    · show ((pastD (p, n)).canLay0 && PyData.canLayAll0 (ps.map pastD)) = true
      rw [k.1, a]
      rfl
    · show max (pastD (p, n)).depth (PyData.depthAll (ps.map pastD)) ≤ 1
      have := k.2
      omega
theorem shaped_list {ds : List PyData} {n : Nat} (h1 : PyData.canLayAll0 ds = true) (h2 : PyData.depthAll ds ≤ n) (hn : n ≤ 60 := by decide) : SeqAt.shaped (.list ds) = true := by
  unfold SeqAt.shaped
  have e1 : (PyData.list ds).canLay0 = true := h1
  have e2 : decide ((PyData.list ds).depth ≤ 64) = true := dtr (by
    show PyData.depthAll ds + 1 ≤ 64
    omega)
  rw [e1, e2]
  rfl
theorem eqv_cons_nil {x : PyData} {xs : List PyData} : PyData.eqv (.list (x :: xs)) (.list []) = false := rfl
theorem get_snoc {α : Type} (us : List α) (v : α) : (us ++ [v])[(us ++ [v]).length - 1]? = some v := by
  have e : (us ++ [v]).length - 1 = us.length := by
    rw [List.length_append]
    show us.length + 1 - 1 = _
    omega
  rw [e, List.getElem?_append_right (Nat.le_refl _), Nat.sub_self]
  rfl
structure HI (C a dx : Addr) (ws : List (Str × V)) (G H : Hp) : Prop where
  ha : H a = some (.ins C dx ws)
  hx : H dx = some (.own a)
  ga : G a = none
  gx : G dx = none
theorem HI.pure {C a dx : Addr} {ws : List (Str × V)} {G H G' H' : Hp} (h : HI C a dx ws G H) (g : Gr G H G' H') : HI C a dx ws G' H' := ⟨g.hh _ _ h.ha, g.hh _ _ h.hx, (g.ag _ _ h.ha).trans h.ga, (g.ag _ _ h.hx).trans h.gx⟩
theorem HI.set {C a dx : Addr} {ws ws' : List (Str × V)} {G H : Hp} (h : HI C a dx ws G H) : HI C a dx ws' G (upd H a (.ins C dx ws')) := ⟨upd_same, by rw [upd_ne (fun z => ne_ins_own h.ha h.hx z.symm)]; exact h.hx, h.ga, h.gx⟩
section
variable {P : Program} {w : World} {K : PySem.W.Frag} {mg : Str → Option Value} {base : Heap}
theorem ok_undo {O : Bo K} (B : Bt w K mg) (D : DfM K O.cR "undo" "Reader.undo" s_Reader_undo) : CalM P w K mg base O.cR "undo" 1 ["self"] (spUndo K O.cR) := by
  obtain ⟨f, fd, F, hm⟩ := D
  refine ⟨O.hR, f, fd, ?_, hm, F.bindsN (fun _ _ _ _ _ _ us hl => match us, hl with | [_], _ => rfl)⟩
  refine mk_raw F sc_Reader_undo (fun vs H Q E h => ?_) ⟨_, fun cdv A outer s H E f hr => (pss_cons (ps_if (pt_cmpR (op_eqDK K (hu64 hr)) (pe_fldK K (pv 0) rfl) (pe_lst pa_nil) (nomark _)) pss_never pss_nil)
    (pss_cons (ps_asg (pe_popK K (pe_fldK K (pv 0) rfl)) (pg_tupK (n := 2) K rfl (pgs_cons (pg_fldK K (pv 0)) (pgs_cons (pg_fldK K (pv 0)) pgs_nil))))
    (pss_one (ps_expr (pe_popK K (pe_fldK K (pv 0) rfl))))))
    , ?_⟩
  · obtain ⟨_, _, _, _, _, _, _, _, rfl, _⟩ := h
    rfl
  rintro vs H Q E ⟨G, F, R, a, ps, p, cs, c, rfl, gh, ⟨dx, pc, pp, vc, vp, ws, hr, rfl⟩, ep, ec, q⟩
  have n1 : NoAttr K O.cR "own_page" := O.nR _ (by decide +kernel)
  have n2 : NoAttr K O.cR "own_spent" := O.nR _ (by decide +kernel)
  have n3 : NoAttr K O.cR "own_past" := O.nR _ (by decide +kernel)
  have n4 : NoAttr K O.cR "own_calls" := O.nR _ (by decide +kernel)
  have hdp := hr.dp
  rw [ep, List.map_append] at hdp
  obtain ⟨vps, vl, rfl, dps, dl⟩ := dpa_snoc hdp
  have hdc := hr.dc
  rw [ec] at hdc
  obtain ⟨vcs, vcl, rfl, dcs, _⟩ := dpa_snoc hdc
  refine ⟨_, rfl, a, O.cR, dx, ws, _, rfl, hr.ha, O.hR, n3, hr.wp, (by decide : 0 ≤ 16777216), fun L hL => ?_⟩
  have g1 := Gr.newH (o := .lst []) gh hL
  have hr1 := hr.pure g1
  have sh := past_shaped R.past
  have ev : PyData.eqv (.list (R.past.map pastD)) (.list []) = false := by
    rw [ep]
    cases ps with
    | nil => rfl
    | cons x xs => rfl
  refine ⟨.list (R.past.map pastD), .list [], .lst (.inl (.inl hr1.hp)) (dpa_mono g1.gh _ _ hr1.dp), .lst (.inl (.inl upd_same)) .nil, shaped_list sh.1 sh.2, rfl, _, rfl, ?_⟩
  rw [ev]
  dsimp only
  rw [if_neg Bool.false_ne_true]
  -- the page and the sum
  refine ⟨_, rfl, a, O.cR, dx, ws, _, rfl, hr1.ha, O.hR, n3, hr1.wp, .inl ⟨rfl, _, .inl (.inl hr1.hp)⟩, pp, vps ++ [vl], vl, rfl, rfl, hr1.hp, get_snoc _ _, ?_⟩
  rw [List.dropLast_concat]
  have hr2 := hr1.setP (v2 := vps) (ps := ps) dps
  have gf2 : GrF (rF a dx pc pp) G H (rF a dx pc pp) _ _ := (GrF.pure g1).trans (GrF.upd (o := .lst vps) g1.gh (.inr (.inr (.inr rfl))) hr1.gp)
  cases dl with
  | tup hs ha =>
    cases ha with
    | cons h1 ha =>
      cases ha with
      | cons h2 ha =>
        cases ha
        have e1 := pg_v h1
        subst e1
        cases h2
        have hr6 := hr2.setPage p.1
        have gf6 := gf2.trans (GrF.upd (o := .ins O.cR dx (putF "own_page" (pgV p.1) ws)) gf2.gh (.inl rfl) hr2.ga)
        have hr7 := hr6.setSpent p.2
        have gf7 := gf6.trans (GrF.upd (o := .ins O.cR dx (putF "own_spent" (.int p.2) (putF "own_page" (pgV p.1) ws))) gf6.gh (.inl rfl) hr6.ga)
        refine ⟨_, [pgV p.1, .int p.2], rfl, same_seqT gf2.gh hs, rfl, _, _, rfl, _, rfl, a, O.cR, dx, ws, rfl, hr2.ha, O.hR, n1, Nat.lt_of_le_of_lt hr2.w.len (by decide), _, _, rfl, _, rfl, a, O.cR, dx, _, rfl, hr6.ha, O.hR, n2, Nat.lt_of_le_of_lt hr6.w.len (by decide), rfl, ?_⟩
        -- the call
        refine ⟨_, rfl, a, O.cR, dx, _, _, rfl, hr7.ha, O.hR, n4, hr7.wc, .inl ⟨rfl, _, .inl (.inl hr7.hc)⟩, pc, vcs ++ [vcl], vcl, rfl, rfl, hr7.hc, get_snoc _ _, ?_⟩
        rw [List.dropLast_concat]
        have hr8 := hr7.setC (v2 := vcs) (cs := cs) dcs
        have gf8 := gf7.trans (GrF.upd (o := .lst vcs) gf7.gh (.inr (.inr (.inl rfl))) hr7.gc)
        exact q _ _ _ gf8 ⟨dx, pc, pp, vcs, vps, putF "own_spent" (.int p.2) (putF "own_page" (pgV p.1) ws), hr8, rfl⟩
theorem ok_log {O : Bo K} (B : Bt w K mg) (D : DfM K O.cR "log" "Reader.log" s_Reader_log) : CalM P w K mg base O.cR "log" 1 ["self"] (spLog K O.cR) := by
  obtain ⟨f, fd, F, hm⟩ := D
  refine ⟨O.hR, f, fd, ?_, hm, F.bindsN (fun _ _ _ _ _ _ us hl => match us, hl with | [_], _ => rfl)⟩
  refine mk_raw F sc_Reader_log (fun vs H Q E h => ?_) ⟨_, fun cdv A outer s H E f hr => (pss_one (ps_ret (pe_callTy (call_list_ofK K) (by rfl) B.list (by decide +kernel) (pa_cons (pe_fldK K (pv 0) rfl) pa_nil))))
    , ?_⟩
  · obtain ⟨_, _, _, _, rfl, _⟩ := h
    rfl
  rintro vs H Q E ⟨G, F, R, a, rfl, gh, ⟨dx, pc, pp, vc, vp, ws, hr, rfl⟩, q⟩
  have n4 : NoAttr K O.cR "own_calls" := O.nR _ (by decide +kernel)
  refine ⟨_, rfl, a, O.cR, dx, ws, _, rfl, hr.ha, O.hR, n4, hr.wc, pc, vc, rfl, .inl (.inl (.inl hr.hc)), fun L hL => ?_⟩
  have g1 := Gr.newG (o := .lst vc) gh hL
  exact q _ _ _ g1 (.lst (.inl (.inl upd_same)) (dpa_mono g1.gg _ _ hr.dc))
theorem meth_ne : ∀ m ∈ rMeths, ∀ f ∈ rNames, ¬ m = f := by decide +kernel
theorem ok_init {O : Bo K} (B : Bt w K mg) (D : DfC K mg "Reader" O.cR "__init__" "Reader.__init__" s_Reader_init) (h_require_kind : F_require_kind P w K mg base) (h_require_height : F_require_height P w K mg base) (h_require_size : F_require_size P w K mg base) (h_require_shift : F_require_shift P w K mg base) :
    CalC P w K mg base "Reader" O.cR 4 ["self", "kind", "height", "size", "shift"] (spInit K O.cR) := by
  obtain ⟨f_require_kind, p_require_kind, C_require_kind⟩ := h_require_kind
  obtain ⟨f_require_height, p_require_height, C_require_height⟩ := h_require_height
  obtain ⟨f_require_size, p_require_size, C_require_size⟩ := h_require_size
  obtain ⟨f_require_shift, p_require_shift, C_require_shift⟩ := h_require_shift
  obtain ⟨f, fd, F, hmg, M⟩ := D
  refine ⟨f, fd, ?_, hmg, M, F.bindsN (fun _ _ _ _ _ _ us hl => match us, hl with | [_, _, _, _, _], _ => rfl)⟩
  refine mk_raw F sc_Reader_init (fun vs H Q E h => ?_) ⟨_, fun cdv A outer s H E f hr => (pss_cons (ps_expr (pe_callC C_require_kind hr (by rfl) (pa_cons (pv 1) pa_nil)))
    (pss_cons (ps_expr (pe_callC C_require_height hr (by rfl) (pa_cons (pv 2) pa_nil)))
    (pss_cons (ps_expr (pe_callC C_require_size hr (by rfl) (pa_cons (pv 3) (pa_cons (pe_glob (by rfl) B.c_MOST_SIZE B.r_MOST_SIZE) pa_nil))))
    (pss_cons (ps_expr (pe_callC C_require_shift hr (by rfl) (pa_cons (pv 3) (pa_cons (pv 4) pa_nil))))
    (pss_cons (ps_fldK K (pv 0) pe_non rfl)
    (pss_cons (ps_fldK K (pv 0) (pv 1) rfl)
    (pss_cons (ps_fldK K (pv 0) (pv 2) rfl)
    (pss_cons (ps_fldK K (pv 0) (pv 3) rfl)
    (pss_cons (ps_fldK K (pv 0) (pv 4) rfl)
    (pss_cons (ps_fldK K (pv 0) pe_non rfl)
    (pss_cons (ps_fldK K (pv 0) pe_int rfl)
    (pss_cons (ps_fldK K (pv 0) (pe_lst pa_nil) rfl)
    (pss_one (ps_fldK K (pv 0) (pe_lst pa_nil) rfl))))))))))))))
    , ?_⟩
  · obtain ⟨_, _, _, _, _, _, _, _, rfl, h, _⟩ := h
    rw [List.length_cons, h]
    rfl
  rintro vs H Q E ⟨G, a, dx, us, k, h, s, m, rfl, hl, gh, ha, hx, ga, gx, hus, ok, q⟩
  obtain ⟨o1, o2, o3, o4, o5, o6, o7⟩ := ok
  have nb : NoAttr K O.cR "own_budget" := O.nR _ (by decide +kernel)
  have nk : NoAttr K O.cR "own_kind" := O.nR _ (by decide +kernel)
  have nh : NoAttr K O.cR "own_height" := O.nR _ (by decide +kernel)
  have ns : NoAttr K O.cR "own_size" := O.nR _ (by decide +kernel)
  have nm : NoAttr K O.cR "own_shift" := O.nR _ (by decide +kernel)
  have np : NoAttr K O.cR "own_page" := O.nR _ (by decide +kernel)
  have nt : NoAttr K O.cR "own_spent" := O.nR _ (by decide +kernel)
  have nc : NoAttr K O.cR "own_calls" := O.nR _ (by decide +kernel)
  have na : NoAttr K O.cR "own_past" := O.nR _ (by decide +kernel)
  obtain ⟨_, rfl, c1⟩ := use_fn (K := K) p_require_kind [.str k] ⟨_, rfl, o1⟩
  obtain ⟨_, rfl, c2⟩ := use_fn (K := K) p_require_height [.int h] ⟨_, rfl, o2, o3⟩
  obtain ⟨_, rfl, c3⟩ := use_fn (K := K) p_require_size [.int s, .int 1000000000000000000000000000000] ⟨_, _, rfl, o4, o5⟩
  obtain ⟨_, rfl, c4⟩ := use_fn (K := K) p_require_shift [.int s, .int m] ⟨_, _, rfl, o6, o7⟩
  cases hus with
  | cons d1 hus =>
    cases hus with
    | cons d2 hus =>
      cases hus with
      | cons d3 hus =>
        cases hus with
        | cons d4 hus =>
          cases hus
          cases d1
          cases d2
          cases d3
          cases d4
          have i0 : HI O.cR a dx [] G H := ⟨ha, hx, ga, gx⟩
          refine ⟨_, rfl, c1 G H _ gh (.cons (.str _) .nil) _ E0 fun _ G1 H1 g1 _ => ?_⟩
          refine ⟨_, rfl, c2 G1 H1 _ g1.gh (.cons (.int _) .nil) _ E0 fun _ G2 H2 g2 _ => ?_⟩
          refine ⟨_, rfl, c3 G2 H2 _ g2.gh (.cons (.int _) (.cons (.int _) .nil)) _ E0 fun _ G3 H3 g3 _ => ?_⟩
          refine ⟨_, rfl, _, rfl, c4 G3 H3 _ g3.gh (.cons (.int _) (.cons (.int _) .nil)) _ E0 fun _ G4 H4 g4 _ => ?_⟩
          have gr := ((g1.trans g2).trans g3).trans g4
          have i4 := i0.pure gr
          have f4 : GrF (iF a dx) G H (iF a dx) G4 H4 := GrF.pure gr
          refine ⟨_, rfl, a, O.cR, dx, _, rfl, i4.ha, O.hR, nb, by decide, ?_⟩
          have i5 := i4.set (ws' := putF "own_budget" .non [])
          have f5 := f4.trans (GrF.upd (o := .ins O.cR dx (putF "own_budget" .non [])) f4.gh (.inl rfl) i4.ga)
          have l5 : (putF "own_budget" .non ([] : List (Str × V))).length ≤ 1 := length_putF _ _ _
          refine ⟨_, rfl, _, rfl, a, O.cR, dx, _, rfl, i5.ha, O.hR, nk, by omega, ?_⟩
          generalize hw5 : putF "own_budget" .non ([] : List (Str × V)) = w5 at *
          have i6 := i5.set (ws' := putF "own_kind" (.str k) w5)
          have f6 := f5.trans (GrF.upd (o := .ins O.cR dx (putF "own_kind" (.str k) w5)) f5.gh (.inl rfl) i5.ga)
          have l6 := length_putF "own_kind" (.str k) w5
          refine ⟨_, rfl, _, rfl, a, O.cR, dx, _, rfl, i6.ha, O.hR, nh, by omega, ?_⟩
          generalize hw6 : putF "own_kind" (.str k) w5 = w6 at *
          have i7 := i6.set (ws' := putF "own_height" (.int h) w6)
          have f7 := f6.trans (GrF.upd (o := .ins O.cR dx (putF "own_height" (.int h) w6)) f6.gh (.inl rfl) i6.ga)
          have l7 := length_putF "own_height" (.int h) w6
          refine ⟨_, rfl, _, rfl, a, O.cR, dx, _, rfl, i7.ha, O.hR, ns, by omega, ?_⟩
          generalize hw7 : putF "own_height" (.int h) w6 = w7 at *
          have i8 := i7.set (ws' := putF "own_size" (.int s) w7)
          have f8 := f7.trans (GrF.upd (o := .ins O.cR dx (putF "own_size" (.int s) w7)) f7.gh (.inl rfl) i7.ga)
          have l8 := length_putF "own_size" (.int s) w7
          refine ⟨_, rfl, _, rfl, a, O.cR, dx, _, rfl, i8.ha, O.hR, nm, by omega, ?_⟩
          generalize hw8 : putF "own_size" (.int s) w7 = w8 at *
          have i9 := i8.set (ws' := putF "own_shift" (.int m) w8)
          have f9 := f8.trans (GrF.upd (o := .ins O.cR dx (putF "own_shift" (.int m) w8)) f8.gh (.inl rfl) i8.ga)
          have l9 := length_putF "own_shift" (.int m) w8
          refine ⟨_, rfl, a, O.cR, dx, _, rfl, i9.ha, O.hR, np, by omega, ?_⟩
          generalize hw9 : putF "own_shift" (.int m) w8 = w9 at *
          have i10 := i9.set (ws' := putF "own_page" .non w9)
          have f10 := f9.trans (GrF.upd (o := .ins O.cR dx (putF "own_page" .non w9)) f9.gh (.inl rfl) i9.ga)
          have l10 := length_putF "own_page" .non w9
          refine ⟨_, rfl, a, O.cR, dx, _, rfl, i10.ha, O.hR, nt, by omega, ?_⟩
          generalize hw10 : putF "own_page" .non w9 = w10 at *
          have i11 := i10.set (ws' := putF "own_spent" (.int 0) w10)
          have f11 := f10.trans (GrF.upd (o := .ins O.cR dx (putF "own_spent" (.int 0) w10)) f10.gh (.inl rfl) i10.ga)
          have l11 := length_putF "own_spent" (.int 0) w10
          refine ⟨(by decide : 0 ≤ 16777216), fun pc hpc => ⟨_, rfl, a, O.cR, dx, putF "own_spent" (.int 0) w10, rfl, ?_, O.hR, nc, ?_, ?_⟩⟩
          · exact (i11.pure (Gr.newH (o := .lst []) f11.gh hpc)).ha
          · omega
          generalize hw11 : putF "own_spent" (.int 0) w10 = w11 at *
          have g12 := Gr.newH (o := .lst []) f11.gh hpc
          have i12 := i11.pure g12
          have f12 := f11.trans (GrF.pure g12)
          have i13 := i12.set (ws' := putF "own_calls" (.ref pc) w11)
          have f13 := f12.trans (GrF.upd (o := .ins O.cR dx (putF "own_calls" (.ref pc) w11)) f12.gh (.inl rfl) i12.ga)
          have l13 := length_putF "own_calls" (.ref pc) w11
          have npa : pc ≠ a := fun z => by
            subst z
            rw [i11.ha] at hpc
            cases hpc
          have npx : pc ≠ dx := fun z => by
            subst z
            rw [i11.hx] at hpc
            cases hpc
          refine ⟨(by decide : 0 ≤ 16777216), fun pp hpp => ⟨_, rfl, a, O.cR, dx, putF "own_calls" (.ref pc) w11, rfl, ?_, O.hR, na, ?_, ?_⟩⟩
          · exact (i13.pure (Gr.newH (o := .lst []) f13.gh hpp)).ha
          · omega
          generalize hw13 : putF "own_calls" (.ref pc) w11 = w13 at *
          have g14 := Gr.newH (o := .lst []) f13.gh hpp
          have i14 := i13.pure g14
          have f14 := f13.trans (GrF.pure g14)
          have i15 := i14.set (ws' := putF "own_past" (.ref pp) w13)
          have f15 := f14.trans (GrF.upd (o := .ins O.cR dx (putF "own_past" (.ref pp) w13)) f14.gh (.inl rfl) i14.ga)
          have l15 := length_putF "own_past" (.ref pp) w13
          have hp12 : ∀ ws', (L2.upd (L2.upd (L2.upd (L2.upd (L2.upd (L2.upd (L2.upd (L2.upd (L2.upd H4 a (.ins O.cR dx w5)) a (.ins O.cR dx w6)) a (.ins O.cR dx w7)) a (.ins O.cR dx w8)) a (.ins O.cR dx w9)) a (.ins O.cR dx w10)) a (.ins O.cR dx w11)) pc (.lst [])) a (.ins O.cR dx ws')) pc = some (.lst []) := fun ws' => by
            rw [upd_ne npa]
            exact upd_same
          have npp : pc ≠ pp := fun z => by
            subst z
            have := hp12 w13
            rw [this] at hpp
            cases hpp
          have gc : G4 pc = none := f11.gh.free hpc
          have gp : G4 pp = none := f13.gh.free hpp
          have nap : pp ≠ a := fun z => by
            subst z
            rw [i13.ha] at hpp
            cases hpp
          have hW : RdW (putF "own_past" (.ref pp) w13) (newR k h s m) := by
            subst hw13 hw11 hw10 hw9 hw8 hw7 hw6 hw5
            refine ⟨by omega, ?_, ?_, ?_, ?_, ?_, ?_, ?_, ?_⟩
            · repeat (first | exact lk_eq | refine lk_ne ?_ (by decide +kernel))
            · repeat (first | exact lk_eq | refine lk_ne ?_ (by decide +kernel))
            · repeat (first | exact lk_eq | refine lk_ne ?_ (by decide +kernel))
            · repeat (first | exact lk_eq | refine lk_ne ?_ (by decide +kernel))
            · repeat (first | exact lk_eq | refine lk_ne ?_ (by decide +kernel))
            · repeat (first | exact lk_eq | refine lk_ne ?_ (by decide +kernel))
            · repeat (first | exact lk_eq | refine lk_ne ?_ (by decide +kernel))
            · intro y hy
              have ne := meth_ne y hy
              refine lk_ne (lk_ne (lk_ne (lk_ne (lk_ne (lk_ne (lk_ne (lk_ne (lk_ne rfl ?_) ?_) ?_) ?_) ?_) ?_) ?_) ?_) ?_
              · exact ne _ (by decide +kernel)
              · exact ne _ (by decide +kernel)
              · exact ne _ (by decide +kernel)
              · exact ne _ (by decide +kernel)
              · exact ne _ (by decide +kernel)
              · exact ne _ (by decide +kernel)
              · exact ne _ (by decide +kernel)
              · exact ne _ (by decide +kernel)
              · exact ne _ (by decide +kernel)
          have hwc : (putF "own_past" (.ref pp) w13).lookup ("own_calls" : Str) = some (.ref pc) := by
            subst hw13
            exact lk_ne lk_eq (by decide +kernel)
          have f16 : GrF (iF a dx) G H (rF a dx pc pp) G4 _ := ⟨f15.gg, f15.gh, fun x o hx n => by
            obtain ⟨h1, h2, h3⟩ := f15.fr x o hx n
            obtain ⟨h4, _, _⟩ := f11.fr x o hx n
            obtain ⟨h5, _, _⟩ := f13.fr x o hx n
            refine ⟨h1, fun z => ?_, h3⟩
            rcases z with z | z | z | z
            · exact n (.inl z)
            · exact n (.inr z)
            · rw [z, hpc] at h4
              cases h4
            · rw [z, hpp] at h5
              cases h5⟩
          refine q _ _ _ f16 ⟨dx, pc, pp, [], [], _, ⟨i15.ha, i15.hx, ?_, ?_, npp, hW, hwc, lk_eq, .nil, .nil, i15.ga, i15.gx, gc, gp⟩, rfl⟩
          · rw [upd_ne npa, upd_ne npp]
            exact hp12 w13
          · rw [upd_ne nap]
            exact upd_same
end
end
end
end
section
set_option exponentiation.threshold 5000
section
open PySem L2
section
def EvB (K : PySem.W.Frag) (te : TE) (r : List QV) (o : ObP) : Prop := ∀ G σ H, QL K G r σ H → ∀ Q : VK, (∀ v G' H', Gr G H G' H' → o.fits v G' H' → Q v H') → te σ H Q
theorem QL.setB {K : PySem.W.Frag} {G H : Hp} {r : List QV} {σ : L2.St} {i : Nat} {v : V} {o : ObP} (l : QL K G r σ H) (h : o.fits v G H) : QL K G (r.set i (.ob o)) (σ.set i (some v)) H where
  gh := l.gh
  dat := fun j e hj => by
    rcases getElem?_set_lv hj with ⟨rfl, e1⟩ | ⟨ne, e1⟩
    · cases e1
    · obtain ⟨w, e2, q⟩ := l.dat j e e1
      exact ⟨w, by rw [List.getElem?_set_ne (fun z => ne z.symm)]; exact e2, q⟩
  own := fun j ds hj => by
    rcases getElem?_set_lv hj with ⟨rfl, e1⟩ | ⟨ne, e1⟩
    · cases e1
    · obtain ⟨p, vs, e2, e3, e4, e5, u⟩ := l.own j ds e1
      refine ⟨p, vs, by rw [List.getElem?_set_ne (fun z => ne z.symm)]; exact e2, e3, e4, e5, fun k es hk sk => ?_⟩
      rcases getElem?_set_lv hk with ⟨rfl, e6⟩ | ⟨nk, e6⟩
      · cases e6
      · rw [List.getElem?_set_ne (fun z => nk z.symm)] at sk
        exact u k es e6 sk
  len := by rw [List.length_set, List.length_set]; exact l.len
  ob := fun j o' hj => by
    rcases getElem?_set_lv hj with ⟨rfl, e1⟩ | ⟨ne, e1⟩
    · cases e1
      have hl : j < σ.length := by rw [l.len]; exact lt_of_set hj
      exact ⟨v, List.getElem?_set_self hl, h⟩
    · obtain ⟨u, e2, h⟩ := l.ob j o' e1
      exact ⟨u, by rw [List.getElem?_set_ne (fun z => ne z.symm)]; exact e2, h⟩
theorem sd_asgB {K : PySem.W.Frag} {te : TE} {r : List QV} {i : Nat} {o : ObP} (h : EvB K te r o) : SD K (tAsg te (gName i)) r (.nx (r.set i (.ob o))) := fun G0 H0 G σ H D l b f =>
  h G σ H l _ fun v G1 H1 g1 d1 => f G1 _ H1 g1.gg ((l.gr g1).setB d1) ⟨b.gr.trans g1, fun j es p hj sj => by
    rcases getElem?_set_lv hj with ⟨rfl, e1⟩ | ⟨ne, e1⟩
    · cases e1
    · rw [List.getElem?_set_ne (fun z => ne z.symm)] at sj
      exact b.ow j es p e1 sj⟩
def cMeths : List Str := ["execute", "change", "answer"]
def CnV (C2 C : Addr) (R : RS) (v : V) (H : Hp) : Prop := ∃ a dx ws a2, v = .ref a ∧ H a = some (.ins C2 dx ws) ∧ ws.lookup ("own_reader" : Str) = some (.ref a2) ∧ (∀ m ∈ cMeths, ws.lookup m = none) ∧ RdV C R (.ref a2) H
def CnP (C2 C : Addr) (R : RS) : ObP := ⟨fun v _ H => CnV C2 C R v H, fun v G H G' H' _ s h => by
  obtain ⟨a, dx, ws, a2, e, e2, e3, e4, e5⟩ := h
  exact ⟨a, dx, ws, a2, e, s a C2 dx ws e2, e3, e4, e5.st s⟩⟩
theorem eb_reader {K : PySem.W.Frag} {O : Bo K} {r : List QV} {i : Nat} {R : RS} (hi : r[i]? = some (.ob (CnP O.cC O.cR R))) : EvB K (tFld K (tVar i) "own_reader") r (RdP O.cR R) := fun G σ H l Q q => by
  obtain ⟨v, e1, a, dx, ws, a2, rfl, e2, e3, _, e5⟩ := l.ob i _ hi
  exact ⟨_, e1, a, O.cC, dx, ws, _, rfl, e2, O.hC, O.nC, e3, q _ G H (Gr.refl l.gh) e5⟩
structure HoldC (K : PySem.W.Frag) (C2 C a : Addr) (R : RS) (F : Addr → Prop) (G H : Hp) : Prop where
  ex : ∃ dx ws a2 F2, H a = some (.ins C2 dx ws) ∧ H dx = some (.own a) ∧ ws.lookup ("own_reader" : Str) = some (.ref a2) ∧ ws.length ≤ 20 ∧ (∀ m ∈ cMeths, ws.lookup m = none) ∧ G a = none ∧ G dx = none ∧ HoldR K C a2 R F2 G H ∧ ¬ F2 a ∧ ¬ F2 dx ∧ F = fun x => F2 x ∨ x = a ∨ x = dx
theorem HoldC.read {K : PySem.W.Frag} {C2 C a : Addr} {R : RS} {F : Addr → Prop} {G H : Hp} (h : HoldC K C2 C a R F G H) : CnV C2 C R (.ref a) H := by
  obtain ⟨dx, ws, a2, F2, e1, e2, e3, e4, e5, e6, e7, ⟨dx2, pc, pp, vc, vp, ws2, hr, _⟩, e8, e9, rfl⟩ := h.ex
  exact ⟨a, dx, ws, a2, rfl, e1, e3, e5, a2, dx2, ws2, rfl, hr.ha, hr.w⟩
structure AF where
  (pl no ru de di le su me be : List PyData → PyData)
def pgT : Option Int → Str
  | none => "none"
  | some n => tx n
inductive Ans (A : AF) (R : RS) : Str → List PyData → Str → Prop
  | spent : Ans A R "spent" [] (tx R.spent)
  | page : Ans A R "page" [] (pgT R.page)
  | place {d n m : Int} : Q_place_of [.str R.k, .int R.h, ND d n] → A.pl [.str R.k, .int R.h, ND d n] = .int m → 0 ≤ m ∧ m ≤ 2 ^ 210 → Ans A R "place" [ND d n] (tx m)
  | node {p d n : Int} : Q_node_at [.str R.k, .int R.h, .int p] → A.no [.str R.k, .int R.h, .int p] = ND d n → 0 ≤ d → d ≤ 100 → Ans A R "node" [.int p] (wordF d n)
  | runs {d n : Int} {ps : List (Int × Int)} : Q_runs [.str R.k, .int R.h, ND d n] → A.ru [.str R.k, .int R.h, ND d n] = .list (ps.map prD) → RnOk ps → Ans A R "runs" [ND d n] (prTs "-" ps)
  | depths {p q : Int} {ps : List (Int × Int)} : Q_depth_counts [.str R.k, .int R.h, .int p, .int q] → A.de [.str R.k, .int R.h, .int p, .int q] = .list (ps.map prD) → RnOk ps → Ans A R "depths" [.int p, .int q] (prTs ":" ps)
  | distance {m : Int} : Q_distance_sum [.str R.k, .int R.h] → A.di [.str R.k, .int R.h] = .int m → 0 ≤ m ∧ m ≤ 2 ^ 400 → Ans A R "distance" [] (tx m)
  | leaves {m : Int} : Q_pages [.str R.k, .int R.h, .int R.s, .int R.m] → A.le [.str R.k, .int R.h, .int R.s, .int R.m] = .int m → -(2 ^ 800) ≤ m ∧ m ≤ 2 ^ 800 → Ans A R "leaves" [] (tx m)
  | sum {m : Int} : Q_pages [.str R.k, .int R.h, .int R.s, .int R.m] → A.su [.str R.k, .int R.h, .int R.s, .int R.m] = .int m → -(2 ^ 800) ≤ m ∧ m ≤ 2 ^ 800 → Ans A R "sum" [] (tx m)
  | mean {a b : Int} : Q_pages [.str R.k, .int R.h, .int R.s, .int R.m] → A.me [.str R.k, .int R.h, .int R.s, .int R.m] = ND a b → (-(2 ^ 800) ≤ a ∧ a ≤ 2 ^ 800) → (-(2 ^ 800) ≤ b ∧ b ≤ 2 ^ 800) → Ans A R "mean" [] (tx a ++ "/" ++ tx b)
  | best {ks : List Str} : Q_best_kinds [.int R.h, .int R.s, .int R.m] → A.be [.int R.h, .int R.s, .int R.m] = .list (ks.map .str) → ks.length ≤ 7 → (∀ k ∈ ks, k ∈ kinds) → Ans A R "best" [] (Txt.join " " ks)
def spAns (K : PySem.W.Frag) (C2 C : Addr) (A : AF) : Sp := fun vs H Q _ => ∃ G R t v us x ds z, vs = v :: us ∧ us.length = 2 ∧ Same G H ∧ CnV C2 C R v H ∧ RsOk R t ∧ t ≤ 1000 ∧ DpAll K G us [.str x, .list ds] ∧ Ans A R x ds z ∧ ∀ u G' H', Gr G H G' H' → Dp K G' u (.str z) → Q u H'
structure AFc (P : Program) (w : World) (K : PySem.W.Frag) (mg : Str → Option Value) (base : Heap) (A : AF) : Prop where
  c_pl : Cal P w K mg base "place_of" 5 ["kind", "height", "node"] (spD K (["kind", "height", "node"] : List Str).length fun ds d => Q_place_of ds ∧ d = A.pl ds)
  c_no : Cal P w K mg base "node_at" 5 ["kind", "height", "place"] (spD K (["kind", "height", "place"] : List Str).length fun ds d => Q_node_at ds ∧ d = A.no ds)
  c_ru : Cal P w K mg base "runs" 5 ["kind", "height", "node"] (spD K (["kind", "height", "node"] : List Str).length fun ds d => Q_runs ds ∧ d = A.ru ds)
  c_de : Cal P w K mg base "depth_counts" 4 ["kind", "height", "begin", "end"] (spD K (["kind", "height", "begin", "end"] : List Str).length fun ds d => Q_depth_counts ds ∧ d = A.de ds)
  c_di : Cal P w K mg base "distance_sum" 12 ["kind", "height"] (spD K (["kind", "height"] : List Str).length fun ds d => Q_distance_sum ds ∧ d = A.di ds)
  c_le : Cal P w K mg base "leaf_page_sum" 13 ["kind", "height", "size", "shift"] (spD K (["kind", "height", "size", "shift"] : List Str).length fun ds d => Q_leaf_page_sum ds ∧ d = A.le ds)
  c_su : Cal P w K mg base "page_sum" 13 ["kind", "height", "size", "shift"] (spD K (["kind", "height", "size", "shift"] : List Str).length fun ds d => Q_page_sum ds ∧ d = A.su ds)
  c_me : Cal P w K mg base "page_mean" 14 ["kind", "height", "size", "shift"] (spD K (["kind", "height", "size", "shift"] : List Str).length fun ds d => Q_page_mean ds ∧ d = A.me ds)
  c_be : Cal P w K mg base "best_kinds" 14 ["height", "size", "shift"] (spD K (["height", "size", "shift"] : List Str).length fun ds d => Q_best_kinds ds ∧ d = A.be ds)
  p_pl : ∀ ds, Q_place_of ds → Z_place_of ds (A.pl ds)
  p_no : ∀ ds, Q_node_at ds → Z_node_at ds (A.no ds)
  p_ru : ∀ ds, Q_runs ds → Z_runs ds (A.ru ds)
  p_de : ∀ ds, Q_depth_counts ds → Z_depth_counts ds (A.de ds)
  p_di : ∀ ds, Q_distance_sum ds → Z_distance_sum ds (A.di ds)
  p_le : ∀ ds, Q_leaf_page_sum ds → Z_leaf_page_sum ds (A.le ds)
  p_su : ∀ ds, Q_page_sum ds → Z_page_sum ds (A.su ds)
  p_me : ∀ ds, Q_page_mean ds → Z_page_mean ds (A.me ds)
  p_be : ∀ ds, Q_best_kinds ds → Z_best_kinds ds (A.be ds)
theorem p89 {n : Int} (h : -(2 ^ 800) ≤ n ∧ n ≤ 2 ^ 800) : -(2 ^ 900) ≤ n ∧ n ≤ 2 ^ 900 := by
  have : (2 : Int) ^ 800 ≤ 2 ^ 900 := by decide
  generalize (2 : Int) ^ 800 = X at *
  generalize (2 : Int) ^ 900 = Y at *
  omega
theorem n9 {n : Int} {a : Nat} (h : 0 ≤ n ∧ n ≤ 2 ^ a) (ha : a ≤ 900 := by decide) : -(2 ^ 900) ≤ n ∧ n ≤ 2 ^ 900 := by
  have := p2le ha
  have := p2pos 900
  generalize (2 : Int) ^ 900 = Y at *
  omega
theorem sp9 {n : Int} {t : Nat} (h : 0 ≤ n ∧ n ≤ 200 * (t : Int)) (ht : t ≤ 1000) : -(2 ^ 900) ≤ n ∧ n ≤ 2 ^ 900 := by
  have : (200000 : Int) ≤ 2 ^ 900 := by decide
  generalize (2 : Int) ^ 900 = Y at *
  omega
theorem best_len {ks : List Str} (h1 : ks.length ≤ 7) (h2 : ∀ k ∈ ks, k ∈ kinds) : (ks.map (·.length)).sum + ks.length * (Str.ofString " ").length ≤ 100000 := by
  have hk : ∀ k ∈ kinds, k.length ≤ 20 := by decide +kernel
  have q := sum_le (C := 20) (ls := ks.map (·.length)) (fun l hl => by
    obtain ⟨k, hk', rfl⟩ := List.mem_map.mp hl
    exact hk k (h2 k hk'))
  have e : (Str.ofString " ").length = 1 := by decide +kernel
  rw [List.length_map] at q
  rw [e]
  omega
section
variable {P : Program} {w : World} {K : PySem.W.Frag} {mg : Str → Option Value} {base : Heap}
theorem ok_answer {O : Bo K} {A : AF} (B : Bt w K mg) (D : DfM K O.cC "answer" "Console.answer" s_Console_answer) (c : AFc P w K mg base A) (h_node_text : F_node_text P w K mg base)
    (P_kind : CalP P w K mg base O.cR "kind" 1 (spPr K O.cR fun R => .str R.k)) (P_height : CalP P w K mg base O.cR "height" 1 (spPr K O.cR fun R => .int R.h)) (P_size : CalP P w K mg base O.cR "size" 1 (spPr K O.cR fun R => .int R.s)) (P_shift : CalP P w K mg base O.cR "shift" 1 (spPr K O.cR fun R => .int R.m))
    (P_page : CalP P w K mg base O.cR "page" 1 (spPr K O.cR fun R => pgD R.page)) (P_spent : CalP P w K mg base O.cR "spent" 1 (spPr K O.cR fun R => .int R.spent)) : CalM P w K mg base O.cC "answer" 15 ["self", "head", "values"] (spAns K O.cC O.cR A) := by
  obtain ⟨f_node_text, p_node_text, C_node_text⟩ := h_node_text
  obtain ⟨f, fd, F, hm⟩ := D
  have C_place_of := c.c_pl
  have C_node_at := c.c_no
  have C_runs := c.c_ru
  have C_depth_counts := c.c_de
  have C_distance_sum := c.c_di
  have C_leaf_page_sum := c.c_le
  have C_page_sum := c.c_su
  have C_page_mean := c.c_me
  have C_best_kinds := c.c_be
  refine ⟨O.hC, f, fd, ?_, hm, F.bindsN (fun _ _ _ _ _ _ us hl => match us, hl with | [_, _, _], _ => rfl)⟩
  refine mk_raw F sc_Console_answer (fun vs H Q E h => ?_) ⟨_, fun cdv A outer s H E f hr => (pss_cons (ps_set (i := 3) sc_Console_answer.nd rfl (Or.inl rfl) (pe_fldK K (pv 0) rfl))
    (pss_cons (ps_asg (pe_tup (pa_cons (pe_propC P_kind hr (pv 3)) (pa_cons (pe_propC P_height hr (pv 3)) (pa_cons (pe_propC P_size hr (pv 3)) (pa_cons (pe_propC P_shift hr (pv 3)) pa_nil))))) (pg_tupK (n := 4) K rfl (pgs_cons (pg_name (i := 4) sc_Console_answer.nd rfl (Or.inl rfl)) (pgs_cons (pg_name (i := 5) sc_Console_answer.nd rfl (Or.inl rfl)) (pgs_cons (pg_name (i := 6) sc_Console_answer.nd rfl (Or.inl rfl)) (pgs_cons (pg_name (i := 7) sc_Console_answer.nd rfl (Or.inl rfl)) pgs_nil))))))
    (pss_one (ps_match (pv 1) (pmc_str (pss_one (ps_ret (pe_callTy call_str_int (by rfl) B.str (by decide +kernel) (pa_cons (pe_propC P_spent hr (pv 3)) pa_nil))))
    (pmc_str (pss_one (ps_ret (pe_ifExp (pt_cmpR op_isN (pe_propC P_page hr (pv 3)) pe_non (nomark _)) pe_str (pe_callTy call_str_int (by rfl) B.str (by decide +kernel) (pa_cons (pe_propC P_page hr (pv 3)) pa_nil)))))
    (pmc_str (pss_one (ps_ret (pe_callTy call_str_int (by rfl) B.str (by decide +kernel) (pa_cons (pe_callC C_place_of hr (by rfl) (pa_cons (pv 4) (pa_cons (pv 5) (pa_cons (pe_ix (ix_listK K) (pv 2) pe_int (fun _ _ => rfl)) pa_nil)))) pa_nil))))
    (pmc_str (pss_one (ps_ret (pe_callC C_node_text hr (by rfl) (pa_cons (pe_callC C_node_at hr (by rfl) (pa_cons (pv 4) (pa_cons (pv 5) (pa_cons (pe_ix (ix_listK K) (pv 2) pe_int (fun _ _ => rfl)) pa_nil)))) pa_nil))))
    (pmc_str (pss_one (ps_ret (pe_joinK K pe_str (pe_lc (own := [("first", 11), ("last", 12)]) rfl sc_Console_answer.nd (pi_listK K (pe_callC C_runs hr (by rfl) (pa_cons (pv 4) (pa_cons (pv 5) (pa_cons (pe_ix (ix_listK K) (pv 2) pe_int (fun _ _ => rfl)) pa_nil))))) (blkOk_by (own := [("first", 11), ("last", 12)]) (N := n_Console_answer) (sc := defScope s_Console_answer) (by decide +kernel)) (fun _ _ _ _ _ => (pg_tupK (n := 2) K rfl (pgs_cons (pg_name (i := 11) sc_Console_answer.nd rfl (Or.inl rfl)) (pgs_cons (pg_name (i := 12) sc_Console_answer.nd rfl (Or.inl rfl)) pgs_nil)))) (fun _ _ _ _ _ => pts_nil) (fun _ _ _ _ _ => (pe_op op_add_str (pe_op op_add_str (pe_callTy call_str_int (by rfl) B.str (by decide +kernel) (pa_cons (pv 11) pa_nil)) pe_str) (pe_callTy call_str_int (by rfl) B.str (by decide +kernel) (pa_cons (pv 12) pa_nil))))))))
    (pmc_str (pss_cons (ps_set (i := 8) sc_Console_answer.nd rfl (Or.inl rfl) (pe_callC C_depth_counts hr (by rfl) (pa_cons (pv 4) (pa_cons (pv 5) (pa_cons (pe_ix (ix_listK K) (pv 2) pe_int (fun _ _ => rfl)) (pa_cons (pe_ix (ix_listK K) (pv 2) pe_int (fun _ _ => rfl)) pa_nil))))))
    (pss_one (ps_ret (pe_joinK K pe_str (pe_lc (own := [("depth", 13), ("many", 14)]) rfl sc_Console_answer.nd (pi_listK K (pv 8)) (blkOk_by (own := [("depth", 13), ("many", 14)]) (N := n_Console_answer) (sc := defScope s_Console_answer) (by decide +kernel)) (fun _ _ _ _ _ => (pg_tupK (n := 2) K rfl (pgs_cons (pg_name (i := 13) sc_Console_answer.nd rfl (Or.inl rfl)) (pgs_cons (pg_name (i := 14) sc_Console_answer.nd rfl (Or.inl rfl)) pgs_nil)))) (fun _ _ _ _ _ => pts_nil) (fun _ _ _ _ _ => (pe_op op_add_str (pe_op op_add_str (pe_callTy call_str_int (by rfl) B.str (by decide +kernel) (pa_cons (pv 13) pa_nil)) pe_str) (pe_callTy call_str_int (by rfl) B.str (by decide +kernel) (pa_cons (pv 14) pa_nil)))))))))
    (pmc_str (pss_one (ps_ret (pe_callTy call_str_int (by rfl) B.str (by decide +kernel) (pa_cons (pe_callC C_distance_sum hr (by rfl) (pa_cons (pv 4) (pa_cons (pv 5) pa_nil))) pa_nil))))
    (pmc_str (pss_one (ps_ret (pe_callTy call_str_int (by rfl) B.str (by decide +kernel) (pa_cons (pe_callC C_leaf_page_sum hr (by rfl) (pa_cons (pv 4) (pa_cons (pv 5) (pa_cons (pv 6) (pa_cons (pv 7) pa_nil))))) pa_nil))))
    (pmc_str (pss_one (ps_ret (pe_callTy call_str_int (by rfl) B.str (by decide +kernel) (pa_cons (pe_callC C_page_sum hr (by rfl) (pa_cons (pv 4) (pa_cons (pv 5) (pa_cons (pv 6) (pa_cons (pv 7) pa_nil))))) pa_nil))))
    (pmc_str (pss_cons (ps_asg (pe_callC C_page_mean hr (by rfl) (pa_cons (pv 4) (pa_cons (pv 5) (pa_cons (pv 6) (pa_cons (pv 7) pa_nil))))) (pg_tupK (n := 2) K rfl (pgs_cons (pg_name (i := 9) sc_Console_answer.nd rfl (Or.inl rfl)) (pgs_cons (pg_name (i := 10) sc_Console_answer.nd rfl (Or.inl rfl)) pgs_nil))))
    (pss_one (ps_ret (pe_op op_add_str (pe_op op_add_str (pe_callTy call_str_int (by rfl) B.str (by decide +kernel) (pa_cons (pv 9) pa_nil)) pe_str) (pe_callTy call_str_int (by rfl) B.str (by decide +kernel) (pa_cons (pv 10) pa_nil))))))
    (pmc_any (pss_one (ps_ret (pe_joinK K pe_str (pe_callC C_best_kinds hr (by rfl) (pa_cons (pv 5) (pa_cons (pv 6) (pa_cons (pv 7) pa_nil))))))))))))))))))))))
    , ?_⟩
  · obtain ⟨_, _, _, _, _, _, _, _, rfl, h, _⟩ := h
    rw [List.length_cons, h]
    rfl
  rintro vs H Q E ⟨G, R, t, v, us, x, ds, z, rfl, hl, gh, hv, ok, ht, hus, an, q⟩
  have ql := ql_entO (y := "self") (N := ["head", "values", "reader", "kind", "height", "size", "shift", "rows", "above", "below", "first", "last", "depth", "many"]) (o := CnP O.cC O.cR R) gh hus hv
  refine sd_runQ ql (cons_noown (fun _ z => by cases z) ent_noown) q ?_
  show SD K _ [.ob (CnP O.cC O.cR R), .dat (.str x), .dat (.list ds), .un, .un, .un, .un, .un, .un, .un, .un, .un, .un, .un, .un] _
  apply sd_seq (r1 := [.ob (CnP O.cC O.cR R), .dat (.str x), .dat (.list ds), .ob (RdP O.cR R), .un, .un, .un, .un, .un, .un, .un, .un, .un, .un, .un])
  · exact sd_asgB (eb_reader rfl)
  apply sd_seq (r1 := [.ob (CnP O.cC O.cR R), .dat (.str x), .dat (.list ds), .ob (RdP O.cR R), .dat (.str R.k), .dat (.int R.h), .dat (.int R.s), .dat (.int R.m), .un, .un, .un, .un, .un, .un, .un])
  · apply sd_asg (d := .tuple [.str R.k, .int R.h, .int R.s, .int R.m])
    · apply ev_tup
      · exact ea_cons (ev_propR (g := fun R => PyData.str R.k) rfl) (ea_cons (ev_propR (g := fun R => PyData.int R.h) rfl) (ea_cons (ev_propR (g := fun R => PyData.int R.s) rfl) (ea_cons (ev_propR (g := fun R => PyData.int R.m) rfl) ea_nil)))
      · exact (by decide : 4 ≤ 100000)
    · exact gd_tup (gds_cons gd_name (gds_cons gd_name (gds_cons gd_name (gds_cons gd_name gds_nil)))) rfl
  have sl1 : (Str.ofString "-").length ≤ 1 := by decide +kernel
  have sl2 : (Str.ofString ":").length ≤ 1 := by decide +kernel
  have sl3 : (Str.ofString "/").length ≤ 1 := by decide +kernel
  apply sd_matchS (ev_var rfl)
  cases an with
  | spent =>
    apply sd_cStrT rfl
    apply sd_ret
    exact ev_str9 (ev_propR (g := fun R => PyData.int R.spent) rfl) (sp9 ok.sp ht)
  | page =>
    apply sd_cStrF (by decide +kernel)
    apply sd_cStrT rfl
    apply sd_ret
    have rdn : ∀ p, RD K (fun x y H Q => y = .non ∧ Q (.bl (decide (x = .non))) H) (pgD p) .none (.bool p.isNone) := fun p => by
      cases p with
      | none => exact rd_isNN
      | some n => exact rd_isNI
    have hpg := ok.pg
    cases hp : R.page with
    | none =>
      refine ev_ifT (et_is (et_test (ev_op (ev_propR (g := fun R => pgD R.page) rfl) ev_non (rdn _))) (by rw [hp]; rfl)) ?_
      exact ev_str
    | some n =>
      refine ev_ifF (et_is (et_test (ev_op (ev_propR (g := fun R => pgD R.page) rfl) ev_non (rdn _))) (by rw [hp]; rfl)) ?_
      refine ev_str9 (ev_is (ev_propR (g := fun R => pgD R.page) rfl) ?_) (n9 (hpg n hp))
      rw [hp]
      rfl
  | @place d n m h1 h2 h3 =>
    apply sd_cStrF (by decide +kernel)
    apply sd_cStrF (by decide +kernel)
    apply sd_cStrT rfl
    apply sd_ret
    have c1 : Spd K (spD K (["kind", "height", "node"] : List Str).length fun ds d => Q_place_of ds ∧ d = A.pl ds) [.str R.k, .int R.h, ND d n] (.int m) := spd_of ⟨h1, h2.symm⟩ rfl
    refine ev_str9 (ev_call (ea_cons (ev_var rfl) (ea_cons (ev_var rfl) (ea_cons (ev_op (ev_var rfl) ev_int (rd_ixL (d := ND d n) rfl)) ea_nil))) c1) (n9 h3)
  | @node p d n h1 h2 h3 h4 =>
    apply sd_cStrF (by decide +kernel)
    apply sd_cStrF (by decide +kernel)
    apply sd_cStrF (by decide +kernel)
    apply sd_cStrT rfl
    apply sd_ret
    have c1 : Spd K (spD K (["kind", "height", "place"] : List Str).length fun ds d => Q_node_at ds ∧ d = A.no ds) [.str R.k, .int R.h, .int p] (ND d n) := spd_of ⟨h1, h2.symm⟩ rfl
    obtain ⟨_, zz, c2⟩ := use_fn (K := K) p_node_text [ND d n] ⟨_, _, rfl, h3, h4⟩
    obtain rfl := zz _ _ rfl
    exact ev_call (ea_cons (ev_call (ea_cons (ev_var rfl) (ea_cons (ev_var rfl) (ea_cons (ev_op (ev_var rfl) ev_int (rd_ixL (d := .int p) rfl)) ea_nil))) c1) ea_nil) c2
  | @runs d n ps h1 h2 h3 =>
    apply sd_cStrF (by decide +kernel)
    apply sd_cStrF (by decide +kernel)
    apply sd_cStrF (by decide +kernel)
    apply sd_cStrF (by decide +kernel)
    apply sd_cStrT rfl
    apply sd_ret
    have c1 : Spd K (spD K (["kind", "height", "node"] : List Str).length fun ds d => Q_runs ds ∧ d = A.ru ds) [.str R.k, .int R.h, ND d n] (.list (ps.map prD)) := spd_of ⟨h1, h2.symm⟩ rfl
    refine ev_prTs (it_list (ev_call (ea_cons (ev_var rfl) (ea_cons (ev_var rfl) (ea_cons (ev_op (ev_var rfl) ev_int (rd_ixL (d := ND d n) rfl)) ea_nil))) c1)) sl1 h3 ev_str ?_
    intro p hp
    refine ⟨_, _, gd_tup (gds_cons gd_name (gds_cons gd_name gds_nil)) rfl, by walk_at "sc", ev_var rfl, ev_str, ev_var rfl⟩
  | @depths p p2 ps h1 h2 h3 =>
    apply sd_cStrF (by decide +kernel)
    apply sd_cStrF (by decide +kernel)
    apply sd_cStrF (by decide +kernel)
    apply sd_cStrF (by decide +kernel)
    apply sd_cStrF (by decide +kernel)
    apply sd_cStrT rfl
    have c1 : Spd K (spD K (["kind", "height", "begin", "end"] : List Str).length fun ds d => Q_depth_counts ds ∧ d = A.de ds) [.str R.k, .int R.h, .int p, .int p2] (.list (ps.map prD)) := spd_of ⟨h1, h2.symm⟩ rfl
    apply sd_seq
    · exact sd_asg (ev_call (ea_cons (ev_var rfl) (ea_cons (ev_var rfl) (ea_cons (ev_op (ev_var rfl) ev_int (rd_ixL (d := .int p) rfl)) (ea_cons (ev_op (ev_var rfl) ev_int (rd_ixL (d := .int p2) rfl)) ea_nil)))) c1) gd_name
    apply sd_ret
    refine ev_prTs (it_list (ev_var rfl)) sl2 h3 ev_str ?_
    intro p hp
    refine ⟨_, _, gd_tup (gds_cons gd_name (gds_cons gd_name gds_nil)) rfl, by walk_at "sc", ev_var rfl, ev_str, ev_var rfl⟩
  | @distance m h1 h2 h3 =>
    apply sd_cStrF (by decide +kernel)
    apply sd_cStrF (by decide +kernel)
    apply sd_cStrF (by decide +kernel)
    apply sd_cStrF (by decide +kernel)
    apply sd_cStrF (by decide +kernel)
    apply sd_cStrF (by decide +kernel)
    apply sd_cStrT rfl
    apply sd_ret
    have c1 : Spd K (spD K (["kind", "height"] : List Str).length fun ds d => Q_distance_sum ds ∧ d = A.di ds) [.str R.k, .int R.h] (.int m) := spd_of ⟨h1, h2.symm⟩ rfl
    exact ev_str9 (ev_call (ea_cons (ev_var rfl) (ea_cons (ev_var rfl) ea_nil)) c1) (n9 h3)
  | @leaves m h1 h2 h3 =>
    apply sd_cStrF (by decide +kernel)
    apply sd_cStrF (by decide +kernel)
    apply sd_cStrF (by decide +kernel)
    apply sd_cStrF (by decide +kernel)
    apply sd_cStrF (by decide +kernel)
    apply sd_cStrF (by decide +kernel)
    apply sd_cStrF (by decide +kernel)
    apply sd_cStrT rfl
    apply sd_ret
    have c1 : Spd K (spD K (["kind", "height", "size", "shift"] : List Str).length fun ds d => Q_leaf_page_sum ds ∧ d = A.le ds) [.str R.k, .int R.h, .int R.s, .int R.m] (.int m) := spd_of ⟨h1, h2.symm⟩ rfl
    exact ev_str9 (ev_call (ea_cons (ev_var rfl) (ea_cons (ev_var rfl) (ea_cons (ev_var rfl) (ea_cons (ev_var rfl) ea_nil)))) c1) (p89 h3)
  | @sum m h1 h2 h3 =>
    apply sd_cStrF (by decide +kernel)
    apply sd_cStrF (by decide +kernel)
    apply sd_cStrF (by decide +kernel)
    apply sd_cStrF (by decide +kernel)
    apply sd_cStrF (by decide +kernel)
    apply sd_cStrF (by decide +kernel)
    apply sd_cStrF (by decide +kernel)
    apply sd_cStrF (by decide +kernel)
    apply sd_cStrT rfl
    apply sd_ret
    have c1 : Spd K (spD K (["kind", "height", "size", "shift"] : List Str).length fun ds d => Q_page_sum ds ∧ d = A.su ds) [.str R.k, .int R.h, .int R.s, .int R.m] (.int m) := spd_of ⟨h1, h2.symm⟩ rfl
    exact ev_str9 (ev_call (ea_cons (ev_var rfl) (ea_cons (ev_var rfl) (ea_cons (ev_var rfl) (ea_cons (ev_var rfl) ea_nil)))) c1) (p89 h3)
  | @mean a b h1 h2 h3 h4 =>
    apply sd_cStrF (by decide +kernel)
    apply sd_cStrF (by decide +kernel)
    apply sd_cStrF (by decide +kernel)
    apply sd_cStrF (by decide +kernel)
    apply sd_cStrF (by decide +kernel)
    apply sd_cStrF (by decide +kernel)
    apply sd_cStrF (by decide +kernel)
    apply sd_cStrF (by decide +kernel)
    apply sd_cStrF (by decide +kernel)
    apply sd_cStrT rfl
    have c1 : Spd K (spD K (["kind", "height", "size", "shift"] : List Str).length fun ds d => Q_page_mean ds ∧ d = A.me ds) [.str R.k, .int R.h, .int R.s, .int R.m] (ND a b) := spd_of ⟨h1, h2.symm⟩ rfl
    apply sd_seq
    · exact sd_asg (ev_call (ea_cons (ev_var rfl) (ea_cons (ev_var rfl) (ea_cons (ev_var rfl) (ea_cons (ev_var rfl) ea_nil)))) c1) (gd_tup (gds_cons gd_name (gds_cons gd_name gds_nil)) rfl)
    apply sd_ret
    have la := tx_len9 (p89 h3)
    have lb := tx_len9 (p89 h4)
    refine ev_catS (ev_catS (ev_str9 (ev_var rfl) (p89 h3)) ev_str (by omega)) (ev_str9 (ev_var rfl) (p89 h4)) ?_
    rw [Str.length_append]
    omega
  | @best ks h1 h2 h3 h4 =>
    apply sd_cStrF (by decide +kernel)
    apply sd_cStrF (by decide +kernel)
    apply sd_cStrF (by decide +kernel)
    apply sd_cStrF (by decide +kernel)
    apply sd_cStrF (by decide +kernel)
    apply sd_cStrF (by decide +kernel)
    apply sd_cStrF (by decide +kernel)
    apply sd_cStrF (by decide +kernel)
    apply sd_cStrF (by decide +kernel)
    apply sd_cStrF (by decide +kernel)
    apply sd_cAny
    apply sd_ret
    have c1 : Spd K (spD K (["height", "size", "shift"] : List Str).length fun ds d => Q_best_kinds ds ∧ d = A.be ds) [.int R.h, .int R.s, .int R.m] (.list (ks.map .str)) := spd_of ⟨h1, h2.symm⟩ rfl
    exact ev_join ev_str (ev_call (ea_cons (ev_var rfl) (ea_cons (ev_var rfl) (ea_cons (ev_var rfl) ea_nil))) c1) (best_len h3 h4)
end
end
end
end
section
set_option exponentiation.threshold 5000
section
open PySem L2
section
def atP (v0 : V) : ObP := ⟨fun v _ _ => v = v0, fun _ _ _ _ _ _ _ h => h⟩
inductive Chg (sf : List PyData → PyData) (R : RS) : Str → List PyData → RS → Prop
  | reader {k : Str} {h s m : Int} : NewOk k h s m → Chg sf R "reader" [.str k, .int h, .int s, .int m] (newR k h s m)
  | search {d n : Int} : OpOk R (.search d n) → Chg sf R "search" [ND d n] (perfF sf R (.search d n))
  | drop : Chg sf R "drop" [] (perfF sf R .drop)
  | undo {ps : List (Option Int × Int)} {p : Option Int × Int} {cs : List PyData} {c : PyData} : R.past = ps ++ [p] → R.calls = cs ++ [c] → Chg sf R "undo" [] { R with page := p.1, spent := p.2, past := ps, calls := cs }
theorem HR.gr {K : PySem.W.Frag} {C a : Addr} {R : RS} {dx pc pp : Addr} {vc vp : List V} {ws : List (Str × V)} {G H G' H' : Hp} {F : Addr → Prop} {F' : Addr → Prop} (h : HR K C a R dx pc pp vc vp ws G H) (g : GrF F G H F' G' H') (n : ∀ x, rF a dx pc pp x → ¬ F x) : HR K C a R dx pc pp vc vp ws G' H' :=
  h.stay g.gg fun x o hx hF => by
    obtain ⟨h1, _, h3⟩ := g.fr x o hx (n x hF)
    exact ⟨h1, h3⟩
theorem HoldR.pure {K : PySem.W.Frag} {C a : Addr} {R : RS} {F : Addr → Prop} {G H G' H' : Hp} (h : HoldR K C a R F G H) (g : Gr G H G' H') : HoldR K C a R F G' H' := by
  obtain ⟨dx, pc, pp, vc, vp, ws, hr, e⟩ := h
  exact ⟨dx, pc, pp, vc, vp, ws, hr.pure g, e⟩
theorem HoldR.some {K : PySem.W.Frag} {C a : Addr} {R : RS} {F : Addr → Prop} {G H : Hp} (h : HoldR K C a R F G H) {x : Addr} (hx : F x) : (∃ o, H x = Option.some o) ∧ G x = none := by
  obtain ⟨dx, pc, pp, vc, vp, ws, hr, rfl⟩ := h
  rcases hx with rfl | rfl | rfl | rfl
  · exact ⟨⟨_, hr.ha⟩, hr.ga⟩
  · exact ⟨⟨_, hr.hx⟩, hr.gx⟩
  · exact ⟨⟨_, hr.hc⟩, hr.gc⟩
  · exact ⟨⟨_, hr.hp⟩, hr.gp⟩
theorem HoldR.gr {K : PySem.W.Frag} {C a : Addr} {R : RS} {F E E' : Addr → Prop} {G H G' H' : Hp} (h : HoldR K C a R F G H) (g : GrF E G H E' G' H') (n : ∀ x, F x → ¬ E x) : HoldR K C a R F G' H' := by
  obtain ⟨dx, pc, pp, vc, vp, ws, hr, rfl⟩ := h
  exact ⟨dx, pc, pp, vc, vp, ws, hr.gr g n, rfl⟩
theorem HoldC.pure {K : PySem.W.Frag} {C2 C a : Addr} {R : RS} {F : Addr → Prop} {G H G' H' : Hp} (h : HoldC K C2 C a R F G H) (g : Gr G H G' H') : HoldC K C2 C a R F G' H' := by
  obtain ⟨dx, ws, a2, F2, e1, e2, e3, e4, e5, e6, e7, hr, e8, e9, rfl⟩ := h.ex
  exact ⟨dx, ws, a2, F2, g.hh _ _ e1, g.hh _ _ e2, e3, e4, e5, (g.ag _ _ e1).trans e6, (g.ag _ _ e2).trans e7, hr.pure g, e8, e9, rfl⟩
theorem HoldC.gr {K : PySem.W.Frag} {C2 C a : Addr} {R : RS} {F E E' : Addr → Prop} {G H G' H' : Hp} (h : HoldC K C2 C a R F G H) (g : GrF E G H E' G' H') (n : ∀ x, F x → ¬ E x) : HoldC K C2 C a R F G' H' := by
  obtain ⟨dx, ws, a2, F2, e1, e2, e3, e4, e5, e6, e7, hr, e8, e9, rfl⟩ := h.ex
  obtain ⟨q1, _, q3⟩ := g.fr _ _ e1 (n _ (.inr (.inl rfl)))
  obtain ⟨r1, _, r3⟩ := g.fr _ _ e2 (n _ (.inr (.inr rfl)))
  exact ⟨dx, ws, a2, F2, q1, r1, e3, e4, e5, q3.trans e6, r3.trans e7, hr.gr g (fun x hx => n x (.inl hx)), e8, e9, rfl⟩
theorem HoldC.some {K : PySem.W.Frag} {C2 C a : Addr} {R : RS} {F : Addr → Prop} {G H : Hp} (h : HoldC K C2 C a R F G H) {x : Addr} (hx : F x) : (∃ o, H x = Option.some o) ∧ G x = none := by
  obtain ⟨dx, ws, a2, F2, e1, e2, e3, e4, e5, e6, e7, hr, e8, e9, rfl⟩ := h.ex
  rcases hx with hx | rfl | rfl
  · exact hr.some hx
  · exact ⟨⟨_, e1⟩, e6⟩
  · exact ⟨⟨_, e2⟩, e7⟩
theorem con_step {K : PySem.W.Frag} {C2 C a dx a2 : Addr} {R' : RS} {ws : List (Str × V)} {F2 F2' : Addr → Prop} {G H G' H' : Hp} (e1 : H a = some (.ins C2 dx ws)) (e2 : H dx = some (.own a)) (e3 : ws.lookup ("own_reader" : Str) = some (.ref a2)) (e4 : ws.length ≤ 20) (e5 : ∀ m ∈ cMeths, ws.lookup m = none) (e6 : G a = none) (e7 : G dx = none) (e8 : ¬ F2 a) (e9 : ¬ F2 dx)
    (g : GrF F2 G H F2' G' H') (h : HoldR K C a2 R' F2' G' H') : GrF (fun x => F2 x ∨ x = a ∨ x = dx) G H (fun x => F2' x ∨ x = a ∨ x = dx) G' H' ∧ HoldC K C2 C a R' (fun x => F2' x ∨ x = a ∨ x = dx) G' H' := by
  obtain ⟨q1, q2, q3⟩ := g.fr _ _ e1 e8
  obtain ⟨r1, r2, r3⟩ := g.fr _ _ e2 e9
  refine ⟨⟨g.gg, g.gh, fun x o hx n => ?_⟩, ⟨dx, ws, a2, F2', q1, r1, e3, e4, e5, q3.trans e6, r3.trans e7, h, q2, r2, rfl⟩⟩
  obtain ⟨s1, s2, s3⟩ := g.fr x o hx fun z => n (.inl z)
  refine ⟨s1, fun z => ?_, s3⟩
  rcases z with z | z
  · exact s2 z
  · exact n (.inr z)
theorem cmeth_ne : ∀ m ∈ cMeths, ¬ m = ("own_reader" : Str) := by decide +kernel
theorem con_new {K : PySem.W.Frag} {C2 C a dx x2 dx2 : Addr} {R' : RS} {ws : List (Str × V)} {F0 F2' : Addr → Prop} {G H G' H' : Hp} (gh : Same G H) (e1 : H a = some (.ins C2 dx ws)) (e2 : H dx = some (.own a)) (e4 : (putF "own_reader" (.ref x2) ws).length ≤ 20) (e5 : ∀ m ∈ cMeths, ws.lookup m = none) (e6 : G a = none) (e7 : G dx = none) (hF : ∀ x, ¬ F0 x → x ≠ a ∧ x ≠ dx)
    (hx : H x2 = none) (hd : H dx2 = none) (g : GrF (iF x2 dx2) G (upd (upd H dx2 (.own x2)) x2 (.ins C dx2 [])) F2' G' H') (h : HoldR K C x2 R' F2' G' H') :
    ∃ F', GrF F0 G H F' G' (upd H' a (.ins C2 dx (putF "own_reader" (.ref x2) ws))) ∧ HoldC K C2 C a R' F' G' (upd H' a (.ins C2 dx (putF "own_reader" (.ref x2) ws))) := by
  have up : ∀ x o, H x = some o → (upd (upd H dx2 (.own x2)) x2 (.ins C dx2 [])) x = some o ∧ ¬ iF x2 dx2 x := fun x o hx' => by
    have n1 := ne_of_none hx' hx
    have n2 := ne_of_none hx' hd
    refine ⟨?_, fun z => ?_⟩
    · rw [upd_ne n1, upd_ne n2]
      exact hx'
    · rcases z with z | z
      · exact n1 z
      · exact n2 z
  have key : ∀ x o, H x = some o → H' x = some o ∧ ¬ F2' x ∧ G' x = G x := fun x o hx' => g.fr x o (up x o hx').1 (up x o hx').2
  obtain ⟨q1, q2, q3⟩ := key _ _ e1
  obtain ⟨r1, r2, r3⟩ := key _ _ e2
  have nda : dx ≠ a := fun z => ne_ins_own e1 e2 z.symm
  have gu := GrF.upd (F := fun x => x = a) (o := .ins C2 dx (putF "own_reader" (.ref x2) ws)) g.gh rfl (q3.trans e6)
  refine ⟨fun x => F2' x ∨ x = a ∨ x = dx, ⟨g.gg, gu.gh, fun x o hx' n => ?_⟩, ⟨dx, putF "own_reader" (.ref x2) ws, x2, F2', upd_same, ?_, lk_eq, e4, fun m hm => lk_ne (e5 m hm) (cmeth_ne m hm), q3.trans e6, r3.trans e7, h.gr gu (fun x hx' z => ?_), q2, r2, rfl⟩⟩
  · obtain ⟨s1, s2, s3⟩ := key x o hx'
    obtain ⟨n1, n2⟩ := hF x n
    refine ⟨by rw [upd_ne n1]; exact s1, fun z => ?_, s3⟩
    rcases z with z | z | z
    · exact s2 z
    · exact n1 z
    · exact n2 z
  · rw [upd_ne nda]
    exact r1
  · rw [z] at hx'
    exact q2 hx'
def spChange (K : PySem.W.Frag) (C2 C : Addr) (sf : List PyData → PyData) : Sp := fun vs H Q _ => ∃ G F R R' t a us x ds, vs = .ref a :: us ∧ us.length = 2 ∧ Same G H ∧ HoldC K C2 C a R F G H ∧ RsOk R t ∧ t ≤ 1000 ∧ DpAll K G us [.str x, .list ds] ∧ Chg sf R x ds R' ∧ ∀ G' H' F', GrF F G H F' G' H' → HoldC K C2 C a R' F' G' H' → Q .non H'
def spCInit (K : PySem.W.Frag) (C2 C : Addr) : Sp := fun vs H Q _ => ∃ G a dx, vs = [.ref a] ∧ Same G H ∧ H a = some (.ins C2 dx []) ∧ H dx = some (.own a) ∧ G a = none ∧ G dx = none ∧ ∀ G' H' F', GrF (iF a dx) G H F' G' H' → HoldC K C2 C a (newR "levels" 1 1 0) F' G' H' → Q .non H'
section
variable {P : Program} {w : World} {K : PySem.W.Frag} {mg : Str → Option Value} {base : Heap}
theorem ok_cinit {O : Bo K} (B : Bt w K mg) (D : DfC K mg "Console" O.cC "__init__" "Console.__init__" s_Console_init) (M_Reader : CalC P w K mg base "Reader" O.cR 4 ["self", "kind", "height", "size", "shift"] (spInit K O.cR)) : CalC P w K mg base "Console" O.cC 6 ["self"] (spCInit K O.cC O.cR) := by
  obtain ⟨f, fd, F, hmg, M⟩ := D
  refine ⟨f, fd, ?_, hmg, M, F.bindsN (fun _ _ _ _ _ _ us hl => match us, hl with | [_], _ => rfl)⟩
  refine mk_raw F sc_Console_init (fun vs H Q E h => ?_) ⟨_, fun cdv A outer s H E f hr => (pss_one (ps_fldK K (pv 0) (pe_makeC M_Reader hr (by rfl) (pa_cons pe_str (pa_cons pe_int (pa_cons pe_int (pa_cons pe_int pa_nil))))) rfl))
    , ?_⟩
  · obtain ⟨_, _, _, rfl, _⟩ := h
    rfl
  rintro vs H Q E ⟨G, a, dx, rfl, gh, ha, hx, ga, gx, q⟩
  refine fun x2 dx2 h2 hd2 ne => ?_
  have g1 := Gr.newH (o := .own x2) gh hd2
  have hx2 : (upd H dx2 (.own x2)) x2 = none := by
    rw [upd_ne (fun z => ne z.symm)]
    exact h2
  have g2 := Gr.newH (o := .ins O.cR dx2 []) g1.gh hx2
  have e1 : (upd (upd H dx2 (.own x2)) x2 (.ins O.cR dx2 [])) dx2 = some (.own x2) := by
    rw [upd_ne ne]
    exact upd_same
  refine ⟨G, x2, dx2, [.str "levels", .int 1, .int 1, .int 0], "levels", 1, 1, 0, rfl, rfl, g2.gh, upd_same, e1, gh.free h2, gh.free hd2, .cons (.str _) (.cons (.int _) (.cons (.int _) (.cons (.int _) .nil))), ⟨by decide +kernel, by decide, by decide, by decide, by decide, by decide, by decide⟩, fun G' H' F' gf hR => ⟨rfl, ?_⟩⟩
  have l1 : (putF "own_reader" (.ref x2) ([] : List (Str × V))).length ≤ 20 := Nat.le_trans (length_putF _ _ _) (by decide)
  obtain ⟨F2, gF, hC⟩ := con_new (C2 := O.cC) (F0 := iF a dx) gh ha hx l1 (fun m _ => rfl) ga gx (fun x n => ⟨fun z => n (.inl z), fun z => n (.inr z)⟩) h2 hd2 gf hR
  have a1 : (upd (upd H dx2 (.own x2)) x2 (.ins O.cR dx2 [])) a = some (.ins O.cC dx []) := by
    rw [upd_ne (ne_of_none ha h2), upd_ne (ne_of_none ha hd2)]
    exact ha
  have a2 := gf.fr a _ a1 (fun z => by
    rcases z with z | z
    · exact ne_of_none ha h2 z
    · exact ne_of_none ha hd2 z)
  exact ⟨_, rfl, a, O.cC, dx, [], rfl, a2.1, O.hC, O.nC, by decide, q _ _ _ gF hC⟩
theorem ql_entU {G H : Hp} {y : Str} {N : List Str} {v : V} {vs : List V} {ds : List PyData} (gh : Same G H) (hv : DpAll K G vs ds) : QL K G (.ob (atP v) :: ent N.length ds) (L2.start (y :: N) (v :: vs)) H := ql_entO (o := atP v) gh hv rfl
theorem ok_change {O : Bo K} {sf : List PyData → PyData} (B : Bt w K mg) (D : DfM K O.cC "change" "Console.change" s_Console_change) (M_Reader : CalC P w K mg base "Reader" O.cR 4 ["self", "kind", "height", "size", "shift"] (spInit K O.cR))
    (M_Reader_search : CalM P w K mg base O.cR "search" 7 ["self", "node"] (spSearch K O.cR sf)) (M_Reader_drop : CalM P w K mg base O.cR "drop" 7 ["self"] (spDrop K O.cR sf)) (M_Reader_undo : CalM P w K mg base O.cR "undo" 1 ["self"] (spUndo K O.cR)) : CalM P w K mg base O.cC "change" 8 ["self", "head", "values"] (spChange K O.cC O.cR sf) := by
  obtain ⟨f, fd, F, hm⟩ := D
  refine ⟨O.hC, f, fd, ?_, hm, F.bindsN (fun _ _ _ _ _ _ us hl => match us, hl with | [_, _, _], _ => rfl)⟩
  refine mk_raw F sc_Console_change (fun vs H Q E h => ?_) ⟨_, fun cdv A outer s H E f hr => (pss_one (ps_match (pv 1) (pmc_str (pss_one (ps_fldK K (pv 0) (pe_makeC M_Reader hr (by rfl) (pa_cons (pe_ix (ix_listK K) (pv 2) pe_int (fun _ _ => rfl)) (pa_cons (pe_ix (ix_listK K) (pv 2) pe_int (fun _ _ => rfl)) (pa_cons (pe_ix (ix_listK K) (pv 2) pe_int (fun _ _ => rfl)) (pa_cons (pe_ix (ix_listK K) (pv 2) pe_int (fun _ _ => rfl)) pa_nil))))) rfl))
    (pmc_str (pss_one (ps_expr (pe_methC M_Reader_search hr (pe_fldK K (pv 0) rfl) (pa_cons (pe_ix (ix_listK K) (pv 2) pe_int (fun _ _ => rfl)) pa_nil))))
    (pmc_str (pss_one (ps_expr (pe_methC0 M_Reader_drop hr (pe_fldK K (pv 0) rfl))))
    (pmc_any (pss_one (ps_expr (pe_methC0 M_Reader_undo hr (pe_fldK K (pv 0) rfl))))))))))
    , ?_⟩
  · obtain ⟨_, _, _, _, _, _, _, _, _, rfl, h, _⟩ := h
    rw [List.length_cons, h]
    rfl
  rintro vs H Q E ⟨G, F, R, R', t, a, us, x, ds, rfl, hl, gh, hc, ok, ht, hus, ch, q⟩
  have ql : QL K G [.ob (atP (.ref a)), .dat (.str x), .dat (.list ds)] (L2.start n_Console_change (.ref a :: us)) H := ql_entU (y := "self") (N := ["head", "values"]) gh hus
  cases hus with
  | cons d1 hus =>
    cases hus with
    | cons d2 hus =>
      cases hus
      cases d1
      obtain ⟨dx, ws, a2, F2, e1, e2, e3, e4, e5, e6, e7, hr, e8, e9, rfl⟩ := hc.ex
      cases ch with
      | @reader k h s m nok =>
        refine ⟨_, rfl, _, rfl, ?_⟩
        rw [if_pos rfl]
        unfold sFld tMake
        have ea : EvA K (tCons (tOp (rIxL K) (tVar 2) (tC (.int 0))) (tCons (tOp (rIxL K) (tVar 2) (tC (.int 1))) (tCons (tOp (rIxL K) (tVar 2) (tC (.int 2))) (tCons (tOp (rIxL K) (tVar 2) (tC (.int 3))) tNil)))) [.ob (atP (.ref a)), .dat (.str "reader"), .dat (.list [.str k, .int h, .int s, .int m])] [.str k, .int h, .int s, .int m] :=
          ea_cons (ev_op (ev_var rfl) ev_int (rd_ixL rfl)) (ea_cons (ev_op (ev_var rfl) ev_int (rd_ixL rfl)) (ea_cons (ev_op (ev_var rfl) ev_int (rd_ixL rfl)) (ea_cons (ev_op (ev_var rfl) ev_int (rd_ixL rfl)) ea_nil)))
        refine ea G _ H ql _ fun vs G1 H1 g1 dv => ?_
        refine fun x2 dx2 h2 hd2 ne => ?_
        rw [List.append_nil]
        have f1 := g1.hh _ _ e1
        have f2 := g1.hh _ _ e2
        have g2 := Gr.newH (o := .own x2) g1.gh hd2
        have hx2 : (upd H1 dx2 (.own x2)) x2 = none := by
          rw [upd_ne (fun z => ne z.symm)]
          exact h2
        have g3 := Gr.newH (o := .ins O.cR dx2 []) g2.gh hx2
        have e1' : (upd (upd H1 dx2 (.own x2)) x2 (.ins O.cR dx2 [])) dx2 = some (.own x2) := by
          rw [upd_ne ne]
          exact upd_same
        refine ⟨G1, x2, dx2, vs, k, h, s, m, rfl, dv.len, g3.gh, upd_same, e1', g1.gh.free h2, g1.gh.free hd2, dv, nok, fun G' H' F' gf hR => ⟨rfl, ?_⟩⟩
        have l1 : (putF "own_reader" (.ref x2) ws).length ≤ 20 := by
          rw [putF_len e3]
          exact e4
        obtain ⟨F2', gF, hC⟩ := con_new (C2 := O.cC) (F0 := fun x => F2 x ∨ x = a ∨ x = dx) g1.gh f1 f2 l1 e5 ((g1.ag _ _ e1).trans e6) ((g1.ag _ _ e2).trans e7) (fun x n => ⟨fun z => n (.inr (.inl z)), fun z => n (.inr (.inr z))⟩) h2 hd2 gf hR
        have a1 : (upd (upd H1 dx2 (.own x2)) x2 (.ins O.cR dx2 [])) a = some (.ins O.cC dx ws) := by
          rw [upd_ne (ne_of_none f1 h2), upd_ne (ne_of_none f1 hd2)]
          exact f1
        have a2 := gf.fr a _ a1 (fun z => by
          rcases z with z | z
          · exact ne_of_none f1 h2 z
          · exact ne_of_none f1 hd2 z)
        exact ⟨_, rfl, a, O.cC, dx, ws, rfl, a2.1, O.hC, O.nC, Nat.lt_of_le_of_lt e4 (by decide), q _ _ _ ((GrF.pure g1).trans gF) hC⟩
      | @search d n oo =>
        refine ⟨_, rfl, _, rfl, ?_⟩
        rw [if_neg (by decide +kernel)]
        refine ⟨_, rfl, ?_⟩
        rw [if_pos rfl]
        obtain ⟨dx2, pc, pp, vc, vp, ws2, hrr, hF2⟩ := hr
        refine ⟨_, rfl, a, O.cC, dx, ws, _, rfl, e1, O.hC, O.nC, e3, a2, dx2, ws2, rfl, hrr.ha, hrr.w.meth _ (by decide +kernel), ?_⟩
        have ea : EvA K (tCons (tOp (rIxL K) (tVar 2) (tC (.int 0))) tNil) [.ob (atP (.ref a)), .dat (.str "search"), .dat (.list [ND d n])] [ND d n] := ea_cons (ev_op (ev_var rfl) ev_int (rd_ixL rfl)) ea_nil
        refine ea G _ H ql _ fun vs G1 H1 g1 dv => ?_
        rw [List.append_nil]
        cases dv with
        | cons dn dv =>
          cases dv
          refine ⟨G1, F2, R, t, a2, _, d, n, rfl, g1.gh, ⟨dx2, pc, pp, vc, vp, ws2, hrr.pure g1, hF2⟩, ok, ht, oo, dn, fun G' H' F' gf hR => ?_⟩
          obtain ⟨s1, s2⟩ := con_step (C2 := O.cC) (g1.hh _ _ e1) (g1.hh _ _ e2) e3 e4 e5 ((g1.ag _ _ e1).trans e6) ((g1.ag _ _ e2).trans e7) e8 e9 gf hR
          exact q _ _ _ ((GrF.pure g1).trans s1) s2
      | drop =>
        refine ⟨_, rfl, _, rfl, ?_⟩
        rw [if_neg (by decide +kernel)]
        refine ⟨_, rfl, ?_⟩
        rw [if_neg (by decide +kernel)]
        refine ⟨_, rfl, ?_⟩
        rw [if_pos rfl]
        obtain ⟨dx2, pc, pp, vc, vp, ws2, hrr, hF2⟩ := hr
        refine ⟨_, rfl, a, O.cC, dx, ws, _, rfl, e1, O.hC, O.nC, e3, a2, dx2, ws2, rfl, hrr.ha, hrr.w.meth _ (by decide +kernel), ?_⟩
        refine ⟨G, F2, R, t, a2, rfl, gh, ⟨dx2, pc, pp, vc, vp, ws2, hrr, hF2⟩, ok, ht, fun G' H' F' gf hR => ?_⟩
        obtain ⟨s1, s2⟩ := con_step (C2 := O.cC) e1 e2 e3 e4 e5 e6 e7 e8 e9 gf hR
        exact q _ _ _ s1 s2
      | @undo ps p cs c ep ec =>
        refine ⟨_, rfl, _, rfl, ?_⟩
        rw [if_neg (by decide +kernel)]
        refine ⟨_, rfl, ?_⟩
        rw [if_neg (by decide +kernel)]
        refine ⟨_, rfl, ?_⟩
        rw [if_neg (by decide +kernel)]
        obtain ⟨dx2, pc, pp, vc, vp, ws2, hrr, hF2⟩ := hr
        refine ⟨_, rfl, a, O.cC, dx, ws, _, rfl, e1, O.hC, O.nC, e3, a2, dx2, ws2, rfl, hrr.ha, hrr.w.meth _ (by decide +kernel), ?_⟩
        refine ⟨G, F2, R, a2, ps, p, cs, c, rfl, gh, ⟨dx2, pc, pp, vc, vp, ws2, hrr, hF2⟩, ep, ec, fun G' H' F' gf hR => ?_⟩
        obtain ⟨s1, s2⟩ := con_step (C2 := O.cC) e1 e2 e3 e4 e5 e6 e7 e8 e9 gf hR
        exact q _ _ _ s1 s2
end
end
end
end
section
set_option exponentiation.threshold 5000
section
open PySem L2
section
def vls (h : Str) (ws : List Str) : List PyData := valsF (formOf h) ws
structure CmdOk (cmd h : Str) (ws : List Str) : Prop where
  sp : Txt.split cmd (Str.ofString " ") = h :: ws
  ln : cmd.length + 2 ≤ 100000
  ok : ∃ f, (h, f) ∈ formsT ∧ ArgsOk f ws
def spExec (K : PySem.W.Frag) (C2 C : Addr) (A : AF) (sf : List PyData → PyData) : Sp := fun vs H Q _ =>
  (∃ G R t v u cmd h ws z, vs = [v, u] ∧ Same G H ∧ CnV C2 C R v H ∧ RsOk R t ∧ t ≤ 1000 ∧ Dp K G u (.str cmd) ∧ CmdOk cmd h ws ∧ ¬ h ∈ changesT ∧ Ans A R h (vls h ws) z ∧ ∀ u' G' H', Gr G H G' H' → Dp K G' u' (.str z) → Q u' H') ∨
  ∃ G F R R' t a u cmd h ws, vs = [.ref a, u] ∧ Same G H ∧ HoldC K C2 C a R F G H ∧ RsOk R t ∧ t ≤ 1000 ∧ Dp K G u (.str cmd) ∧ CmdOk cmd h ws ∧ h ∈ changesT ∧ Chg sf R h (vls h ws) R' ∧ ∀ G' H' F', GrF F G H F' G' H' → HoldC K C2 C a R' F' G' H' → Q (.str "ok") H'
section
variable {P : Program} {w : World} {K : PySem.W.Frag} {mg : Str → Option Value} {base : Heap}
theorem seq_run {G H : Hp} {r r1 : List QV} {σ : L2.St} {D : Ends} {t u : TS} (l : QL K G r σ H) (hn : ∀ (i : Nat) (es : List PyData), r[i]? ≠ some (.own es)) (h : SD K t r (.nx r1)) (k : ∀ G1 σ1 H1, Gr G H G1 H1 → QL K G1 r1 σ1 H1 → u D σ1 H1) : tSeq t u D σ H :=
  h G H G _ H _ l (bs_noown l.gh hn) fun G1 σ1 H1 _ l1 b1 => k G1 σ1 H1 b1.gr l1
theorem ifT_run {G H : Hp} {r : List QV} {σ : L2.St} {D : Ends} {tc : TT} {t u : TS} (l : QL K G r σ H) (h : EvT K tc r true) (k : ∀ G1 H1, Gr G H G1 H1 → QL K G1 r σ H1 → t D σ H1) : tIfS tc t u D σ H :=
  h G σ H l _ fun G1 H1 g1 => by
    rw [if_pos rfl]
    exact k G1 H1 g1 (l.gr g1)
theorem seqIfT_run {G H : Hp} {r : List QV} {σ : L2.St} {D : Ends} {tc : TT} {t u v : TS} (l : QL K G r σ H) (h : EvT K tc r true) (k : ∀ G1 H1, Gr G H G1 H1 → QL K G1 r σ H1 → t { D with nx := v D } σ H1) : tSeq (tIfS tc t u) v D σ H := ifT_run l h k
theorem ev_answer {O : Bo K} {A : AF} {E : XK} {r : List QV} {i : Nat} {R : RS} {t : Nat} {x z : Str} {ds : List PyData} {ta : TA} (hi : r[i]? = some (.ob (CnP O.cC O.cR R))) (ok : RsOk R t) (ht : t ≤ 1000) (ha : EvA K ta r [.str x, .list ds]) (an : Ans A R x ds z) : Ev K (tMeth O.cC "answer" (spAns K O.cC O.cR A) [] E (tVar i) ta) r (.str z) := fun G σ H l Q q => by
  obtain ⟨v, e1, hv⟩ := l.ob i _ hi
  obtain ⟨a, dx, ws, a2, rfl, e2, e3, e4, e5⟩ := hv
  refine ⟨_, e1, a, dx, ws, rfl, e2, e4 _ (by decide +kernel), ha G σ H l _ fun vs G1 H1 g1 dv => ?_⟩
  rw [List.append_nil]
  exact ⟨G1, R, t, .ref a, vs, x, ds, z, rfl, dv.len, g1.gh, ⟨a, dx, ws, a2, rfl, g1.hh _ _ e2, e3, e4, e5.st fun b C dx ws q => g1.hh b _ q⟩, ok, ht, dv, an, fun u G' H' g d => q u G' H' (g1.trans g) d⟩
theorem ok_execute {O : Bo K} {A : AF} {sf : List PyData → PyData} (B : Bt w K mg) (D : DfM K O.cC "execute" "Console.execute" s_Console_execute) (h_values_behind : F_values_behind P w K mg base)
    (M_Console_change : CalM P w K mg base O.cC "change" 8 ["self", "head", "values"] (spChange K O.cC O.cR sf)) (M_Console_answer : CalM P w K mg base O.cC "answer" 15 ["self", "head", "values"] (spAns K O.cC O.cR A)) : CalM P w K mg base O.cC "execute" 16 ["self", "command"] (spExec K O.cC O.cR A sf) := by
  obtain ⟨f_values_behind, p_values_behind, C_values_behind⟩ := h_values_behind
  obtain ⟨f, fd, F, hm⟩ := D
  refine ⟨O.hC, f, fd, ?_, hm, F.bindsN (fun _ _ _ _ _ _ us hl => match us, hl with | [_, _], _ => rfl)⟩
  refine mk_raw F sc_Console_execute (fun vs H Q E h => ?_) ⟨_, fun cdv A outer s H E f hr => (pss_cons (ps_if (pt_not (pt_val (pe_callB (call_isiK' K) (by rfl) B.isinstance (by decide +kernel) (pa_cons (pv 1) (pa_cons (pe_bltn (v := .ty "str") (by rfl) B.str (by decide +kernel) rfl) pa_nil))))) pss_never pss_nil)
    (pss_cons (ps_set (i := 2) sc_Console_execute.nd rfl (Or.inl rfl) (pe_split (pv 1) pe_str))
    (pss_cons (ps_set (i := 3) sc_Console_execute.nd rfl (Or.inl rfl) (pe_callC C_values_behind hr (by rfl) (pa_cons (pv 2) pa_nil)))
    (pss_cons (ps_if (pt_cmpR (op_in_seqK K) (pe_ix (ix_listK K) (pv 2) pe_int (fun _ _ => rfl)) (pe_glob (by rfl) B.c_CHANGES B.r_CHANGES) rfl) (pss_cons (ps_expr (pe_methC M_Console_change hr (pv 0) (pa_cons (pe_ix (ix_listK K) (pv 2) pe_int (fun _ _ => rfl)) (pa_cons (pv 3) pa_nil))))
    (pss_one (ps_ret pe_str))) pss_nil)
    (pss_one (ps_ret (pe_methC M_Console_answer hr (pv 0) (pa_cons (pe_ix (ix_listK K) (pv 2) pe_int (fun _ _ => rfl)) (pa_cons (pv 3) pa_nil)))))))))
    , ?_⟩
  · rcases h with ⟨_, _, _, _, _, _, _, _, _, rfl, _⟩ | ⟨_, _, _, _, _, _, _, _, _, _, rfl, _⟩
    · rfl
    · rfl
  have blank : ((Str.ofString " ").length == 0) = false := by decide +kernel
  rintro vs H Q E (⟨G, R, t, v, u, cmd, h, ws, z, rfl, gh, hv, ok, ht, hu, ⟨hsp, hln, f0, hf, ha⟩, hnc, an, q⟩ | ⟨G, F, R, R', t, a, u, cmd, h, ws, rfl, gh, hc, ok, ht, hu, ⟨hsp, hln, f0, hf, ha⟩, hnc, ch, q⟩)
  · have ql := ql_entO (y := "self") (N := ["command", "words", "values"]) (o := CnP O.cC O.cR R) gh (.cons hu .nil) hv
    refine sd_runQ ql (cons_noown (fun _ z => by cases z) ent_noown) q ?_
    show SD K _ [.ob (CnP O.cC O.cR R), .dat (.str cmd), .un, .un] _
    refine sd_seq (sd_ifF (et_notT (et_B (ev_isi (ev_var rfl) k_ss))) sd_next) ?_
    apply sd_seq (r1 := [.ob (CnP O.cC O.cR R), .dat (.str cmd), .dat (.list ((h :: ws).map .str)), .un])
    · rw [← hsp]
      exact sd_asg (ev_new (evn_split (ev_var rfl) ev_str blank hln)) gd_name
    obtain ⟨_, zz, c1⟩ := use_fn (K := K) p_values_behind [.list ((h :: ws).map .str)] ⟨_, _, _, rfl, hf, ha⟩
    obtain rfl := zz _ _ rfl
    apply sd_seq (r1 := [.ob (CnP O.cC O.cR R), .dat (.str cmd), .dat (.list ((h :: ws).map .str)), .dat (.list (vls h ws))])
    · exact sd_asg (ev_call (ea_cons (ev_var rfl) ea_nil) c1) gd_name
    have hat : atI ((h :: ws).map PyData.str) 0 = some (.str h) := by
      unfold atI
      rw [ixN_in (by decide) (by rw [List.length_map, List.length_cons]; omega)]
      rfl
    refine sd_seq (sd_ifF (et_is (et_test (ev_op (ev_op (ev_var rfl) ev_int (rd_ixL hat)) ev_CHANGES rd_inT)) (dfa hnc)) sd_next) ?_
    apply sd_ret
    exact ev_answer rfl ok ht (ea_cons (ev_op (ev_var rfl) ev_int (rd_ixL hat)) (ea_cons (ev_var rfl) ea_nil)) an
  · have ql : QL K G [.ob (atP (.ref a)), .dat (.str cmd), .un, .un] (L2.start n_Console_execute [.ref a, u]) H := ql_entU (y := "self") (N := ["command", "words", "values"]) gh (.cons hu .nil)
    have no : ∀ {d1 : PyData} {s2 s3 : QV}, (∀ es, s2 ≠ .own es) → (∀ es, s3 ≠ .own es) → ∀ (i : Nat) (es : List PyData), ([.ob (atP (.ref a)), .dat d1, s2, s3] : List QV)[i]? ≠ some (.own es) := fun h2 h3 => cons_noown (fun _ z => by cases z) (cons_noown (fun _ z => by cases z) (cons_noown h2 (cons_noown h3 fun i es z => by cases z)))
    refine seq_run ql (no (fun _ z => by cases z) (fun _ z => by cases z)) (sd_ifF (et_notT (et_B (ev_isi (ev_var rfl) k_ss))) sd_next) fun G1 σ1 H1 g1 l1 => ?_
    refine seq_run (r1 := [.ob (atP (.ref a)), .dat (.str cmd), .dat (.list ((h :: ws).map .str)), .un]) l1 (no (fun _ z => by cases z) (fun _ z => by cases z)) (by
      rw [← hsp]
      exact sd_asg (ev_new (evn_split (ev_var rfl) ev_str blank hln)) gd_name) fun G2 σ2 H2 g2 l2 => ?_
    obtain ⟨_, zz, c1⟩ := use_fn (K := K) p_values_behind [.list ((h :: ws).map .str)] ⟨_, _, _, rfl, hf, ha⟩
    obtain rfl := zz _ _ rfl
    refine seq_run (r1 := [.ob (atP (.ref a)), .dat (.str cmd), .dat (.list ((h :: ws).map .str)), .dat (.list (vls h ws))]) l2 (no (fun _ z => by cases z) (fun _ z => by cases z)) (sd_asg (ev_call (ea_cons (ev_var rfl) ea_nil) c1) gd_name) fun G3 σ3 H3 g3 l3 => ?_
    have hat : atI ((h :: ws).map PyData.str) 0 = some (.str h) := by
      unfold atI
      rw [ixN_in (by decide) (by rw [List.length_map, List.length_cons]; omega)]
      rfl
    refine seqIfT_run l3 (et_is (et_test (ev_op (ev_op (ev_var rfl) ev_int (rd_ixL hat)) ev_CHANGES rd_inT)) (dtr hnc)) fun G4 H4 g4 l4 => ?_
    have gr := ((g1.trans g2).trans g3).trans g4
    have hc4 := hc.pure gr
    obtain ⟨dx, ws2, a2, F2, e1, e2, e3, e4, e5, e6, e7, hr4, e8, e9, hF⟩ := hc4.ex
    obtain ⟨v0, s0, hv0⟩ := l4.ob 0 _ rfl
    have hv0 : v0 = .ref a := hv0
    subst hv0
    refine ⟨_, s0, a, dx, ws2, rfl, e1, e5 _ (by decide +kernel), ?_⟩
    have ea : EvA K (tCons (tOp (rIxL K) (tVar 2) (tC (.int 0))) (tCons (tVar 3) tNil)) [.ob (atP (.ref a)), .dat (.str cmd), .dat (.list ((h :: ws).map .str)), .dat (.list (vls h ws))] [.str h, .list (vls h ws)] := ea_cons (ev_op (ev_var rfl) ev_int (rd_ixL hat)) (ea_cons (ev_var rfl) ea_nil)
    refine ea G4 _ H4 l4 _ fun vs G5 H5 g5 dv => ?_
    rw [List.append_nil]
    exact ⟨G5, F, R, R', t, a, vs, h, vls h ws, rfl, dv.len, g5.gh, hc4.pure g5, ok, ht, dv, ch, fun G' H' F' gf hC => q G' H' F' ((GrF.pure (gr.trans g5)).trans gf) hC⟩
end
end
end
end
section
set_option exponentiation.threshold 5000
section
open PySem L2
section
def only (p : Addr) (x : Addr) : Prop := x = p
structure BagAt (p : Addr) (c : Int) (G H : Hp) : Prop where
  g : G p = none
  ex : ∃ a b d : Int, H p = some (.lst [.int a, .int b, .int d]) ∧ 0 ≤ a ∧ 0 ≤ d ∧ d ≤ c
theorem BagAt.pure {p : Addr} {c : Int} {G H G' H' : Hp} (h : BagAt p c G H) (g : Gr G H G' H') : BagAt p c G' H' := by
  obtain ⟨a, b, d, e, h1, h2, h3⟩ := h.ex
  exact ⟨(g.ag _ _ e).trans h.g, a, b, d, g.hh _ _ e, h1, h2, h3⟩
theorem BagAt.gr {p : Addr} {c : Int} {G H G' H' : Hp} {F F' : Addr → Prop} (h : BagAt p c G H) (g : GrF F G H F' G' H') (n : ¬ F p) : BagAt p c G' H' := by
  obtain ⟨a, b, d, e, h1, h2, h3⟩ := h.ex
  obtain ⟨q1, _, q3⟩ := g.fr _ _ e n
  exact ⟨q3.trans h.g, a, b, d, q1, h1, h2, h3⟩
theorem BagAt.mono {p : Addr} {c c' : Int} {G H : Hp} (h : BagAt p c G H) (e : c ≤ c') : BagAt p c' G H := by
  obtain ⟨a, b, d, e1, h1, h2, h3⟩ := h.ex
  exact ⟨h.g, a, b, d, e1, h1, h2, by omega⟩
def spBag : Sp := fun vs H Q _ => ∃ n : Int, vs = [.int n] ∧ ∀ p a b, H p = none → 0 ≤ a → Q (.ref p) (upd H p (.lst [.int a, .int b, .int 0]))
def spPick : Sp := fun vs H Q _ => ∃ G p many c, vs = [.ref p, .int many] ∧ Same G H ∧ BagAt p c G H ∧ c ≤ 100000 ∧ 0 < many ∧ many ≤ 10 ^ 31 ∧ ∀ x G' H', 0 ≤ x → x < many → GrF (only p) G H (only p) G' H' → BagAt p (c + 1) G' H' → Q (.int x) H'
def spNode (K : PySem.W.Frag) : Sp := fun vs H Q _ => ∃ G p h c, vs = [.ref p, .int h] ∧ Same G H ∧ BagAt p c G H ∧ c ≤ 90000 ∧ 1 ≤ h ∧ h ≤ 100 ∧ ∀ d n v G' H', 0 ≤ d → d < h → 0 ≤ n → n < 2 ^ d.toNat → GrF (only p) G H (only p) G' H' → BagAt p (c + 4) G' H' → Dp K G' v (ND d n) → Q v H'
theorem ql_updB {K : PySem.W.Frag} {G H : Hp} {r : List QV} {σ : L2.St} {p : Addr} {vs vs2 : List V} (l : QL K G r σ H) (hn : ∀ (i : Nat) (es : List PyData), r[i]? ≠ some (.own es)) (hg : G p = none) (hp : H p = some (.lst vs)) : QL K G r σ (upd H p (.lst vs2)) where
  gh := fun c o e => by
    rw [upd_ne (ne_of_none e hg)]
    exact l.gh c o e
  dat := l.dat
  own := fun i es e => absurd e (hn i es)
  len := l.len
  ob := fun i o e => by
    obtain ⟨v, e1, h⟩ := l.ob i o e
    exact ⟨v, e1, o.st v _ _ _ _ (Same.refl G) (fun a C dx ws q => by
      have hne : a ≠ p := fun z => by
        subst z
        rw [hp] at q
        cases q
      rw [upd_ne hne]
      exact q) h⟩
section
variable {P : Program} {w : World} {K : PySem.W.Frag} {mg : Str → Option Value} {base : Heap}
theorem ok_bag (B : Bt w K mg) (D : Df K mg "_law_bag" "_law_bag" s_law_bag) : Cal P w K mg base "_law_bag" 1 ["_law_cell"] spBag := by
  obtain ⟨f, fd, F, hm⟩ := D
  refine ⟨f, fd, ?_, hm, F.kp, F.bindsN (fun _ _ _ _ _ _ us hl => match us, hl with | [_], _ => rfl)⟩
  refine mk_raw F sc_law_bag (fun vs H Q E h => ?_) ⟨_, fun cdv A outer s H E f hr => (pss_one (ps_ret (pe_lst (pa_cons (pe_callB (call_max2 rfl) (by rfl) B.max (by decide +kernel) (pa_cons pe_int (pa_cons (pe_op op_sub (pv 0) (pe_op op_pow pe_int pe_int)) pa_nil))) (pa_cons (pv 0) (pa_cons pe_int pa_nil))))))
    , ?_⟩
  · obtain ⟨_, rfl, _⟩ := h
    rfl
  rintro vs H Q E ⟨n, rfl, q⟩
  refine ⟨_, rfl, _, _, rfl, rfl, ⟨by decide, by decide, by decide⟩, _, _, rfl, rfl, ?_⟩
  refine ⟨_, _, rfl, _, rfl, (by decide : 3 ≤ 16777216), fun p hp => q p _ _ hp ?_⟩
  split <;> omega
theorem se_runQ {ts : TS} {G H : Hp} {r : List QV} {σ : L2.St} {Q : VK} {R : PyData → Prop} (l : QL K G r σ H) (hn : ∀ (i : Nat) (es : List PyData), r[i]? ≠ some (.own es)) (h : SE K ts r R) (q : ∀ d v G' H', R d → Gr G H G' H' → Dp K G' v d → Q v H') : ts { nx := fun _ H' => Q .non H', rt := Q } σ H := by
  obtain ⟨d, hd, hs⟩ := h
  exact sd_runQ l hn (fun v G' H' g d1 => q d v G' H' hd g d1) hs
theorem int_ok {n : Int} {H : Hp} {Q : VK} (q : Q (.int n) H) : (∃ i, ([V.int n] : List V) = [.int i] ∧ Q (.int i) H) ∨ ∃ k, ([V.int n] : List V) = [.bl k] ∧ Q (.int (if k then 1 else 0)) H := .inl ⟨n, rfl, q⟩
theorem ok_pick (B : Bt w K mg) (D : Df K mg "_law_pick" "_law_pick" s_law_pick) : Cal P w K mg base "_law_pick" 1 ["_law_bag_here", "_law_many"] spPick := by
  obtain ⟨f, fd, F, hm⟩ := D
  refine ⟨f, fd, ?_, hm, F.kp, F.bindsN (fun _ _ _ _ _ _ us hl => match us, hl with | [_, _], _ => rfl)⟩
  refine mk_raw F sc_law_pick (fun vs H Q E h => ?_) ⟨_, fun cdv A outer s H E f hr => (pss_cons (ps_asg (pe_op op_add (pe_ix (ix_listK K) (pv 0) pe_int (fun _ _ => rfl)) pe_int) (pg_sub (pv 0) pe_int set_list))
    (pss_cons (ps_if (pt_cmpR op_gt (pe_ix (ix_listK K) (pv 0) pe_int (fun _ _ => rfl)) pe_int (nomark _)) (pss_cons (ps_set (i := 2) sc_law_pick.nd rfl (Or.inl rfl) (pe_op op_mod (pe_callTy call_int1 (by rfl) B.int (by decide +kernel) (pa_cons (pe_ix (ix_listK K) (pv 0) pe_int (fun _ _ => rfl)) pa_nil)) (pv 1)))
    (pss_cons (ps_asg (pe_op op_fdivW (pe_callTy call_int1 (by rfl) B.int (by decide +kernel) (pa_cons (pe_ix (ix_listK K) (pv 0) pe_int (fun _ _ => rfl)) pa_nil)) (pv 1)) (pg_sub (pv 0) pe_int set_list))
    (pss_one (ps_ret (pv 2))))) pss_nil)
    (pss_cons (ps_par (i := 3) (j := 4) rfl sc_law_pick.nd rfl rfl (by decide) rfl rfl  (pa_cons (pe_callTy call_int1 (by rfl) B.int (by decide +kernel) (pa_cons (pe_ix (ix_listK K) (pv 0) pe_int (fun _ _ => rfl)) pa_nil)) (pa_cons (pe_callTy call_int1 (by rfl) B.int (by decide +kernel) (pa_cons (pe_ix (ix_listK K) (pv 0) pe_int (fun _ _ => rfl)) pa_nil)) pa_nil)) (by rfl))
    (pss_cons (ps_set (i := 5) sc_law_pick.nd rfl (Or.inl rfl) (pe_op op_mod (pe_callTy call_int1 (by rfl) B.int (by decide +kernel) (pa_cons (pe_op op_add (pe_op op_add (pe_op op_mulW (pe_op op_mod (pv 3) pe_int) pe_int) (pe_op op_mulW (pv 4) pe_int)) pe_int) pa_nil)) pe_int))
    (pss_cons (ps_set (i := 6) sc_law_pick.nd rfl (Or.inl rfl) (pe_op op_mod (pe_callTy call_int1 (by rfl) B.int (by decide +kernel) (pa_cons (pe_op op_add (pe_op op_mulW (pv 5) (pv 5)) (pe_op op_mulW (pv 4) pe_int)) pa_nil)) pe_int))
    (pss_cons (ps_set (i := 7) sc_law_pick.nd rfl (Or.inl rfl) (pe_op op_fdivW (pe_callTy call_int1 (by rfl) B.int (by decide +kernel) (pa_cons (pe_op op_add (pe_op op_mulW (pv 5) pe_int) (pv 6)) pa_nil)) pe_int))
    (pss_cons (ps_if (pt_cmpR op_gt (pv 1) (pe_op op_pow pe_int pe_int) (nomark _)) (pss_one (ps_set (i := 7) sc_law_pick.nd rfl (Or.inl rfl) (pe_op op_add (pe_op op_pow (pv 7) pe_int) (pv 6)))) pss_nil)
    (pss_one (ps_ret (pe_op op_mod (pe_callTy call_int1 (by rfl) B.int (by decide +kernel) (pa_cons (pv 7) pa_nil)) (pv 1)))))))))))
    , ?_⟩
  · obtain ⟨_, _, _, _, rfl, _⟩ := h
    rfl
  rintro vs H Q E ⟨G, p, many, c, rfl, gh, ⟨hg, a, b, d, hp, ha, hd0, hd1⟩, hc, m0, m1, q⟩
  have sq : ∀ {H : Hp} {xs : List V}, H p = some (.lst xs) → SqL K H p xs := fun h => .inl (.inl h)
  have hdv : ∀ x : Int, CDivW x many := fun x => div_ok (i := x) (a := 110) m0 (nab_lt (by omega) (by
    have : (10 : Int) ^ 31 < 2 ^ 110 := by decide
    generalize (10 : Int) ^ 31 = X at *
    generalize (2 : Int) ^ 110 = Y at *
    omega))
  -- the turn
  refine ⟨_, rfl, p, _, 2, .int d, rfl, rfl, sq hp, rfl, d, 1, rfl, rfl, _, rfl, p, [.int a, .int b, .int d], 2, 2, rfl, rfl, hp, rfl, ?_⟩
  have hp1 : (upd H p (.lst [.int a, .int b, .int (d + 1)])) p = some (.lst [.int a, .int b, .int (d + 1)]) := upd_same
  have gf1 : GrF (only p) G H (only p) G (upd H p (.lst [.int a, .int b, .int (d + 1)])) := GrF.upd gh rfl hg
  refine ⟨_, rfl, p, _, 0, .int a, rfl, rfl, sq hp1, rfl, a, 0, rfl, rfl, _, rfl, ?_⟩
  by_cases c0 : a > 0
  · have e : (decide (a > 0)) = true := dtr c0
    rw [e]
    dsimp only
    rw [if_pos rfl]
    refine ⟨_, rfl, p, _, 0, .int a, rfl, rfl, sq hp1, rfl, Or.inl ⟨a, rfl, _, rfl, a, many, rfl, rfl, m0, ?_⟩⟩
    refine ⟨_, rfl, p, _, 0, .int a, rfl, rfl, sq hp1, rfl, Or.inl ⟨a, rfl, _, rfl, a, many, rfl, rfl, hdv a, ?_⟩⟩
    refine ⟨_, rfl, p, [.int a, .int b, .int (d + 1)], 0, 0, rfl, rfl, hp1, rfl, ?_⟩
    refine ⟨_, rfl, ?_⟩
    have gf2 := gf1.trans (GrF.upd (F := only p) (o := .lst [.int (a / many), .int b, .int (d + 1)]) gf1.gh rfl hg)
    exact q _ G _ (Int.emod_nonneg _ (by omega)) (Int.emod_lt_of_pos _ m0) gf2 ⟨hg, a / many, b, d + 1, upd_same, Int.ediv_nonneg ha (by omega), by omega, by omega⟩
  · have e : (decide (a > 0)) = false := dfa c0
    rw [e]
    dsimp only
    rw [if_neg Bool.false_ne_true]
    refine ⟨_, rfl, p, _, 1, .int b, rfl, rfl, sq hp1, rfl, Or.inl ⟨b, rfl, _, rfl, p, _, 2, .int (d + 1), rfl, rfl, sq hp1, rfl, Or.inl ⟨d + 1, rfl, _, _, rfl, ?_⟩⟩⟩
    have ql0 : QL K G [.ob (atP (.ref p)), .dat (.int many), .un, .un, .un, .un, .un, .un] (L2.start n_law_pick [.ref p, .int many]) H := ql_entU (y := "_law_bag_here") (N := ["_law_many", "_law_told", "_law_seed", "_law_turn", "_law_first", "_law_second", "_law_drawn"]) gh (.cons (.int _) .nil)
    have no0 : ∀ (i : Nat) (es : List PyData), ([.ob (atP (.ref p)), .dat (.int many), .un, .un, .un, .un, .un, .un] : List QV)[i]? ≠ some (.own es) := cons_noown (fun _ z => by cases z) (ent_noown (n := 7) (ds := [.int many]))
    have ql1 := ql_updB (vs2 := [.int a, .int b, .int (d + 1)]) ql0 no0 hg hp
    have ql2 := (ql1.set (i := 3) (d := .int b) (.int b)).set (i := 4) (d := .int (d + 1)) (.int (d + 1))
    have no2 : ∀ (i : Nat) (es : List PyData), ([.ob (atP (.ref p)), .dat (.int many), .un, .dat (.int b), .dat (.int (d + 1)), .un, .un, .un] : List QV)[i]? ≠ some (.own es) := cons_noown (fun _ z => by cases z) (cons_noown (fun _ z => by cases z) (cons_noown (fun _ z => by cases z) (cons_noown (fun _ z => by cases z) (cons_noown (fun _ z => by cases z) (ent_noown (n := 3) (ds := []))))))
    dsimp only
    refine se_runQ (R := fun z => ∃ x, z = .int x ∧ 0 ≤ x ∧ x < many) ql2 no2 ?_ ?_
    · show SE K _ [.ob (atP (.ref p)), .dat (.int many), .un, .dat (.int b), .dat (.int (d + 1)), .un, .un, .un] _
      have m1 : CMulW (b % 2147483629) 48271 := mul_ok (a := 32) (b := 32) (by omega) (by decide)
      have m2 : CMulW (d + 1) 69621 := mul_ok (a := 32) (b := 32) (by omega) (by decide)
      have m3 : CMulW (d + 1) 40692 := mul_ok (a := 32) (b := 32) (by omega) (by decide)
      walk_at "asg"
      have f0 : 0 ≤ (b % 2147483629 * 48271 + (d + 1) * 69621 + 12345) % 2147483647 := Int.emod_nonneg _ (by decide)
      have f1 := Int.emod_lt_of_pos (b % 2147483629 * 48271 + (d + 1) * 69621 + 12345) (b := 2147483647) (by decide)
      generalize (b % 2147483629 * 48271 + (d + 1) * 69621 + 12345) % 2147483647 = f at *
      have m4 : CMulW f f := mul_ok (a := 32) (b := 32) (by omega) (by omega)
      have m5 : CMulW f 2147483587 := mul_ok (a := 32) (b := 32) (by omega) (by decide)
      walk_at "asg"
      have s0 : 0 ≤ (f * f + (d + 1) * 40692) % 2147483587 := Int.emod_nonneg _ (by decide)
      have s1 := Int.emod_lt_of_pos (f * f + (d + 1) * 40692) (b := 2147483587) (by decide)
      generalize (f * f + (d + 1) * 40692) % 2147483587 = s at *
      have hd32 : CDivW (f * 2147483587 + s) 32 := div_ok (a := 6) (by decide) (by decide)
      walk_at "asg"
      have g0 : 0 ≤ (f * 2147483587 + s) / 32 := Int.ediv_nonneg (by omega) (by decide)
      have g1 : (f * 2147483587 + s) / 32 < 2 ^ 60 := by
        have : (2 : Int) ^ 60 = 1152921504606846976 := by decide
        omega
      generalize (f * 2147483587 + s) / 32 = g at *
      have hp1 : CPow 10 15 := ⟨by decide, by decide, by decide⟩
      have hp2 : CPow g 8 := ⟨by decide, by decide, nab_lt g0 (Int.lt_trans g1 (by decide))⟩
      have fin : ∀ y, SE K (tRet (tOp (rI (fun _ j => 0 < j) fun i j => .int (i % j)) (tCB (fun xs H Q => (∃ i, xs = [.int i] ∧ Q (.int i) H) ∨ ∃ k, xs = [.bl k] ∧ Q (.int (if k then 1 else 0)) H) (tCons (tVar 7) tNil)) (tVar 1))) [.ob (atP (.ref p)), .dat (.int many), .un, .dat (.int b), .dat (.int (d + 1)), .dat (.int f), .dat (.int s), .dat (.int y)] (fun z => ∃ x, z = .int x ∧ 0 ≤ x ∧ x < many) := fun y => by
        refine se_ret (d := .int (y % many)) ?_ ⟨_, rfl, Int.emod_nonneg _ (by omega), Int.emod_lt_of_pos _ m0⟩
        walk_at "ev"
      by_cases cb : many > 10 ^ (15 : Int).toNat
      · apply se_seq (r1 := [.ob (atP (.ref p)), .dat (.int many), .un, .dat (.int b), .dat (.int (d + 1)), .dat (.int f), .dat (.int s), .dat (.int (g ^ (8 : Int).toNat + s))])
        · refine sd_ifT (et_is (by walk_at "ev") (dtr cb)) ?_
          apply sd_asg
          · walk_at "ev"
          · walk_at "ev"
        · exact fin _
      · refine se_seq (sd_ifF (et_is (by walk_at "ev") (dfa cb)) sd_next) ?_
        exact fin _
    · rintro z v G' H' ⟨x, rfl, x0, x1⟩ g dz
      cases dz
      have bg : BagAt p (c + 1) G (upd H p (.lst [.int a, .int b, .int (d + 1)])) := ⟨hg, a, b, d + 1, upd_same, ha, by omega, by omega⟩
      exact q x G' H' x0 x1 (gf1.trans (GrF.pure g)) (bg.pure g)
end
end
end
end
section
set_option exponentiation.threshold 5000
section
open PySem L2
section
section
variable {P : Program} {w : World} {K : PySem.W.Frag} {mg : Str → Option Value} {base : Heap}
theorem ql_grF {G H G' H' : Hp} {r : List QV} {σ : L2.St} {F F' : Addr → Prop} (l : QL K G r σ H) (hn : ∀ (i : Nat) (es : List PyData), r[i]? ≠ some (.own es)) (g : GrF F G H F' G' H') (hF : ∀ (a C dx : Addr) (ws : List (Str × V)), H a = some (.ins C dx ws) → ¬ F a) : QL K G' r σ H' where
  gh := g.gh
  dat := fun i d e => by
    obtain ⟨v, e1, h⟩ := l.dat i d e
    exact ⟨v, e1, dp_mono g.gg _ _ h⟩
  own := fun i es e => absurd e (hn i es)
  len := l.len
  ob := fun i o e => by
    obtain ⟨v, e1, h⟩ := l.ob i o e
    exact ⟨v, e1, o.st v _ _ _ _ g.gg (fun a C dx ws q => (g.fr a _ q (hF a C dx ws q)).1) h⟩
theorem BagAt.noins {p : Addr} {c : Int} {G H : Hp} (h : BagAt p c G H) : ∀ (a C dx : Addr) (ws : List (Str × V)), H a = some (.ins C dx ws) → ¬ only p a := fun a C dx ws q z => by
  obtain ⟨x, y, d, e, _⟩ := h.ex
  have z : a = p := z
  rw [z, e] at q
  cases q
theorem pick_run {G H : Hp} {r : List QV} {σ : L2.St} {p : Addr} {c many : Int} {tb : TE} {i : Nat} {E : XK} {Q : VK} (l : QL K G r σ H) (hn : ∀ (i : Nat) (es : List PyData), r[i]? ≠ some (.own es)) (hb : BagAt p c G H) (hi : r[i]? = some (.ob (atP (.ref p)))) (ht : Ev K tb r (.int many)) (hc : c ≤ 100000) (m0 : 0 < many) (m1 : many ≤ 10 ^ 31)
    (k : ∀ x G' H', 0 ≤ x → x < many → GrF (only p) G H (only p) G' H' → BagAt p (c + 1) G' H' → QL K G' r σ H' → Q (.int x) H') : tCall spPick [] E (tCons (tVar i) (tCons tb tNil)) σ H Q := by
  obtain ⟨v, e1, hv⟩ := l.ob i _ hi
  have hv : v = .ref p := hv
  subst hv
  refine ⟨_, e1, ht G σ H l _ fun u G1 H1 g1 d1 => ?_⟩
  cases d1
  have hb1 := hb.pure g1
  refine ⟨G1, p, many, c, rfl, g1.gh, hb1, hc, m0, m1, fun x G' H' x0 x1 gf bg => ?_⟩
  have gf2 := (GrF.pure (F := only p) g1).trans gf
  exact k x G' H' x0 x1 gf2 bg (ql_grF l hn gf2 hb.noins)
theorem ok_node (B : Bt w K mg) (D : Df K mg "_law_node" "_law_node" s_law_node) (C_law_pick : Cal P w K mg base "_law_pick" 1 ["_law_bag_here", "_law_many"] spPick) : Cal P w K mg base "_law_node" 2 ["_law_bag_here", "_law_levels_here"] (spNode K) := by
  obtain ⟨f, fd, F, hm⟩ := D
  refine ⟨f, fd, ?_, hm, F.kp, F.bindsN (fun _ _ _ _ _ _ us hl => match us, hl with | [_, _], _ => rfl)⟩
  refine mk_raw F sc_law_node (fun vs H Q E h => ?_) ⟨_, fun cdv A outer s H E f hr => (pss_cons (ps_set (i := 2) sc_law_node.nd rfl (Or.inl rfl) (pe_ix (ix_listK K) (pe_lst (pa_cons (pe_callC C_law_pick hr (by rfl) (pa_cons (pv 0) (pa_cons (pv 1) pa_nil))) (pa_cons (pe_op op_sub (pe_op op_sub (pv 1) pe_int) (pe_callC C_law_pick hr (by rfl) (pa_cons (pv 0) (pa_cons (pe_callB (call_min2 rfl) (by rfl) B.min (by decide +kernel) (pa_cons pe_int (pa_cons (pv 1) pa_nil))) pa_nil)))) pa_nil))) (pe_callC C_law_pick hr (by rfl) (pa_cons (pv 0) (pa_cons pe_int pa_nil))) (fun _ _ => rfl)))
    (pss_one (ps_ret (pe_tup (pa_cons (pv 2) (pa_cons (pe_callC C_law_pick hr (by rfl) (pa_cons (pv 0) (pa_cons (pe_op op_shlW pe_int (pv 2)) pa_nil))) pa_nil))))))
    , ?_⟩
  · obtain ⟨_, _, _, _, rfl, _⟩ := h
    rfl
  rintro vs H Q E ⟨G, p, h, c, rfl, gh, hb, hc, h1, h2, q⟩
  have l0 : QL K G [.ob (atP (.ref p)), .dat (.int h), .un] (L2.start n_law_node [.ref p, .int h]) H := ql_entU (y := "_law_bag_here") (N := ["_law_levels_here", "_law_down"]) gh (.cons (.int _) .nil)
  have no0 : ∀ {s1 s2 : QV}, (∀ es, s1 ≠ .own es) → (∀ es, s2 ≠ .own es) → ∀ (i : Nat) (es : List PyData), ([.ob (atP (.ref p)), s1, s2] : List QV)[i]? ≠ some (.own es) := fun h1 h2 => cons_noown (fun _ z => by cases z) (cons_noown h1 (cons_noown h2 fun i es z => by cases z))
  have n0 := no0 (s1 := .dat (.int h)) (s2 := .un) (fun _ z => by cases z) (fun _ z => by cases z)
  have e31 : (100 : Int) ≤ 10 ^ 31 := by decide
  have e32 : (2 : Int) ^ 100 ≤ 10 ^ 31 := by decide
  refine pick_run (c := c) (many := h) l0 n0 hb rfl (ev_var rfl) (by omega) (by omega) (by omega) fun x1 G1 H1 x10 x11 f1 b1 l1 => ?_
  refine ⟨_, rfl, h, 1, rfl, rfl, ?_⟩
  have hmn : 0 < (if h < 3 then h else 3) ∧ (if h < 3 then h else 3) ≤ h ∧ (if h < 3 then h else 3) ≤ 3 := by split <;> omega
  refine pick_run (c := c + 1) (many := if h < 3 then h else 3) l1 n0 b1 rfl (ev_cb (ea_cons ev_int (ea_cons (ev_var rfl) ea_nil)) rc_min) (by omega) (by omega) (by omega) fun x2 G2 H2 x20 x21 f2 b2 l2 => ?_
  refine ⟨_, _, rfl, rfl, (by decide : 2 ≤ 16777216), fun L hL => ?_⟩
  have g3 := Gr.newG (o := .lst [.int x1, .int (h - 1 - x2)]) f2.gh hL
  have b3 := b2.pure g3
  have l3 := l2.gr g3
  refine pick_run (c := c + 1 + 1) (many := 2) l3 n0 b3 rfl ev_int (by omega) (by omega) (by omega) fun x3 G4 H4 x30 x31 f4 b4 l4 => ?_
  have hL4 : H4 L = some (.lst [.int x1, .int (h - 1 - x2)]) := by
    have nLp : ¬ only p L := fun z => by
      have z : L = p := z
      obtain ⟨_, _, _, e, _⟩ := b2.ex
      rw [z, e] at hL
      cases hL
    exact (f4.fr L _ upd_same nLp).1
  have f04 := ((f1.trans f2).trans (GrF.pure g3)).trans f4
  have key : ∃ d, 0 ≤ d ∧ d < h ∧ atI ([.int x1, .int (h - 1 - x2)] : List V) x3 = some (.int d) := by
    have : x3 = 0 ∨ x3 = 1 := by omega
    rcases this with rfl | rfl
    · exact ⟨x1, x10, x11, rfl⟩
    · exact ⟨h - 1 - x2, by omega, by omega, rfl⟩
  obtain ⟨d, d0, d1, ed⟩ := key
  refine ⟨L, _, x3, .int d, rfl, rfl, .inl (.inl hL4), ed, ?_⟩
  have l5 := l4.set (i := 2) (d := .int d) (.int d)
  refine ⟨_, rfl, ?_⟩
  have pd := p2pos d.toNat
  have pd2 := p2le (a := d.toNat) (b := 100) (by omega)
  refine pick_run (c := c + 1 + 1 + 1) (many := 1 * 2 ^ d.toNat) l5 (no0 (fun _ z => by cases z) (fun _ z => by cases z)) b4 rfl (ev_op ev_int (ev_var rfl) (rd_I (shl1_ok (by omega) (by omega)))) (by omega) (by omega) (by omega) fun n G6 H6 n0 n1 f6 b6 l6 => ?_
  refine ⟨(by decide : 2 ≤ 16777216), fun T hT => ?_⟩
  have g7 := Gr.newG (o := .tup [.int d, .int n]) f6.gh hT
  exact q d n _ _ _ d0 d1 n0 (by omega) ((f04.trans f6).trans (GrF.pure g7)) ((b6.pure g7).mono (by omega)) (.tup (.inl (.inl upd_same)) (.cons (.int _) (.cons (.int _) .nil)))
end
end
end
end
section
set_option exponentiation.threshold 5000
section
open PySem L2
section
section
variable {K : PySem.W.Frag}
theorem evn_catO {r : List QV} {i : Nat} {tb : TE} {ds es : List PyData} (hi : r[i]? = some (.own ds)) (hb : EvN K tb r es) (hl : ds.length + es.length ≤ 100000) : EvN K (tOp rCat (tVar i) tb) r (ds ++ es) := fun G σ H l Q q => by
  obtain ⟨p, vs, e1, e2, e3, e4, _⟩ := l.own i ds hi
  refine ⟨_, e1, hb G σ H l _ fun p2 vs2 G2 H2 g2 n2 z2 h2 d2 => ?_⟩
  exact ⟨p, p2, vs, vs2, rfl, rfl, g2.hh _ _ e3, h2, by rw [e4.len, d2.len]; exact Nat.le_trans hl (by decide), fun u hu => q u _ G2 _ (g2.trans (Gr.newH g2.gh hu)) (g2.hh.free hu) (g2.gh.free hu) upd_same (DpAll.app (dpa_mono g2.gg _ _ e4) d2)⟩
theorem ev_exec {O : Bo K} {A : AF} {sf : List PyData → PyData} {E : XK} {r : List QV} {i : Nat} {R : RS} {t : Nat} {cmd h z : Str} {ws : List Str} {tb : TE} (hi : r[i]? = some (.ob (CnP O.cC O.cR R))) (ok : RsOk R t) (ht : t ≤ 1000) (he : Ev K tb r (.str cmd)) (hc : CmdOk cmd h ws) (hn : ¬ h ∈ changesT) (an : Ans A R h (vls h ws) z) : Ev K (tMeth O.cC "execute" (spExec K O.cC O.cR A sf) [] E (tVar i) (tCons tb tNil)) r (.str z) := fun G σ H l Q q => by
  obtain ⟨v, e1, hv⟩ := l.ob i _ hi
  obtain ⟨a, dx, wz, a2, rfl, e2, e3, e4, e5⟩ := hv
  refine ⟨_, e1, a, dx, wz, rfl, e2, e4 _ (by decide +kernel), he G σ H l _ fun u G1 H1 g1 d1 => ?_⟩
  exact .inl ⟨G1, R, t, .ref a, u, cmd, h, ws, z, rfl, g1.gh, ⟨a, dx, wz, a2, rfl, g1.hh _ _ e2, e3, e4, e5.st fun b C dx ws q => g1.hh b _ q⟩, ok, ht, d1, hc, hn, an, fun u G' H' g d => q u G' H' (g1.trans g) d⟩
end
theorem len_join1 (a b : Str) : (Str.join (Str.ofString " ") [a, b]).length = a.length + 1 + b.length := by
  show (a ++ Str.ofString " " ++ b).length = _
  rw [Str.length_append, Str.length_append]
  have : (Str.ofString " ").length = 1 := by decide +kernel
  rw [this]
theorem cp1 {c : Nat} {x : Str} (h : cp x = [c]) : x = ⟨#[c]⟩ := str_ext h
theorem eW : (⟨#[87]⟩ : Str) = Str.ofString "W" := by decide +kernel
theorem eN : (⟨#[78]⟩ : Str) = Str.ofString "N" := by decide +kernel
theorem eK : (⟨#[75]⟩ : Str) = Str.ofString "K" := by decide +kernel
theorem valF_W {d n : Int} (h1 : 0 ≤ d) (h3 : 0 ≤ n) (h4 : n < 2 ^ d.toNat) : valF ⟨#[87]⟩ (wordF d n) = ND d n := by
  have nWK : ¬ (⟨#[87]⟩ : Str) = Str.ofString "K" := by decide +kernel
  have nWN : ¬ (⟨#[87]⟩ : Str) = Str.ofString "N" := by decide +kernel
  have e : valF ⟨#[87]⟩ (wordF d n) = nodeF (wordF d n) := (if_neg nWK).trans (if_neg nWN)
  rw [e, nodeF_wordF h1 h3 h4]
theorem valF_N {n : Int} (h1 : 0 ≤ n) (h2 : n < 10 ^ 100) : valF ⟨#[78]⟩ (tx n) = .int n := by
  have nNK : ¬ (⟨#[78]⟩ : Str) = Str.ofString "K" := by decide +kernel
  have e : valF ⟨#[78]⟩ (tx n) = numF (tx n) := (if_neg nNK).trans (if_pos eN)
  rw [e, numF_tx h1 h2]
theorem valF_K (w : Str) : valF ⟨#[75]⟩ w = .str w := if_pos eK
theorem sep_mem : ∀ p ∈ formsT, 32 ∉ cp p.1 ∧ p.1.length ≤ 20 := by decide +kernel
theorem f0_ok {h : Str} (hf : (h, Str.ofString "") ∈ formsT) : CmdOk h h [] ∧ vls h [] = [] := by
  have q := sep_mem _ hf
  dsimp only at q
  have e0 : cp (Str.ofString "") = [] := by decide +kernel
  refine ⟨⟨?_, by have := q.2; omega, _, hf, ?_, ?_⟩, ?_⟩
  · have := split_join (ws := [h]) (by simp) (fun w hw => by rw [List.mem_singleton.mp hw]; exact q.1)
    exact this
  · rw [e0]
    rfl
  · intro p hp
    rw [e0] at hp
    cases hp
  · unfold vls valsF
    have e := form_of _ hf
    dsimp only at e
    rw [e, e0]
    rfl
theorem f1_ok {h hb f w : Str} {c : Nat} {v : PyData} (hf : (h, f) ∈ formsT) (hc : cp f = [c]) (hh : hb = h ++ Str.ofString " ") (hw : 32 ∉ cp w) (hl : w.length ≤ 1000) (ha : ArgOk ⟨#[c]⟩ w) (hv : valF ⟨#[c]⟩ w = v) : CmdOk (hb ++ w) h [w] ∧ vls h [w] = [v] := by
  have q := sep_mem _ hf
  dsimp only at q
  have ej : hb ++ w = Str.join (Str.ofString " ") [h, w] := by rw [hh]; rfl
  refine ⟨⟨?_, ?_, _, hf, ?_, ?_⟩, ?_⟩
  · rw [ej]
    exact split_join (ws := [h, w]) (by simp) (fun x hx => by
      rcases List.mem_cons.mp hx with rfl | hx
      · exact q.1
      · rw [List.mem_singleton.mp hx]
        exact hw)
  · rw [ej, len_join1]
    have := q.2
    omega
  · rw [hc]
    rfl
  · intro p hp
    rw [hc] at hp
    have := List.mem_singleton.mp hp
    subst this
    exact ha
  · unfold vls valsF
    have e := form_of _ hf
    dsimp only at e
    rw [e, hc]
    show [valF ⟨#[c]⟩ w] = [v]
    rw [hv]
theorem wordF_len2 {d n : Int} (h1 : 0 ≤ d) (h2 : d ≤ 100) : (wordF d n).length ≤ 1000 := by
  by_cases e : d = 0
  · have : wordF d n = Str.ofString "-" := if_pos e
    rw [this]
    decide +kernel
  · have := wordF_len (n := n) h1 e
    omega
theorem fW_ok {h hb : Str} {d n : Int} (hf : (h, Str.ofString "W") ∈ formsT) (hh : hb = h ++ Str.ofString " ") (h1 : 0 ≤ d) (h2 : d < 100) (h3 : 0 ≤ n) (h4 : n < 2 ^ d.toNat) : CmdOk (hb ++ wordF d n) h [wordF d n] ∧ vls h [wordF d n] = [ND d n] :=
  f1_ok hf (c := 87) (by decide +kernel) hh wordF_free (wordF_len2 h1 (by omega)) (.inr (.inr ⟨eW, d, n, rfl, h1, h2, h3, h4⟩)) (valF_W h1 h3 h4)
theorem fN_ok {h hb : Str} {n : Int} (hf : (h, Str.ofString "N") ∈ formsT) (hh : hb = h ++ Str.ofString " ") (h1 : 0 ≤ n) (h2 : n < 10 ^ 100) : CmdOk (hb ++ tx n) h [tx n] ∧ vls h [tx n] = [.int n] :=
  f1_ok hf (c := 78) (by decide +kernel) hh tx_free (Nat.le_trans (tx_len h1 h2) (by decide)) (.inr (.inl ⟨eN, n, rfl, h1, h2⟩)) (valF_N h1 h2)
theorem fNN_ok {h hb : Str} {m n : Int} (hf : (h, Str.ofString "NN") ∈ formsT) (hh : hb = h ++ Str.ofString " ") (h1 : 0 ≤ m) (h2 : m < 10 ^ 100) (h3 : 0 ≤ n) (h4 : n < 10 ^ 100) : CmdOk (hb ++ tx m ++ Str.ofString " " ++ tx n) h [tx m, tx n] ∧ vls h [tx m, tx n] = [.int m, .int n] := by
  have q := sep_mem _ hf
  dsimp only at q
  have ec : cp (Str.ofString "NN") = [78, 78] := by decide +kernel
  have ej : hb ++ tx m ++ Str.ofString " " ++ tx n = Str.join (Str.ofString " ") [h, tx m, tx n] := by
    rw [hh]
    show h ++ Str.ofString " " ++ tx m ++ Str.ofString " " ++ tx n = h ++ Str.ofString " " ++ (tx m ++ Str.ofString " " ++ tx n)
    rw [app_assoc, app_assoc, app_assoc, app_assoc, app_assoc]
  have l1 := tx_len h1 h2
  have l2 := tx_len h3 h4
  refine ⟨⟨?_, ?_, _, hf, ?_, ?_⟩, ?_⟩
  · rw [ej]
    exact split_join (ws := [h, tx m, tx n]) (by simp) (fun x hx => by
      rcases List.mem_cons.mp hx with rfl | hx
      · exact q.1
      · rcases List.mem_cons.mp hx with rfl | hx
        · exact tx_free
        · rw [List.mem_singleton.mp hx]
          exact tx_free)
  · rw [hh, Str.length_append, Str.length_append, Str.length_append, Str.length_append]
    have : (Str.ofString " ").length = 1 := by decide +kernel
    rw [this]
    have := q.2
    omega
  · rw [ec]
    rfl
  · intro p hp
    rw [ec] at hp
    rcases List.mem_cons.mp hp with rfl | hp
    · exact .inr (.inl ⟨eN, m, rfl, h1, h2⟩)
    · have := List.mem_singleton.mp hp
      subst this
      exact .inr (.inl ⟨eN, n, rfl, h3, h4⟩)
  · unfold vls valsF
    have e := form_of _ hf
    dsimp only at e
    rw [e, ec]
    show [valF ⟨#[78]⟩ (tx m), valF ⟨#[78]⟩ (tx n)] = _
    rw [valF_N h1 h2, valF_N h3 h4]
theorem ok_of_cp {x : Str} (h : ∀ c ∈ cp x, c < 1114112) : PyData.strOk x = true := by
  unfold PyData.strOk
  rw [Array.all_eq_true]
  intro i hi
  exact dtr (h _ (by
    show x.cps[i] ∈ x.cps.toList
    exact Array.getElem_mem_toList hi))
theorem cp_of_ok {x : Str} (h : PyData.strOk x = true) : ∀ c ∈ cp x, c < 1114112 := fun c hc => by
  unfold PyData.strOk at h
  rw [Array.all_eq_true] at h
  obtain ⟨i, hi, e⟩ := List.mem_iff_getElem.mp hc
  have hi2 : i < x.cps.size := by
    have : (cp x).length = x.cps.size := Array.length_toList
    omega
  have q := of_decide_eq_true (h i hi2)
  have e2 : x.cps[i] = c := by
    rw [← e]
    exact (Array.getElem_toList hi2).symm
  rw [← e2]
  exact q
theorem okS_tx (n : Int) : PyData.strOk (tx n) = true := ok_of_cp fun c hc => by
  have e : cp (tx n) = (toString n).toList.map Char.toNat := by
    show (Str.ofString (toString n)).cps.toList = _
    rw [PySem.Str.ofString_eq_toList]
  rw [e] at hc
  obtain ⟨ch, hm, rfl⟩ := List.mem_map.mp hc
  rcases PyProof.Rows.int_sign n ch hm with h | h
  · have := PyProof.Rows.digit_range h
    omega
  · rw [h]
    decide
theorem okS_app {a b : Str} (h1 : PyData.strOk a = true) (h2 : PyData.strOk b = true) : PyData.strOk (a ++ b) = true := ok_of_cp fun c hc => by
  rw [cp_app] at hc
  rcases List.mem_append.mp hc with h | h
  · exact cp_of_ok h1 c h
  · exact cp_of_ok h2 c h
theorem okS_join {s : Str} (hs : PyData.strOk s = true) : ∀ {ws : List Str}, (∀ w ∈ ws, PyData.strOk w = true) → PyData.strOk (Str.join s ws) = true
  | [], _ => (by decide +kernel : PyData.strOk Str.empty = true)
  | [w], h => h w List.mem_cons_self
  | w :: w2 :: ws, h => okS_app (okS_app (h w List.mem_cons_self) hs) (okS_join hs fun x hx => h x (List.mem_cons_of_mem _ hx))
theorem okS_word (d n : Int) : PyData.strOk (wordF d n) = true := by
  by_cases e : d = 0
  · have : wordF d n = Str.ofString "-" := if_pos e
    rw [this]
    decide +kernel
  · apply ok_of_cp
    intro c hc
    rw [wordF_cp e] at hc
    obtain ⟨s, _, rfl⟩ := List.mem_map.mp hc
    unfold sgn
    split <;> decide
theorem okS_pg (p : Option Int) : PyData.strOk (pgT p) = true := by
  cases p with
  | none => exact (by decide +kernel : PyData.strOk (Str.ofString "none") = true)
  | some n => exact okS_tx n
theorem okS_prTs {s : Str} (hs : PyData.strOk s = true) (ps : List (Int × Int)) : PyData.strOk (prTs s ps) = true := by
  unfold prTs
  rw [jn_eq]
  apply okS_join (by decide +kernel)
  intro w hw
  obtain ⟨p, _, rfl⟩ := List.mem_map.mp hw
  exact okS_app (okS_app (okS_tx _) hs) (okS_tx _)
theorem strs_lay : ∀ {ws : List Str}, (∀ w ∈ ws, PyData.strOk w = true) → PyData.canLayAll0 (ws.map .str) = true ∧ PyData.depthAll (ws.map .str) ≤ 0
  | [], _ => ⟨rfl, Nat.le_refl _⟩
  | w :: ws, h => by
    obtain ⟨a, b⟩ := strs_lay (ws := ws) fun x hx => h x (List.mem_cons_of_mem _ hx)
    refine ⟨?_, ?_⟩
    · show (PyData.strOk w && PyData.canLayAll0 (ws.map .str)) = true
      rw [h w List.mem_cons_self, a]
      rfl
    · show max 0 (PyData.depthAll (ws.map .str)) ≤ 0
      omega
theorem rd_eqSS {K : PySem.W.Frag} {ws : List Str} (h : ∀ w ∈ ws, PyData.strOk w = true) : RD K (rEqD K) (.list (ws.map .str)) (.list (ws.map .str)) (.bool true) := by
  have s := strs_lay h
  have sh := shaped_list (n := 0) s.1 s.2 (by decide)
  have q := rd_eqD (K := K) sh sh
  rw [SeqAt.eqv_refl (.list (ws.map .str)) s.1] at q
  exact q
theorem rd_neSS {K : PySem.W.Frag} {ws : List Str} (h : ∀ w ∈ ws, PyData.strOk w = true) : RD K (rNeD K) (.list (ws.map .str)) (.list (ws.map .str)) (.bool false) := by
  have s := strs_lay h
  have sh := shaped_list (n := 0) s.1 s.2 (by decide)
  have q := rd_neD (K := K) sh sh
  rw [SeqAt.eqv_refl (.list (ws.map .str)) s.1] at q
  exact q
end
end
end
section
set_option exponentiation.threshold 5000
section
open PySem L2
section
def spAR (K : PySem.W.Frag) (C2 C : Addr) : Sp := fun vs H Q _ => ∃ G p c R t v1 v2, vs = [.ref p, v1, v2] ∧ Same G H ∧ BagAt p c G H ∧ c ≤ 80000 ∧ CnV C2 C R v1 H ∧ RdV C R v2 H ∧ RsOk R t ∧ t ≤ 1000 ∧
  ∀ G' H', GrF (only p) G H (only p) G' H' → BagAt p (c + 6) G' H' → Q (.bl true) H'
def spSR (K : PySem.W.Frag) (C2 C : Addr) : Sp := fun vs H Q _ => ∃ G R t v1 v2, vs = [v1, v2] ∧ Same G H ∧ CnV C2 C R v1 H ∧ RdV C R v2 H ∧ RsOk R t ∧ t ≤ 1000 ∧ R.h ≤ 30 ∧ R.s ≤ 512 ∧
  ∀ G' H', Gr G H G' H' → Q (.bl true) H'
section
variable {P : Program} {w : World} {K : PySem.W.Frag} {mg : Str → Option Value} {base : Heap}
theorem ev_pgT {O : Bo K} {E : XK} {r : List QV} {i : Nat} {R : RS} {t : Nat} (hi : r[i]? = some (.ob (RdP O.cR R))) (ok : RsOk R t) : Ev K (tIf (tTest (tOp (fun x y H Q => y = .non ∧ Q (.bl (decide (x = .non))) H) (tProp O.cR (spPr K O.cR fun R => pgD R.page) [] E (tVar i)) (tC .non))) (tC (.str (Str.ofString "none"))) (tCB (fun xs H Q => ∃ i, xs = [V.int i] ∧ i.natAbs.log2 < 1920 ∧ Q (V.str (toString i)) H) (tCons (tProp O.cR (spPr K O.cR fun R => pgD R.page) [] E (tVar i)) tNil))) r (.str (pgT R.page)) := by
  have rdn : ∀ p, RD K (fun x y H Q => y = .non ∧ Q (.bl (decide (x = .non))) H) (pgD p) .none (.bool p.isNone) := fun p => by
    cases p with
    | none => exact rd_isNN
    | some n => exact rd_isNI
  have hpg := ok.pg
  cases hp : R.page with
  | none =>
    refine ev_ifT (et_is (et_test (ev_op (ev_propR (g := fun R => pgD R.page) hi) ev_non (rdn _))) (by rw [hp]; rfl)) ?_
    exact ev_str
  | some n =>
    refine ev_ifF (et_is (et_test (ev_op (ev_propR (g := fun R => pgD R.page) hi) ev_non (rdn _))) (by rw [hp]; rfl)) ?_
    refine ev_str9 (ev_is (ev_propR (g := fun R => pgD R.page) hi) ?_) (n9 (hpg n hp))
    rw [hp]
    rfl
theorem node_run {G H : Hp} {r : List QV} {σ : L2.St} {p : Addr} {c h : Int} {tb : TE} {i : Nat} {E : XK} {Q : VK} (l : QL K G r σ H) (hn : ∀ (i : Nat) (es : List PyData), r[i]? ≠ some (.own es)) (hb : BagAt p c G H) (hi : r[i]? = some (.ob (atP (.ref p)))) (ht : Ev K tb r (.int h)) (hc : c ≤ 90000) (m0 : 1 ≤ h) (m1 : h ≤ 100)
    (k : ∀ d n v G' H', 0 ≤ d → d < h → 0 ≤ n → n < 2 ^ d.toNat → GrF (only p) G H (only p) G' H' → BagAt p (c + 4) G' H' → QL K G' r σ H' → Dp K G' v (ND d n) → Q v H') : tCall (spNode K) [] E (tCons (tVar i) (tCons tb tNil)) σ H Q := by
  obtain ⟨v, e1, hv⟩ := l.ob i _ hi
  have hv : v = .ref p := hv
  subst hv
  refine ⟨_, e1, ht G σ H l _ fun u G1 H1 g1 d1 => ?_⟩
  cases d1
  have hb1 := hb.pure g1
  refine ⟨G1, p, h, c, rfl, g1.gh, hb1, hc, m0, m1, fun d n v G' H' d0 d1 n0 n1 gf bg dv => ?_⟩
  have gf2 := (GrF.pure (F := only p) g1).trans gf
  exact k d n v G' H' d0 d1 n0 n1 gf2 bg (ql_grF l hn gf2 hb.noins) dv
theorem ok_answers {O : Bo K} {A : AF} {sf : List PyData → PyData} (B : Bt w K mg) (D : Df K mg "_law_answers_right" "_law_answers_right" s_law_answers_right) (c : AFc P w K mg base A) (h_show_node : F_show_node P w K mg base) (h_law_pairs : F_law_pairs P w K mg base)
    (C_law_pick : Cal P w K mg base "_law_pick" 1 ["_law_bag_here", "_law_many"] spPick) (C_law_node : Cal P w K mg base "_law_node" 2 ["_law_bag_here", "_law_levels_here"] (spNode K)) (M_Console_execute : CalM P w K mg base O.cC "execute" 16 ["self", "command"] (spExec K O.cC O.cR A sf))
    (P_kind : CalP P w K mg base O.cR "kind" 1 (spPr K O.cR fun R => .str R.k)) (P_height : CalP P w K mg base O.cR "height" 1 (spPr K O.cR fun R => .int R.h)) (P_page : CalP P w K mg base O.cR "page" 1 (spPr K O.cR fun R => pgD R.page)) (P_spent : CalP P w K mg base O.cR "spent" 1 (spPr K O.cR fun R => .int R.spent)) :
    Cal P w K mg base "_law_answers_right" 17 ["_law_bag_here", "_law_console", "_law_reader"] (spAR K O.cC O.cR) := by
  obtain ⟨f_show_node, p_show_node, C_show_node⟩ := h_show_node
  obtain ⟨f_law_pairs, p_law_pairs, C_law_pairs⟩ := h_law_pairs
  obtain ⟨f, fd, F, hm⟩ := D
  have C_place_of := c.c_pl
  have C_node_at := c.c_no
  have C_runs := c.c_ru
  have C_depth_counts := c.c_de
  have C_distance_sum := c.c_di
  refine ⟨f, fd, ?_, hm, F.kp, F.bindsN (fun _ _ _ _ _ _ us hl => match us, hl with | [_, _, _], _ => rfl)⟩
  refine mk_raw F sc_law_answers_right (fun vs H Q E h => ?_) ⟨_, fun cdv A outer s H E f hr => (pss_cons (ps_par (i := 3) (j := 4) rfl sc_law_answers_right.nd rfl rfl (by decide) rfl rfl  (pa_cons (pe_propC P_kind hr (pv 2)) (pa_cons (pe_propC P_height hr (pv 2)) pa_nil)) (by rfl))
    (pss_cons (ps_par (i := 5) (j := 6) rfl sc_law_answers_right.nd rfl rfl (by decide) rfl rfl  (pa_cons (pe_op op_sub (pe_op op_shlW pe_int (pv 4)) pe_int) (pa_cons (pe_callC C_law_node hr (by rfl) (pa_cons (pv 0) (pa_cons (pv 4) pa_nil))) pa_nil)) (by rfl))
    (pss_cons (ps_set (i := 7) sc_law_answers_right.nd rfl (Or.inl rfl) (pe_callC C_law_pick hr (by rfl) (pa_cons (pv 0) (pa_cons (pv 5) pa_nil))))
    (pss_cons (ps_set (i := 8) sc_law_answers_right.nd rfl (Or.inl rfl) (pe_op op_add (pe_op op_add (pv 7) pe_int) (pe_callC C_law_pick hr (by rfl) (pa_cons (pv 0) (pa_cons (pe_op op_sub (pv 5) (pv 7)) pa_nil)))))
    (pss_cons (ps_set (i := 9) sc_law_answers_right.nd rfl (Or.inl rfl) (pe_lst (pa_cons (pe_methC M_Console_execute hr (pv 1) (pa_cons pe_str pa_nil)) (pa_cons (pe_methC M_Console_execute hr (pv 1) (pa_cons pe_str pa_nil)) (pa_cons (pe_methC M_Console_execute hr (pv 1) (pa_cons (pe_op op_add_str pe_str (pe_callC C_show_node hr (by rfl) (pa_cons (pv 6) pa_nil))) pa_nil)) pa_nil)))))
    (pss_cons (ps_set (i := 10) sc_law_answers_right.nd rfl (Or.inl rfl) (pe_lst (pa_cons (pe_ifExp (pt_cmpR op_isN (pe_propC P_page hr (pv 2)) pe_non (nomark _)) pe_str (pe_callTy call_str_int (by rfl) B.str (by decide +kernel) (pa_cons (pe_propC P_page hr (pv 2)) pa_nil))) (pa_cons (pe_callTy call_str_int (by rfl) B.str (by decide +kernel) (pa_cons (pe_propC P_spent hr (pv 2)) pa_nil)) pa_nil))))
    (pss_cons (ps_if (pt_cmpR (op_neDK K (hu64 hr)) (pv 9) (pe_op op_cat (pv 10) (pe_lst (pa_cons (pe_callTy call_str_int (by rfl) B.str (by decide +kernel) (pa_cons (pe_callC C_place_of hr (by rfl) (pa_cons (pv 3) (pa_cons (pv 4) (pa_cons (pv 6) pa_nil)))) pa_nil)) pa_nil))) (nomark _)) (pss_one (ps_ret pe_bl)) pss_nil)
    (pss_cons (ps_set (i := 9) sc_law_answers_right.nd rfl (Or.inl rfl) (pe_lst (pa_cons (pe_methC M_Console_execute hr (pv 1) (pa_cons (pe_op op_add_str pe_str (pe_callTy call_str_int (by rfl) B.str (by decide +kernel) (pa_cons (pv 7) pa_nil))) pa_nil)) (pa_cons (pe_methC M_Console_execute hr (pv 1) (pa_cons (pe_op op_add_str pe_str (pe_callC C_show_node hr (by rfl) (pa_cons (pv 6) pa_nil))) pa_nil)) pa_nil))))
    (pss_cons (ps_if (pt_cmpR (op_neDK K (hu64 hr)) (pv 9) (pe_lst (pa_cons (pe_callC C_show_node hr (by rfl) (pa_cons (pe_callC C_node_at hr (by rfl) (pa_cons (pv 3) (pa_cons (pv 4) (pa_cons (pv 7) pa_nil)))) pa_nil)) (pa_cons (pe_callC C_law_pairs hr (by rfl) (pa_cons (pe_callC C_runs hr (by rfl) (pa_cons (pv 3) (pa_cons (pv 4) (pa_cons (pv 6) pa_nil)))) (pa_cons pe_str pa_nil))) pa_nil))) (nomark _)) (pss_one (ps_ret pe_bl)) pss_nil)
    (pss_cons (ps_set (i := 9) sc_law_answers_right.nd rfl (Or.inl rfl) (pe_lst (pa_cons (pe_methC M_Console_execute hr (pv 1) (pa_cons (pe_op op_add_str (pe_op op_add_str (pe_op op_add_str pe_str (pe_callTy call_str_int (by rfl) B.str (by decide +kernel) (pa_cons (pv 7) pa_nil))) pe_str) (pe_callTy call_str_int (by rfl) B.str (by decide +kernel) (pa_cons (pv 8) pa_nil))) pa_nil)) (pa_cons (pe_methC M_Console_execute hr (pv 1) (pa_cons pe_str pa_nil)) pa_nil))))
    (pss_cons (ps_set (i := 10) sc_law_answers_right.nd rfl (Or.inl rfl) (pe_lst (pa_cons (pe_callC C_law_pairs hr (by rfl) (pa_cons (pe_callC C_depth_counts hr (by rfl) (pa_cons (pv 3) (pa_cons (pv 4) (pa_cons (pv 7) (pa_cons (pv 8) pa_nil))))) (pa_cons pe_str pa_nil))) (pa_cons (pe_callTy call_str_int (by rfl) B.str (by decide +kernel) (pa_cons (pe_callC C_distance_sum hr (by rfl) (pa_cons (pv 3) (pa_cons (pv 4) pa_nil))) pa_nil)) pa_nil))))
    (pss_one (ps_ret (pe_cmpR (op_eqDK K (hu64 hr)) (pv 9) (pv 10) (nomark _)))))))))))))))
    , ?_⟩
  · obtain ⟨_, _, _, _, _, _, _, rfl, _⟩ := h
    rfl
  rintro vs H Q E ⟨G, p, cc, R, t, v1, v2, rfl, gh, hb, hcc, hv1, hv2, ok, ht, q⟩
  have h1 := ok.h1
  have h2 := ok.h2
  have l0 : QL K G [.ob (atP (.ref p)), .ob (CnP O.cC O.cR R), .ob (RdP O.cR R), .un, .un, .un, .un, .un, .un, .un, .un] (L2.start n_law_answers_right [.ref p, v1, v2]) H := by
    have base := ql_entO (K := K) (y := "_law_reader") (N := ["_law_kind_here", "_law_levels_here", "_law_many", "_law_node_here", "_law_spot", "_law_end", "_law_told", "_law_due"]) (o := RdP O.cR R) (ds := []) gh .nil hv2
    have n1 := cons_noown (s := .ob (RdP O.cR R)) (fun _ z => by cases z) (ent_noown (n := 8) (ds := []))
    have l1 := ql_cons (s := .ob (CnP O.cC O.cR R)) (x := some v1) base (fun _ z => by cases z) (fun _ z => by cases z) (fun o z => by cases z; exact ⟨v1, rfl, hv1⟩) n1
    have n2 := cons_noown (s := .ob (CnP O.cC O.cR R)) (fun _ z => by cases z) n1
    exact ql_cons (s := .ob (atP (.ref p))) (x := some (.ref p)) l1 (fun _ z => by cases z) (fun _ z => by cases z) (fun o z => by cases z; exact ⟨.ref p, rfl, rfl⟩) n2
  have noo : ∀ {s3 s4 s5 s6 s7 s8 s9 s10 : QV}, (∀ es, s3 ≠ .own es) → (∀ es, s4 ≠ .own es) → (∀ es, s5 ≠ .own es) → (∀ es, s6 ≠ .own es) → (∀ es, s7 ≠ .own es) → (∀ es, s8 ≠ .own es) → (∀ es, s9 ≠ .own es) → (∀ es, s10 ≠ .own es) → ∀ (i : Nat) (es : List PyData), ([.ob (atP (.ref p)), .ob (CnP O.cC O.cR R), .ob (RdP O.cR R), s3, s4, s5, s6, s7, s8, s9, s10] : List QV)[i]? ≠ some (.own es) := fun a b c d e f g h => cons_noown (fun _ z => by cases z) (cons_noown (fun _ z => by cases z) (cons_noown (fun _ z => by cases z) (cons_noown a (cons_noown b (cons_noown c (cons_noown d (cons_noown e (cons_noown f (cons_noown g (cons_noown h fun i es z => by cases z))))))))))
  have un : ∀ es, QV.un ≠ .own es := fun _ z => by cases z
  have da : ∀ {d : PyData} es, QV.dat d ≠ .own es := fun _ z => by cases z
  refine seq_run (r1 := [.ob (atP (.ref p)), .ob (CnP O.cC O.cR R), .ob (RdP O.cR R), .dat (.str R.k), .dat (.int R.h), .un, .un, .un, .un, .un, .un]) l0 (noo un un un un un un un un) (sd_par (ea_cons (ev_propR (g := fun R => PyData.str R.k) rfl) (ea_cons (ev_propR (g := fun R => PyData.int R.h) rfl) ea_nil))) fun G1 σ1 H1 g1 l1 => ?_
  have hb1 := hb.pure g1
  have ev1 : Ev K (tOp (rI0 fun i j => .int (i - j)) (tOp (rI CShl fun i j => .int (i * 2 ^ j.toNat)) (tC (.int 1)) (tVar 4)) (tC (.int 1))) [.ob (atP (.ref p)), .ob (CnP O.cC O.cR R), .ob (RdP O.cR R), .dat (.str R.k), .dat (.int R.h), .un, .un, .un, .un, .un, .un] (.int (1 * 2 ^ R.h.toNat - 1)) := by
    walk_at "ev"
  refine ev1 G1 σ1 H1 l1 _ fun u G2 H2 g2 d2 => ?_
  cases d2
  have hb2 := hb1.pure g2
  have l2 := l1.gr g2
  have pw := p2le (a := 1) (b := R.h.toNat) (by omega)
  have pw2 := p2le (a := R.h.toNat) (b := 100) (by omega)
  have e21 : (2 : Int) ^ 1 = 2 := by decide
  have e32 : (2 : Int) ^ 100 ≤ 10 ^ 31 := by decide
  have e33 : (10 : Int) ^ 31 < 10 ^ 100 := by decide
  refine node_run (c := cc) (h := R.h) l2 (noo da da un un un un un un) hb2 rfl (ev_var rfl) (by omega) h1 h2 fun dn nn vn G3 H3 d0 d1 n0 n1 f3 b3 l3 dv => ?_
  refine ⟨_, _, rfl, ?_⟩
  have l4 := (l3.set (i := 5) (d := .int (1 * 2 ^ R.h.toNat - 1)) (.int _)).set (i := 6) dv
  generalize hM : (1 * 2 ^ R.h.toNat - 1 : Int) = M at *
  have M1 : 1 ≤ M := by omega
  have M2 : M ≤ 10 ^ 31 := by omega
  refine pick_run (c := cc + 4) (many := M) l4 (noo da da da da un un un un) b3 rfl (ev_var rfl) (by omega) (by omega) M2 fun sp G5 H5 s0 s1 f5 b5 l5 => ?_
  have l6 := l5.set (i := 7) (d := .int sp) (.int sp)
  obtain ⟨_, e7, h7⟩ := l6.dat 7 (.int sp) rfl
  cases h7
  refine ⟨_, e7, _, _, rfl, rfl, ?_⟩
  refine pick_run (c := cc + 4 + 1) (many := M - sp) l6 (noo da da da da da un un un) b5 rfl (ev_op (ev_var rfl) (ev_var rfl) rd_I0) (by omega) (by omega) (by omega) fun x G7 H7 x0 x1 f7 b7 l7 => ?_
  refine ⟨_, _, rfl, rfl, ?_⟩
  have l8 := l7.set (i := 8) (d := .int (sp + 1 + x)) (.int _)
  have f07 := ((((GrF.pure (F := only p) (g1.trans g2)).trans f3).trans f5).trans f7)
  dsimp only [gName]
  generalize hen : sp + 1 + x = en at *
  refine sd_runQ (d := .bool true) l8 (noo da da da da da da un un) (fun v G' H' g d => ?_) ?_
  · cases d
    exact q G' H' (f07.trans (GrF.pure g)) ((b7.pure g).mono (by omega))
  show SD K _ [.ob (atP (.ref p)), .ob (CnP O.cC O.cR R), .ob (RdP O.cR R), .dat (.str R.k), .dat (.int R.h), .dat (.int M), .dat (ND dn nn), .dat (.int sp), .dat (.int en), .un, .un] _
  -- what the functions give
  have qpl : Q_place_of [.str R.k, .int R.h, ND dn nn] := ⟨_, _, _, _, rfl, ok.k, h1, h2, d0, d1, n0, n1⟩
  obtain ⟨mp, epl, bpl⟩ := c.p_pl _ qpl
  have cpl : Spd K (spD K (["kind", "height", "node"] : List Str).length fun ds d => Q_place_of ds ∧ d = A.pl ds) [.str R.k, .int R.h, ND dn nn] (.int mp) := spd_of ⟨qpl, epl.symm⟩ rfl
  have qno : Q_node_at [.str R.k, .int R.h, .int sp] := ⟨_, _, _, rfl, ok.k, h1, h2, s0, by omega⟩
  obtain ⟨d2, n2, eno, d20, d21, n20, n21⟩ := c.p_no _ qno _ _ _ rfl
  have cno : Spd K (spD K (["kind", "height", "place"] : List Str).length fun ds d => Q_node_at ds ∧ d = A.no ds) [.str R.k, .int R.h, .int sp] (ND d2 n2) := spd_of ⟨qno, eno.symm⟩ rfl
  have qru : Q_runs [.str R.k, .int R.h, ND dn nn] := qpl
  obtain ⟨ps, eru, bru⟩ := c.p_ru _ qru
  have cru : Spd K (spD K (["kind", "height", "node"] : List Str).length fun ds d => Q_runs ds ∧ d = A.ru ds) [.str R.k, .int R.h, ND dn nn] (.list (ps.map prD)) := spd_of ⟨qru, eru.symm⟩ rfl
  have qde : Q_depth_counts [.str R.k, .int R.h, .int sp, .int en] := ⟨_, _, _, _, rfl, ok.k, h1, h2, s0, by omega, by omega⟩
  obtain ⟨ps2, ede, bde⟩ := c.p_de _ qde
  have cde : Spd K (spD K (["kind", "height", "begin", "end"] : List Str).length fun ds d => Q_depth_counts ds ∧ d = A.de ds) [.str R.k, .int R.h, .int sp, .int en] (.list (ps2.map prD)) := spd_of ⟨qde, ede.symm⟩ rfl
  have qdi : Q_distance_sum [.str R.k, .int R.h] := ⟨_, _, rfl, ok.k, h1, h2⟩
  obtain ⟨md, edi, bdi⟩ := c.p_di _ qdi
  have cdi : Spd K (spD K (["kind", "height"] : List Str).length fun ds d => Q_distance_sum ds ∧ d = A.di ds) [.str R.k, .int R.h] (.int md) := spd_of ⟨qdi, edi.symm⟩ rfl
  obtain ⟨_, zz, csn⟩ := use_fn (K := K) p_show_node [ND dn nn] ⟨_, _, rfl, d0, by omega, n0, n1⟩
  obtain rfl := zz _ _ rfl
  obtain ⟨_, zz, csn2⟩ := use_fn (K := K) p_show_node [ND d2 n2] ⟨_, _, rfl, d20, by omega, n20, n21⟩
  obtain rfl := zz _ _ rfl
  have sl1 : (Str.ofString "-").length ≤ 1 := by decide +kernel
  have sl2 : (Str.ofString ":").length ≤ 1 := by decide +kernel
  obtain ⟨_, zz, clp⟩ := use_fn (K := K) p_law_pairs [.list (ps.map prD), .str (Str.ofString "-")] ⟨_, _, rfl, bru, sl1⟩
  obtain rfl := zz _ _ rfl
  obtain ⟨_, zz, clp2⟩ := use_fn (K := K) p_law_pairs [.list (ps2.map prD), .str (Str.ofString ":")] ⟨_, _, rfl, bde, sl2⟩
  obtain rfl := zz _ _ rfl
  -- the commands
  have k1 := f0_ok (h := "page") (by decide +kernel)
  have k2 := f0_ok (h := "spent") (by decide +kernel)
  have k3 := fW_ok (h := "place") (hb := Str.ofString "place ") (d := dn) (n := nn) (by decide +kernel) (by decide +kernel) d0 (by omega) n0 n1
  have k4 := fN_ok (h := "node") (hb := Str.ofString "node ") (n := sp) (by decide +kernel) (by decide +kernel) s0 (by omega)
  have k5 := fW_ok (h := "runs") (hb := Str.ofString "runs ") (d := dn) (n := nn) (by decide +kernel) (by decide +kernel) d0 (by omega) n0 n1
  have k6 := fNN_ok (h := "depths") (hb := Str.ofString "depths ") (m := sp) (n := en) (by decide +kernel) (by decide +kernel) s0 (by omega) (by omega) (by omega)
  have k7 := f0_ok (h := "distance") (by decide +kernel)
  have a1 : Ans A R "page" (vls "page" []) (pgT R.page) := by rw [k1.2]; exact .page
  have a2 : Ans A R "spent" (vls "spent" []) (tx R.spent) := by rw [k2.2]; exact .spent
  have a3 : Ans A R "place" (vls "place" [wordF dn nn]) (tx mp) := by rw [k3.2]; exact .place qpl epl bpl
  have a4 : Ans A R "node" (vls "node" [tx sp]) (wordF d2 n2) := by rw [k4.2]; exact .node qno eno d20 (by omega)
  have a5 : Ans A R "runs" (vls "runs" [wordF dn nn]) (prTs "-" ps) := by rw [k5.2]; exact .runs qru eru bru
  have a6 : Ans A R "depths" (vls "depths" [tx sp, tx en]) (prTs ":" ps2) := by rw [k6.2]; exact .depths qde ede bde
  have a7 : Ans A R "distance" (vls "distance" []) (tx md) := by rw [k7.2]; exact .distance qdi edi bdi
  have lw := wordF_len2 (n := nn) d0 (by omega)
  have ls : (tx sp).length ≤ 100 := tx_len s0 (by omega)
  have le : (tx en).length ≤ 100 := tx_len (by omega) (by omega)
  have lb1 : (Str.ofString "place ").length ≤ 10 := by decide +kernel
  have lb2 : (Str.ofString "node ").length ≤ 10 := by decide +kernel
  have lb3 : (Str.ofString "runs ").length ≤ 10 := by decide +kernel
  have lb4 : (Str.ofString "depths ").length ≤ 10 := by decide +kernel
  have lb5 : (Str.ofString " ").length ≤ 10 := by decide +kernel
  have bsp : -(2 ^ 900) ≤ sp ∧ sp ≤ 2 ^ 900 := by
    have : (10 : Int) ^ 31 ≤ 2 ^ 900 := by decide
    generalize (2 : Int) ^ 900 = Y at *
    omega
  have ben : -(2 ^ 900) ≤ en ∧ en ≤ 2 ^ 900 := by
    have : (10 : Int) ^ 31 ≤ 2 ^ 900 := by decide
    generalize (2 : Int) ^ 900 = Y at *
    omega
  have ok1 : ∀ w ∈ [pgT R.page, tx R.spent, tx mp], PyData.strOk w = true := fun w hw => by
    simp only [List.mem_cons, List.not_mem_nil, or_false] at hw
    rcases hw with rfl | rfl | rfl
    · exact okS_pg _
    · exact okS_tx _
    · exact okS_tx _
  have ok2 : ∀ w ∈ [wordF d2 n2, prTs "-" ps], PyData.strOk w = true := fun w hw => by
    simp only [List.mem_cons, List.not_mem_nil, or_false] at hw
    rcases hw with rfl | rfl
    · exact okS_word _ _
    · exact okS_prTs (by decide +kernel) _
  have ok3 : ∀ w ∈ [prTs ":" ps2, tx md], PyData.strOk w = true := fun w hw => by
    simp only [List.mem_cons, List.not_mem_nil, or_false] at hw
    rcases hw with rfl | rfl
    · exact okS_prTs (by decide +kernel) _
    · exact okS_tx _
  -- page, spent, place
  apply sd_seq
  · apply sd_asg (d := .list ([pgT R.page, tx R.spent, tx mp].map .str))
    · apply ev_new
      apply evn_lst
      · refine ea_cons (ev_exec rfl ok ht ev_str k1.1 (by decide +kernel) a1) (ea_cons (ev_exec rfl ok ht ev_str k2.1 (by decide +kernel) a2) (ea_cons (ev_exec rfl ok ht (ev_catS ev_str (ev_call (ea_cons (ev_var rfl) ea_nil) csn) (by omega)) k3.1 (by decide +kernel) a3) ea_nil))
      · exact (by decide : 3 ≤ 100000)
    · exact gd_name
  apply sd_seq
  · apply sd_own (ds := [pgT R.page, tx R.spent].map .str)
    apply evn_lst
    · exact ea_cons (ev_pgT rfl ok) (ea_cons (ev_str9 (ev_propR (g := fun R => PyData.int R.spent) rfl) (sp9 ok.sp ht)) ea_nil)
    · exact (by decide : 2 ≤ 100000)
  apply sd_seq
  · refine sd_ifF (et_test (ev_op (ev_var rfl) (ev_new (evn_catO (es := [.str (tx mp)]) rfl (evn_lst (ea_cons (ev_str9 (ev_call (ea_cons (ev_var rfl) (ea_cons (ev_var rfl) (ea_cons (ev_var rfl) ea_nil))) cpl) (n9 bpl)) ea_nil) (by decide : 1 ≤ 100000)) (by decide : 2 + 1 ≤ 100000))) (rd_neSS ok1))) sd_next
  -- node, runs
  apply sd_seq
  · apply sd_asg (d := .list ([wordF d2 n2, prTs "-" ps].map .str))
    · apply ev_new
      apply evn_lst
      · exact ea_cons (ev_exec rfl ok ht (ev_catS ev_str (ev_str9 (ev_var rfl) bsp) (by omega)) k4.1 (by decide +kernel) a4) (ea_cons (ev_exec rfl ok ht (ev_catS ev_str (ev_call (ea_cons (ev_var rfl) ea_nil) csn) (by omega)) k5.1 (by decide +kernel) a5) ea_nil)
      · exact (by decide : 2 ≤ 100000)
    · exact gd_name
  apply sd_seq
  · refine sd_ifF (et_test (ev_op (ev_var rfl) (ev_new (evn_lst (ds := [wordF d2 n2, prTs "-" ps].map .str) (ea_cons (ev_call (ea_cons (ev_call (ea_cons (ev_var rfl) (ea_cons (ev_var rfl) (ea_cons (ev_var rfl) ea_nil))) cno) ea_nil) csn2) (ea_cons (ev_call (ea_cons (ev_call (ea_cons (ev_var rfl) (ea_cons (ev_var rfl) (ea_cons (ev_var rfl) ea_nil))) cru) (ea_cons ev_str ea_nil)) clp) ea_nil)) (by decide : 2 ≤ 100000))) (rd_neSS ok2))) sd_next
  -- depths, distance
  apply sd_seq
  · apply sd_asg (d := .list ([prTs ":" ps2, tx md].map .str))
    · apply ev_new
      apply evn_lst
      · refine ea_cons (ev_exec rfl ok ht (ev_catS (ev_catS (ev_catS ev_str (ev_str9 (ev_var rfl) bsp) (by omega)) ev_str ?_) (ev_str9 (ev_var rfl) ben) ?_) k6.1 (by decide +kernel) a6) (ea_cons (ev_exec rfl ok ht ev_str k7.1 (by decide +kernel) a7) ea_nil)
        · rw [Str.length_append]
          omega
        · rw [Str.length_append, Str.length_append]
          omega
      · exact (by decide : 2 ≤ 100000)
    · exact gd_name
  apply sd_seq
  · apply sd_asg (d := .list ([prTs ":" ps2, tx md].map .str))
    · apply ev_new
      apply evn_lst
      · exact ea_cons (ev_call (ea_cons (ev_call (ea_cons (ev_var rfl) (ea_cons (ev_var rfl) (ea_cons (ev_var rfl) (ea_cons (ev_var rfl) ea_nil)))) cde) (ea_cons ev_str ea_nil)) clp2) (ea_cons (ev_str9 (ev_call (ea_cons (ev_var rfl) (ea_cons (ev_var rfl) ea_nil)) cdi) (n9 bdi)) ea_nil)
      · exact (by decide : 2 ≤ 100000)
    · exact gd_name
  apply sd_ret
  exact ev_op (ev_var rfl) (ev_var rfl) (rd_eqSS ok3)
theorem ok_sums {O : Bo K} {A : AF} {sf : List PyData → PyData} (B : Bt w K mg) (D : Df K mg "_law_sums_right" "_law_sums_right" s_law_sums_right) (c : AFc P w K mg base A) (M_Console_execute : CalM P w K mg base O.cC "execute" 16 ["self", "command"] (spExec K O.cC O.cR A sf))
    (P_kind : CalP P w K mg base O.cR "kind" 1 (spPr K O.cR fun R => .str R.k)) (P_height : CalP P w K mg base O.cR "height" 1 (spPr K O.cR fun R => .int R.h)) (P_size : CalP P w K mg base O.cR "size" 1 (spPr K O.cR fun R => .int R.s)) (P_shift : CalP P w K mg base O.cR "shift" 1 (spPr K O.cR fun R => .int R.m)) :
    Cal P w K mg base "_law_sums_right" 17 ["_law_console", "_law_reader"] (spSR K O.cC O.cR) := by
  obtain ⟨f, fd, F, hm⟩ := D
  have C_leaf_page_sum := c.c_le
  have C_page_sum := c.c_su
  have C_page_mean := c.c_me
  have C_best_kinds := c.c_be
  refine ⟨f, fd, ?_, hm, F.kp, F.bindsN (fun _ _ _ _ _ _ us hl => match us, hl with | [_, _], _ => rfl)⟩
  refine mk_raw F sc_law_sums_right (fun vs H Q E h => ?_) ⟨_, fun cdv A outer s H E f hr => (pss_cons (ps_par (i := 2) (j := 3) rfl sc_law_sums_right.nd rfl rfl (by decide) rfl rfl  (pa_cons (pe_propC P_kind hr (pv 1)) (pa_cons (pe_propC P_height hr (pv 1)) pa_nil)) (by rfl))
    (pss_cons (ps_par (i := 4) (j := 5) rfl sc_law_sums_right.nd rfl rfl (by decide) rfl rfl  (pa_cons (pe_propC P_size hr (pv 1)) (pa_cons (pe_propC P_shift hr (pv 1)) pa_nil)) (by rfl))
    (pss_cons (ps_setLc (i := 6) (own := [("_law_command", 10)]) rfl sc_law_sums_right.nd rfl rfl (sw_true rfl rfl rfl (by decide +kernel)) (pi_tupK K (pe_tup (pa_cons pe_str (pa_cons pe_str (pa_cons pe_str (pa_cons pe_str pa_nil)))))) (blkOk_by (own := [("_law_command", 10)]) (N := n_law_sums_right) (sc := defScope s_law_sums_right) (by decide +kernel)) (fun _ _ _ _ _ => (pg_name (i := 10) sc_law_sums_right.nd rfl (Or.inl rfl))) (fun _ _ _ _ _ => pts_nil) (fun _ _ _ _ _ => (pe_methC M_Console_execute hr (pv 0) (pa_cons (pv 10) pa_nil))))
    (pss_cons (ps_set (i := 7) sc_law_sums_right.nd rfl (Or.inl rfl) (pe_lst (pa_cons (pe_callTy call_str_int (by rfl) B.str (by decide +kernel) (pa_cons (pe_callC C_leaf_page_sum hr (by rfl) (pa_cons (pv 2) (pa_cons (pv 3) (pa_cons (pv 4) (pa_cons (pv 5) pa_nil))))) pa_nil)) pa_nil)))
    (pss_cons (ps_expr (pe_appK K (pv 7) (pe_callTy call_str_int (by rfl) B.str (by decide +kernel) (pa_cons (pe_callC C_page_sum hr (by rfl) (pa_cons (pv 2) (pa_cons (pv 3) (pa_cons (pv 4) (pa_cons (pv 5) pa_nil))))) pa_nil))))
    (pss_cons (ps_asg (pe_callC C_page_mean hr (by rfl) (pa_cons (pv 2) (pa_cons (pv 3) (pa_cons (pv 4) (pa_cons (pv 5) pa_nil))))) (pg_tupK (n := 2) K rfl (pgs_cons (pg_name (i := 8) sc_law_sums_right.nd rfl (Or.inl rfl)) (pgs_cons (pg_name (i := 9) sc_law_sums_right.nd rfl (Or.inl rfl)) pgs_nil))))
    (pss_cons (ps_expr (pe_appK K (pv 7) (pe_op op_add_str (pe_op op_add_str (pe_callTy call_str_int (by rfl) B.str (by decide +kernel) (pa_cons (pv 8) pa_nil)) pe_str) (pe_callTy call_str_int (by rfl) B.str (by decide +kernel) (pa_cons (pv 9) pa_nil)))))
    (pss_one (ps_ret (pe_cmpR (op_eqDK K (hu64 hr)) (pv 6) (pe_op op_cat (pv 7) (pe_lst (pa_cons (pe_joinK K pe_str (pe_callC C_best_kinds hr (by rfl) (pa_cons (pv 3) (pa_cons (pv 4) (pa_cons (pv 5) pa_nil))))) pa_nil))) (nomark _)))))))))))
    , ?_⟩
  · obtain ⟨_, _, _, _, _, rfl, _⟩ := h
    rfl
  rintro vs H Q E ⟨G, R, t, v1, v2, rfl, gh, hv1, hv2, ok, ht, hh, hs, q⟩
  have l0 : QL K G [.ob (CnP O.cC O.cR R), .ob (RdP O.cR R), .un, .un, .un, .un, .un, .un, .un, .un, .un] (L2.start n_law_sums_right [v1, v2]) H := by
    have base := ql_entO (K := K) (y := "_law_reader") (N := ["_law_kind_here", "_law_levels_here", "_law_size_here", "_law_shift_here", "_law_told", "_law_due", "_law_above", "_law_below", "_law_command"]) (o := RdP O.cR R) (ds := []) gh .nil hv2
    have n1 := cons_noown (s := .ob (RdP O.cR R)) (fun _ z => by cases z) (ent_noown (n := 9) (ds := []))
    exact ql_cons (s := .ob (CnP O.cC O.cR R)) (x := some v1) base (fun _ z => by cases z) (fun _ z => by cases z) (fun o z => by cases z; exact ⟨v1, rfl, hv1⟩) n1
  refine sd_runQ (d := .bool true) l0 (cons_noown (fun _ z => by cases z) (cons_noown (fun _ z => by cases z) (ent_noown (n := 9) (ds := [])))) (fun v G' H' g d => ?_) ?_
  · cases d
    exact q G' H' g
  have po : PgOk R.k R.h R.s R.m := ⟨ok.k, ok.h1, hh, ok.s1, hs, ok.m1, ok.m2⟩
  have qp : Q_pages [.str R.k, .int R.h, .int R.s, .int R.m] := ⟨_, _, _, _, rfl, po⟩
  obtain ⟨ml, el, bl⟩ := c.p_le _ qp
  have cl : Spd K (spD K (["kind", "height", "size", "shift"] : List Str).length fun ds d => Q_leaf_page_sum ds ∧ d = A.le ds) [.str R.k, .int R.h, .int R.s, .int R.m] (.int ml) := spd_of ⟨qp, el.symm⟩ rfl
  obtain ⟨ms, es, bs⟩ := c.p_su _ qp
  have cs : Spd K (spD K (["kind", "height", "size", "shift"] : List Str).length fun ds d => Q_page_sum ds ∧ d = A.su ds) [.str R.k, .int R.h, .int R.s, .int R.m] (.int ms) := spd_of ⟨qp, es.symm⟩ rfl
  obtain ⟨ma, mb, em, ba, bb⟩ := c.p_me _ qp
  have cm : Spd K (spD K (["kind", "height", "size", "shift"] : List Str).length fun ds d => Q_page_mean ds ∧ d = A.me ds) [.str R.k, .int R.h, .int R.s, .int R.m] (ND ma mb) := spd_of ⟨qp, em.symm⟩ rfl
  have qb : Q_best_kinds [.int R.h, .int R.s, .int R.m] := ⟨_, _, _, rfl, ok.h1, hh, ok.s1, hs, ok.m1, ok.m2⟩
  obtain ⟨ks, eb, lks, bks⟩ := c.p_be _ qb
  have cb : Spd K (spD K (["height", "size", "shift"] : List Str).length fun ds d => Q_best_kinds ds ∧ d = A.be ds) [.int R.h, .int R.s, .int R.m] (.list (ks.map .str)) := spd_of ⟨qb, eb.symm⟩ rfl
  have k1 := f0_ok (h := "leaves") (by decide +kernel)
  have k2 := f0_ok (h := "sum") (by decide +kernel)
  have k3 := f0_ok (h := "mean") (by decide +kernel)
  have k4 := f0_ok (h := "best") (by decide +kernel)
  have a1 : Ans A R "leaves" (vls "leaves" []) (tx ml) := by rw [k1.2]; exact .leaves qp el bl
  have a2 : Ans A R "sum" (vls "sum" []) (tx ms) := by rw [k2.2]; exact .sum qp es bs
  have a3 : Ans A R "mean" (vls "mean" []) (tx ma ++ "/" ++ tx mb) := by rw [k3.2]; exact .mean qp em ba bb
  have a4 : Ans A R "best" (vls "best" []) (Txt.join " " ks) := by rw [k4.2]; exact .best qb eb lks bks
  have okw : ∀ w ∈ [tx ml, tx ms, tx ma ++ "/" ++ tx mb, Txt.join " " ks], PyData.strOk w = true := fun w hw => by
    simp only [List.mem_cons, List.not_mem_nil, or_false] at hw
    rcases hw with rfl | rfl | rfl | rfl
    · exact okS_tx _
    · exact okS_tx _
    · exact okS_app (okS_app (okS_tx _) (by decide +kernel)) (okS_tx _)
    · rw [jn_eq]
      exact okS_join (by decide +kernel) fun w hw => kinds_asc w (bks w hw)
  show SD K _ [.ob (CnP O.cC O.cR R), .ob (RdP O.cR R), .un, .un, .un, .un, .un, .un, .un, .un, .un] _
  apply sd_seq
  · exact sd_par (ea_cons (ev_propR (g := fun R => PyData.str R.k) rfl) (ea_cons (ev_propR (g := fun R => PyData.int R.h) rfl) ea_nil))
  apply sd_seq (r1 := [.ob (CnP O.cC O.cR R), .ob (RdP O.cR R), .dat (.str R.k), .dat (.int R.h), .dat (.int R.s), .dat (.int R.m), .un, .un, .un, .un, .un])
  · exact sd_par (ea_cons (ev_propR (g := fun R => PyData.int R.s) rfl) (ea_cons (ev_propR (g := fun R => PyData.int R.m) rfl) ea_nil))
  apply sd_seq (r1 := [.ob (CnP O.cC O.cR R), .ob (RdP O.cR R), .dat (.str R.k), .dat (.int R.h), .dat (.int R.s), .dat (.int R.m), .dat (.list ([tx ml, tx ms, tx ma ++ "/" ++ tx mb, Txt.join " " ks].map .str)), .un, .un, .un, .un])
  · apply sd_asg (d := .list (([("leaves", tx ml), ("sum", tx ms), ("mean", tx ma ++ "/" ++ tx mb), ("best", Txt.join " " ks)] : List (Str × Str)).map fun p => PyData.str p.2))
    · apply ev_new
      apply evn_lcM (e := fun p : Str × Str => PyData.str p.1)
      · apply it_tup
        apply ev_tup
        · exact ea_cons ev_str (ea_cons ev_str (ea_cons ev_str (ea_cons ev_str ea_nil)))
        · exact (by decide : 4 ≤ 100000)
      · exact (by decide : 4 ≤ 100000)
      · intro p hp
        simp only [List.mem_cons, List.not_mem_nil, or_false] at hp
        refine ⟨_, _, gd_name, by walk_at "sc", ?_⟩
        rcases hp with rfl | rfl | rfl | rfl
        · exact ev_exec rfl ok ht (ev_var rfl) k1.1 (by decide +kernel) a1
        · exact ev_exec rfl ok ht (ev_var rfl) k2.1 (by decide +kernel) a2
        · exact ev_exec rfl ok ht (ev_var rfl) k3.1 (by decide +kernel) a3
        · exact ev_exec rfl ok ht (ev_var rfl) k4.1 (by decide +kernel) a4
    · exact gd_name
  have e4 : ∀ {r : List QV}, r[2]? = some (.dat (.str R.k)) → r[3]? = some (.dat (.int R.h)) → r[4]? = some (.dat (.int R.s)) → r[5]? = some (.dat (.int R.m)) → EvA K (tCons (tVar 2) (tCons (tVar 3) (tCons (tVar 4) (tCons (tVar 5) tNil)))) r [.str R.k, .int R.h, .int R.s, .int R.m] := fun a b c d => ea_cons (ev_var a) (ea_cons (ev_var b) (ea_cons (ev_var c) (ea_cons (ev_var d) ea_nil)))
  apply sd_seq (r1 := [.ob (CnP O.cC O.cR R), .ob (RdP O.cR R), .dat (.str R.k), .dat (.int R.h), .dat (.int R.s), .dat (.int R.m), .dat (.list ([tx ml, tx ms, tx ma ++ "/" ++ tx mb, Txt.join " " ks].map .str)), .own [.str (tx ml)], .un, .un, .un])
  · apply sd_own (ds := [.str (tx ml)])
    apply evn_lst
    · exact ea_cons (ev_str9 (ev_call (e4 rfl rfl rfl rfl) cl) (p89 bl)) ea_nil
    · exact (by decide : 1 ≤ 100000)
  apply sd_seq (r1 := [.ob (CnP O.cC O.cR R), .ob (RdP O.cR R), .dat (.str R.k), .dat (.int R.h), .dat (.int R.s), .dat (.int R.m), .dat (.list ([tx ml, tx ms, tx ma ++ "/" ++ tx mb, Txt.join " " ks].map .str)), .own [.str (tx ml), .str (tx ms)], .un, .un, .un])
  · apply sd_app (ds := [.str (tx ml)]) (d := .str (tx ms))
    · rfl
    · exact ev_str9 (ev_call (e4 rfl rfl rfl rfl) cs) (p89 bs)
    · exact (by decide : 1 < 100000)
  apply sd_seq (r1 := [.ob (CnP O.cC O.cR R), .ob (RdP O.cR R), .dat (.str R.k), .dat (.int R.h), .dat (.int R.s), .dat (.int R.m), .dat (.list ([tx ml, tx ms, tx ma ++ "/" ++ tx mb, Txt.join " " ks].map .str)), .own [.str (tx ml), .str (tx ms)], .dat (.int ma), .dat (.int mb), .un])
  · exact sd_asg (ev_call (e4 rfl rfl rfl rfl) cm) (gd_tup (gds_cons gd_name (gds_cons gd_name gds_nil)) rfl)
  have la := tx_len9 (p89 ba)
  have lb := tx_len9 (p89 bb)
  have sl3 : (Str.ofString "/").length ≤ 1 := by decide +kernel
  apply sd_seq (r1 := [.ob (CnP O.cC O.cR R), .ob (RdP O.cR R), .dat (.str R.k), .dat (.int R.h), .dat (.int R.s), .dat (.int R.m), .dat (.list ([tx ml, tx ms, tx ma ++ "/" ++ tx mb, Txt.join " " ks].map .str)), .own [.str (tx ml), .str (tx ms), .str (tx ma ++ "/" ++ tx mb)], .dat (.int ma), .dat (.int mb), .un])
  · apply sd_app (ds := [.str (tx ml), .str (tx ms)]) (d := .str (tx ma ++ "/" ++ tx mb))
    · rfl
    · refine ev_catS (ev_catS (ev_str9 (ev_var rfl) (p89 ba)) ev_str (by omega)) (ev_str9 (ev_var rfl) (p89 bb)) ?_
      rw [Str.length_append]
      omega
    · exact (by decide : 2 < 100000)
  apply sd_ret
  exact ev_op (ev_var rfl) (ev_new (evn_catO (es := [.str (Txt.join " " ks)]) rfl (evn_lst (ea_cons (ev_join ev_str (ev_call (ea_cons (ev_var rfl) (ea_cons (ev_var rfl) (ea_cons (ev_var rfl) ea_nil))) cb) (best_len lks bks)) ea_nil) (by decide : 1 ≤ 100000)) (by decide : 3 + 1 ≤ 100000))) (rd_eqSS okw)
end
end
end
end
section
set_option exponentiation.threshold 5000
section
open PySem L2
section
def F3 (p : Addr) (F1 F2 : Addr → Prop) (x : Addr) : Prop := x = p ∨ F1 x ∨ F2 x
structure W3 (K : PySem.W.Frag) (O : Bo K) (p : Addr) (c : Int) (a ca : Addr) (R : RS) (F1 F2 : Addr → Prop) (G H : Hp) : Prop where
  gh : Same G H
  b : BagAt p c G H
  r : HoldR K O.cR a R F1 G H
  co : HoldC K O.cC O.cR ca R F2 G H
  d : ∀ x, F1 x → ¬ F2 x
  n1 : ¬ F1 p
  n2 : ¬ F2 p
section
variable {K : PySem.W.Frag} {O : Bo K} {p : Addr} {c : Int} {a ca : Addr} {R R' : RS} {F1 F2 F1' F2' : Addr → Prop} {G H G1 H1 G2 H2 : Hp}
theorem W3.pure (h : W3 K O p c a ca R F1 F2 G H) (g : Gr G H G1 H1) : W3 K O p c a ca R F1 F2 G1 H1 := ⟨g.gh, h.b.pure g, h.r.pure g, h.co.pure g, h.d, h.n1, h.n2⟩
theorem W3.bag {c' : Int} (h : W3 K O p c a ca R F1 F2 G H) (g : GrF (only p) G H (only p) G1 H1) (hb : BagAt p c' G1 H1) : W3 K O p c' a ca R F1 F2 G1 H1 :=
  ⟨g.gh, hb, h.r.gr g fun x hx z => h.n1 (by have z : x = p := z; rw [← z]; exact hx), h.co.gr g fun x hx z => h.n2 (by have z : x = p := z; rw [← z]; exact hx), h.d, h.n1, h.n2⟩
theorem gr3 (g : GrF (only p) G H (only p) G1 H1) (hF : ∀ x, F1 x ∨ F2 x → ∃ o, H x = some o) : GrF (F3 p F1 F2) G H (F3 p F1 F2) G1 H1 := ⟨g.gg, g.gh, fun x o hx n => by
  obtain ⟨h1, _, h3⟩ := g.fr x o hx fun z => n (.inl z)
  exact ⟨h1, n, h3⟩⟩
theorem W3.step (h : W3 K O p c a ca R F1 F2 G H) (g1 : GrF F1 G H F1' G1 H1) (hr : HoldR K O.cR a R' F1' G1 H1) (g2 : GrF F2 G1 H1 F2' G2 H2) (hc : HoldC K O.cC O.cR ca R' F2' G2 H2) : W3 K O p c a ca R' F1' F2' G2 H2 ∧ GrF (F3 p F1 F2) G H (F3 p F1' F2') G2 H2 := by
  have nF : ∀ x, F2 x → ¬ F1 x := fun x h2 h1 => h.d x h1 h2
  have hp : ∃ o, H p = some o := by
    obtain ⟨_, _, _, e, _⟩ := h.b.ex
    exact ⟨_, e⟩
  obtain ⟨op, ep⟩ := hp
  obtain ⟨q1, q2, _⟩ := g1.fr _ _ ep h.n1
  obtain ⟨r1, r2, _⟩ := g2.fr _ _ q1 h.n2
  have d1 : ∀ x, F1' x → ¬ F2 x := fun x hx h2 => by
    obtain ⟨⟨o, e⟩, _⟩ := h.co.some h2
    exact (g1.fr x o e (nF x h2)).2.1 hx
  have d2 : ∀ x, F1' x → ¬ F2' x := fun x hx h2 => by
    obtain ⟨⟨o, e⟩, _⟩ := hr.some hx
    exact (g2.fr x o e (d1 x hx)).2.1 h2
  refine ⟨⟨g2.gh, (h.b.gr g1 h.n1).gr g2 h.n2, hr.gr g2 d1, hc, d2, q2, r2⟩, ⟨g1.gg.trans g2.gg, g2.gh, fun x o hx n => ?_⟩⟩
  obtain ⟨s1, s2, s3⟩ := g1.fr x o hx fun z => n (.inr (.inl z))
  obtain ⟨t1, t2, t3⟩ := g2.fr x o s1 fun z => n (.inr (.inr z))
  refine ⟨t1, fun z => ?_, t3.trans s3⟩
  rcases z with z | z | z
  · exact n (.inl z)
  · obtain ⟨⟨_, _⟩, _⟩ := hr.some z
    exact s2 z
  · exact t2 z
theorem W3.coH (h : W3 K O p c a ca R F1 F2 G H) (g1 : GrF F1 G H F1' G1 H1) : HoldC K O.cC O.cR ca R F2 G1 H1 := h.co.gr g1 fun x h2 h1 => h.d x h1 h2
end
theorem perf_ok {sf : List PyData → PyData} {R : RS} {t : Nat} {op : OpD} (hsf : ∀ ds, Q_spot_of ds → Z_spot_of ds (sf ds)) (ok : RsOk R t) (oo : OpOk R op) : RsOk (perfF sf R op) (t + 1) := by
  have key : (∀ n, (behF sf R (R.page, R.spent) op).1 = some n → 0 ≤ n ∧ n ≤ 2 ^ 300) ∧ R.spent ≤ (behF sf R (R.page, R.spent) op).2 ∧ (behF sf R (R.page, R.spent) op).2 ≤ R.spent + 101 := by
    cases op with
    | drop => exact ⟨fun n e => (by cases e), Int.le_refl _, by show R.spent ≤ R.spent + 101; omega⟩
    | search d n =>
      obtain ⟨o1, o2, o3, o4⟩ := oo
      have q := beh_bd (n := n) hsf ok ⟨o1, o2⟩ (rgI 0 (d + 1)) (fun x hx => by
        have := mem_rgI hx
        omega) (R.page, R.spent) ok.pg
      have hl : ((rgI 0 (d + 1)).length : Int) = d + 1 := by
        rw [rg_len0]
        omega
      have := ok.h2
      exact ⟨q.1, q.2.1, by have := q.2.2; show _ ≤ R.spent + 101; dsimp only at this; rw [hl] at this; exact Int.le_trans this (by omega)⟩
  obtain ⟨k1, k2, k3⟩ := key
  have s1 := ok.sp
  refine ⟨ok.k, ok.h1, ok.h2, ok.s1, ok.s2, ok.m1, ok.m2, k1, ⟨?_, ?_⟩, ?_, ?_, ?_, ?_⟩
  · show 0 ≤ (behF sf R (R.page, R.spent) op).2
    omega
  · show (behF sf R (R.page, R.spent) op).2 ≤ 200 * ((t + 1 : Nat) : Int)
    omega
  · intro q hq
    rcases List.mem_append.mp hq with h | h
    · have := ok.pa q h
      exact ⟨this.1, this.2.1, by have := this.2.2; omega⟩
    · have e := List.mem_singleton.mp h
      rw [e]
      exact ⟨ok.pg, s1.1, by dsimp only; omega⟩
  · show (R.calls ++ [opD op]).length = (R.past ++ [(R.page, R.spent)]).length
    rw [List.length_append, List.length_append, ok.ln]
    rfl
  · show (R.past ++ [(R.page, R.spent)]).length ≤ t + 1
    rw [List.length_append]
    have := ok.lt
    show _ + 1 ≤ _
    omega
  · intro x hx
    rcases List.mem_append.mp hx with h | h
    · exact ok.cl x h
    · exact ⟨op, List.mem_singleton.mp h⟩
theorem undo_ok {R : RS} {t : Nat} {ps : List (Option Int × Int)} {q : Option Int × Int} {cs : List PyData} {c : PyData} (ok : RsOk R t) (e1 : R.past = ps ++ [q]) (e2 : R.calls = cs ++ [c]) : RsOk { R with page := q.1, spent := q.2, past := ps, calls := cs } (t + 1) := by
  have hq := ok.pa q (by rw [e1]; exact List.mem_append_right _ List.mem_cons_self)
  have hl := ok.ln
  have ht := ok.lt
  rw [e1, e2, List.length_append, List.length_append] at hl
  rw [e1, List.length_append] at ht
  have hl : cs.length + 1 = ps.length + 1 := hl
  have ht : ps.length + 1 ≤ t := ht
  refine ⟨ok.k, ok.h1, ok.h2, ok.s1, ok.s2, ok.m1, ok.m2, hq.1, ⟨hq.2.1, by have := hq.2.2; show q.2 ≤ _; omega⟩, ?_, ?_, ?_, ?_⟩
  · intro x hx
    have := ok.pa x (by rw [e1]; exact List.mem_append_left _ hx)
    exact ⟨this.1, this.2.1, by have := this.2.2; omega⟩
  · show cs.length = ps.length
    omega
  · show ps.length ≤ t + 1
    omega
  · intro x hx
    exact ok.cl x (by rw [e2]; exact List.mem_append_left _ hx)
theorem calls_lay : ∀ {cs : List PyData}, (∀ c ∈ cs, ∃ op, c = opD op) → PyData.canLayAll0 cs = true ∧ PyData.depthAll cs ≤ 2
  | [], _ => ⟨rfl, Nat.zero_le _⟩
  | c :: cs, h => by
    obtain ⟨a, b⟩ := calls_lay (cs := cs) fun x hx => h x (List.mem_cons_of_mem _ hx)
    obtain ⟨op, rfl⟩ := h c List.mem_cons_self
    have w1 : PyData.strOk "drop" = true := by decide +kernel
    have w2 : PyData.strOk "search" = true := by decide +kernel
    have k : (opD op).canLay0 = true ∧ (opD op).depth ≤ 2 := by
      cases op with
      | drop =>
        refine ⟨?_, (by decide : 1 ≤ 2)⟩
        show (PyData.strOk "drop" && true) = true
        rw [w1]
        rfl
      | search d n =>
        refine ⟨?_, (by decide : 2 ≤ 2)⟩
        show (PyData.strOk "search" && true) = true
        rw [w2]
        rfl
    refine ⟨?_, ?_⟩
    · show ((opD op).canLay0 && PyData.canLayAll0 cs) = true
      rw [k.1, a]
      rfl
    · show max (opD op).depth (PyData.depthAll cs) ≤ 2
      have := k.2
      omega
def spLC (K : PySem.W.Frag) (O : Bo K) : Sp := fun vs H Q _ => ∃ G p c a ca R t F1 F2, vs = [.ref p, .ref ca, .ref a] ∧ W3 K O p c a ca R F1 F2 G H ∧ RsOk R t ∧ t ≤ 900 ∧ c ≤ 80000 ∧
  ∀ c' R' F1' F2' G' H', c' ≤ c + 5 → RsOk R' (t + 1) → (R'.k = R.k ∧ R'.h = R.h ∧ R'.s = R.s ∧ R'.m = R.m) → GrF (F3 p F1 F2) G H (F3 p F1' F2') G' H' → W3 K O p c' a ca R' F1' F2' G' H' → Q (.bl true) H'
section
variable {P : Program} {w : World} {K : PySem.W.Frag} {mg : Str → Option Value} {base : Heap}
theorem exec_run {O : Bo K} {A : AF} {sf : List PyData → PyData} {E : XK} {r : List QV} {σ : L2.St} {G H : Hp} {i : Nat} {ca : Addr} {R R' : RS} {F : Addr → Prop} {t : Nat} {cmd h : Str} {ws : List Str} {tb : TE} {Q : VK} (l : QL K G r σ H) (hi : r[i]? = some (.ob (atP (.ref ca)))) (hc : HoldC K O.cC O.cR ca R F G H) (ok : RsOk R t) (ht : t ≤ 1000) (he : Ev K tb r (.str cmd)) (hk : CmdOk cmd h ws) (hn : h ∈ changesT) (ch : Chg sf R h (vls h ws) R')
    (k : ∀ G' H' F', GrF F G H F' G' H' → HoldC K O.cC O.cR ca R' F' G' H' → Q (.str "ok") H') : tMeth O.cC "execute" (spExec K O.cC O.cR A sf) [] E (tVar i) (tCons tb tNil) σ H Q := by
  obtain ⟨v, e1, hv⟩ := l.ob i _ hi
  have hv : v = .ref ca := hv
  subst hv
  obtain ⟨dx, ws2, a2, F2, f1, f2, f3, f4, f5, f6, f7, hr4, f8, f9, hF⟩ := hc.ex
  refine ⟨_, e1, ca, dx, ws2, rfl, f1, f5 _ (by decide +kernel), he G σ H l _ fun u G1 H1 g1 d1 => ?_⟩
  exact .inr ⟨G1, F, R, R', t, ca, u, cmd, h, ws, rfl, g1.gh, hc.pure g1, ok, ht, d1, hk, hn, ch, fun G' H' F' gf hC => k G' H' F' ((GrF.pure g1).trans gf) hC⟩
theorem log_test {O : Bo K} {E : XK} {r : List QV} {σ : L2.St} {G H : Hp} {a : Addr} {R : RS} {F : Addr → Prop} {t : Nat} {x : Int} {Q : Bool → Hp → Prop} (l : QL K G r σ H) (h3 : r[3]? = some (.dat (.int x))) (h2 : r[2]? = some (.ob (atP (.ref a)))) (hr : HoldR K O.cR a R F G H) (ok : RsOk R t)
    (k : ∀ b G' H', Gr G H G' H' → (b = true → R.calls ≠ []) → Q b H') : tAnd (tTest (tOp rEq (tVar 3) (tC (.int 0)))) (tTest (tOp (rNeD K) (tMeth O.cR "log" (spLog K O.cR) [] E (tVar 2) tNil) (tLst tNil))) σ H Q := by
  have hT : EvT K (tTest (tOp rEq (tVar 3) (tC (.int 0)))) r (decide (x = 0)) := et_test (ev_op (ev_var h3) ev_int rd_eqI)
  refine hT G σ H l _ fun G1 H1 g1 => ?_
  by_cases c : x = 0
  · rw [dtr c, if_pos rfl]
    have l1 := l.gr g1
    obtain ⟨v, e1, hv⟩ := l1.ob 2 _ h2
    have hv : v = .ref a := hv
    subst hv
    have hr1 := hr.pure g1
    obtain ⟨dx, pc, pp, vc, vp, ws, hh, hF⟩ := hr1
    refine ⟨_, e1, a, dx, ws, rfl, hh.ha, hh.w.meth _ (by decide +kernel), ?_⟩
    refine ⟨G1, F, R, a, rfl, g1.gh, ⟨dx, pc, pp, vc, vp, ws, hh, hF⟩, fun v G2 H2 g2 d2 => ?_⟩
    refine ⟨(by decide : 0 ≤ 16777216), fun L hL => ?_⟩
    have g3 := Gr.newG (o := .lst []) g2.gh hL
    have s := calls_lay ok.cl
    refine ⟨.list R.calls, .list [], dp_mono (g3.gg.trans g3.gh) _ _ d2, .lst (.inl (.inl upd_same)) .nil, shaped_list s.1 s.2, rfl, _, rfl, ?_⟩
    refine k _ _ _ ((g1.trans g2).trans g3) fun hb e => ?_
    rw [e] at hb
    cases hb
  · rw [dfa c, if_neg Bool.false_ne_true]
    exact k false G1 H1 g1 fun z => Bool.noConfusion z
theorem ql_grO {r : List QV} {σ : L2.St} {G H G' H' : Hp} {F F' : Addr → Prop} (l : QL K G r σ H) (hn : ∀ (i : Nat) (es : List PyData), r[i]? ≠ some (.own es)) (g : GrF F G H F' G' H') (ho : ∀ (i : Nat) (o : ObP) (v : V), r[i]? = some (.ob o) → o.fits v G H → o.fits v G' H') : QL K G' r σ H' where
  gh := g.gh
  dat := fun i d e => by
    obtain ⟨v, e1, h⟩ := l.dat i d e
    exact ⟨v, e1, dp_mono g.gg _ _ h⟩
  own := fun i es e => absurd e (hn i es)
  len := l.len
  ob := fun i o e => by
    obtain ⟨v, e1, h⟩ := l.ob i o e
    exact ⟨v, e1, ho i o v e h⟩
theorem ql_obS {r : List QV} {σ : L2.St} {G H : Hp} {i : Nat} {v0 : V} {o : ObP} (l : QL K G r σ H) (hn : ∀ (i : Nat) (es : List PyData), r[i]? ≠ some (.own es)) (hi : r[i]? = some (.ob (atP v0))) (h : o.fits v0 G H) : QL K G (r.set i (.ob o)) σ H where
  gh := l.gh
  dat := fun j d e => by
    rcases getElem?_set_lv e with ⟨rfl, e1⟩ | ⟨ne, e1⟩
    · cases e1
    · exact l.dat j d e1
  own := fun j es e => by
    rcases getElem?_set_lv e with ⟨rfl, e1⟩ | ⟨ne, e1⟩
    · cases e1
    · exact absurd e1 (hn j es)
  len := by rw [List.length_set]; exact l.len
  ob := fun j o' e => by
    rcases getElem?_set_lv e with ⟨rfl, e1⟩ | ⟨ne, e1⟩
    · cases e1
      obtain ⟨v, e2, hv⟩ := l.ob j _ hi
      have hv : v = v0 := hv
      exact ⟨v, e2, by rw [hv]; exact h⟩
    · exact l.ob j o' e1
theorem snoc_of {α : Type} {xs : List α} (h : xs ≠ []) : ∃ ys y, xs = ys ++ [y] := ⟨xs.dropLast, xs.getLast h, (List.dropLast_concat_getLast h).symm⟩
theorem ok_lc {O : Bo K} {A : AF} {sf : List PyData → PyData} (B : Bt w K mg) (D : Df K mg "_law_changed" "_law_changed" s_law_changed) (hsf : ∀ ds, Q_spot_of ds → Z_spot_of ds (sf ds)) (h_law_word : F_law_word P w K mg base)
    (C_law_pick : Cal P w K mg base "_law_pick" 1 ["_law_bag_here", "_law_many"] spPick) (C_law_node : Cal P w K mg base "_law_node" 2 ["_law_bag_here", "_law_levels_here"] (spNode K)) (M_Console_execute : CalM P w K mg base O.cC "execute" 16 ["self", "command"] (spExec K O.cC O.cR A sf))
    (M_Reader_search : CalM P w K mg base O.cR "search" 7 ["self", "node"] (spSearch K O.cR sf)) (M_Reader_drop : CalM P w K mg base O.cR "drop" 7 ["self"] (spDrop K O.cR sf)) (M_Reader_undo : CalM P w K mg base O.cR "undo" 1 ["self"] (spUndo K O.cR)) (M_Reader_log : CalM P w K mg base O.cR "log" 1 ["self"] (spLog K O.cR))
    (P_height : CalP P w K mg base O.cR "height" 1 (spPr K O.cR fun R => .int R.h)) : Cal P w K mg base "_law_changed" 17 ["_law_bag_here", "_law_console", "_law_reader"] (spLC K O) := by
  obtain ⟨f_law_word, p_law_word, C_law_word⟩ := h_law_word
  obtain ⟨f, fd, F, hm⟩ := D
  refine ⟨f, fd, ?_, hm, F.kp, F.bindsN (fun _ _ _ _ _ _ us hl => match us, hl with | [_, _, _], _ => rfl)⟩
  refine mk_raw F sc_law_changed (fun vs H Q E h => ?_) ⟨_, fun cdv A outer s H E f hr => (pss_cons (ps_set (i := 3) sc_law_changed.nd rfl (Or.inl rfl) (pe_callC C_law_pick hr (by rfl) (pa_cons (pv 0) (pa_cons pe_int pa_nil))))
    (pss_cons (ps_if (PW.pt (pw_and (pt_cmpR op_eq (pv 3) pe_int (nomark _)) (pw_and1 (pt_cmpR (op_neDK K (hu64 hr)) (pe_methC0 M_Reader_log hr (pv 2)) (pe_lst pa_nil) (nomark _))))) (pss_cons (ps_expr (pe_methC0 M_Reader_undo hr (pv 2)))
    (pss_one (ps_ret (pe_cmpR op_eq (pe_methC M_Console_execute hr (pv 1) (pa_cons pe_str pa_nil)) pe_str (nomark _))))) pss_nil)
    (pss_cons (ps_if (pt_cmpR op_eq (pv 3) pe_int (nomark _)) (pss_cons (ps_expr (pe_methC0 M_Reader_drop hr (pv 2)))
    (pss_one (ps_ret (pe_cmpR op_eq (pe_methC M_Console_execute hr (pv 1) (pa_cons pe_str pa_nil)) pe_str (nomark _))))) pss_nil)
    (pss_cons (ps_set (i := 4) sc_law_changed.nd rfl (Or.inl rfl) (pe_callC C_law_node hr (by rfl) (pa_cons (pv 0) (pa_cons (pe_propC P_height hr (pv 2)) pa_nil))))
    (pss_cons (ps_expr (pe_methC M_Reader_search hr (pv 2) (pa_cons (pv 4) pa_nil)))
    (pss_one (ps_ret (pe_cmpR op_eq (pe_methC M_Console_execute hr (pv 1) (pa_cons (pe_op op_add_str pe_str (pe_callC C_law_word hr (by rfl) (pa_cons (pv 4) pa_nil))) pa_nil)) pe_str (nomark _)))))))))
    , ?_⟩
  · obtain ⟨_, _, _, _, _, _, _, _, _, rfl, _⟩ := h
    rfl
  rintro vs H Q E ⟨G, p, c, a, ca, R, t, F1, F2, rfl, W, ok, ht, hc, q⟩
  have h1 := ok.h1
  have h2 := ok.h2
  have l0 : QL K G [.ob (atP (.ref p)), .ob (atP (.ref ca)), .ob (atP (.ref a)), .un, .un] (L2.start n_law_changed [.ref p, .ref ca, .ref a]) H := by
    have base := ql_entO (K := K) (y := "_law_reader") (N := ["_law_way_here", "_law_node_here"]) (o := atP (.ref a)) (v := .ref a) (ds := []) W.gh .nil rfl
    have n1 := cons_noown (s := .ob (atP (.ref a))) (fun _ z => by cases z) (ent_noown (n := 2) (ds := []))
    have l1 := ql_cons (s := .ob (atP (.ref ca))) (x := some (.ref ca)) base (fun _ z => by cases z) (fun _ z => by cases z) (fun o z => by cases z; exact ⟨.ref ca, rfl, rfl⟩) n1
    have n2 := cons_noown (s := .ob (atP (.ref ca))) (fun _ z => by cases z) n1
    exact ql_cons (s := .ob (atP (.ref p))) (x := some (.ref p)) l1 (fun _ z => by cases z) (fun _ z => by cases z) (fun o z => by cases z; exact ⟨.ref p, rfl, rfl⟩) n2
  have noo : ∀ {s3 s4 : QV}, (∀ es, s3 ≠ .own es) → (∀ es, s4 ≠ .own es) → ∀ (i : Nat) (es : List PyData), ([.ob (atP (.ref p)), .ob (atP (.ref ca)), .ob (atP (.ref a)), s3, s4] : List QV)[i]? ≠ some (.own es) := fun a b => cons_noown (fun _ z => by cases z) (cons_noown (fun _ z => by cases z) (cons_noown (fun _ z => by cases z) (cons_noown a (cons_noown b fun i es z => by cases z))))
  have un : ∀ es, QV.un ≠ .own es := fun _ z => by cases z
  have da : ∀ {d : PyData} es, QV.dat d ≠ .own es := fun _ z => by cases z
  have hpF : ∀ x, F1 x ∨ F2 x → ∃ o, H x = some o := fun x hx => by
    rcases hx with h | h
    · exact (W.r.some h).1
    · exact (W.co.some h).1
  have ho3 : ∀ {G H G' H' : Hp} {s : QV} {d : PyData}, (∀ o, s ≠ .ob o) → ∀ (i : Nat) (o : ObP) (v : V), ([.ob (atP (.ref p)), .ob (atP (.ref ca)), .ob (atP (.ref a)), .dat d, s] : List QV)[i]? = some (.ob o) → o.fits v G H → o.fits v G' H' := fun hs i o v e h => by
    match i, e with
    | 0, e => cases e; exact h
    | 1, e => cases e; exact h
    | 2, e => cases e; exact h
    | 3, e => cases e
    | 4, e => exact absurd (Option.some.inj e) (hs o)
    | _ + 5, e => cases e
  have kd := f0_ok (h := "drop") (by decide +kernel)
  have ku := f0_ok (h := "undo") (by decide +kernel)
  have oke : decide (V.str (Str.ofString "ok") = V.str (Str.ofString "ok")) = true := decide_eq_true rfl
  have e31 : (5 : Int) ≤ 10 ^ 31 := by decide
  refine pick_run (c := c) (many := 5) l0 (noo un un) W.b rfl ev_int (by omega) (by omega) (by omega) fun x G1 H1 x0 x1 f1 b1 l1 => ?_
  have W1 := W.bag f1 b1
  have l2 := l1.set (i := 3) (d := .int x) (.int x)
  have g01 := gr3 (F1 := F1) (F2 := F2) f1 hpF
  refine log_test l2 rfl rfl W1.r ok fun b G2 H2 g2 hb => ?_
  have W2 := W1.pure g2
  have l3 := l2.gr g2
  have g02 : GrF (F3 p F1 F2) G H (F3 p F1 F2) G2 H2 := g01.trans (GrF.pure g2)
  cases b with
  | true =>
    dsimp only
    rw [if_pos rfl]
    obtain ⟨cs, cl, ec⟩ := snoc_of (hb rfl)
    have hp : R.past ≠ [] := fun z => by
      have := ok.ln
      rw [ec, z, List.length_append] at this
      exact absurd this (by show ¬ _ + 1 = 0; omega)
    obtain ⟨ps, pl, ep⟩ := snoc_of hp
    obtain ⟨v, e1, hv⟩ := l3.ob 2 _ rfl
    have hv : v = .ref a := hv
    subst hv
    obtain ⟨dx, pc, pp, vc, vp, ws, hh, hF⟩ := W2.r
    refine ⟨_, e1, a, dx, ws, rfl, hh.ha, hh.w.meth _ (by decide +kernel), ?_⟩
    refine ⟨G2, F1, R, a, ps, pl, cs, cl, rfl, g2.gh, ⟨dx, pc, pp, vc, vp, ws, hh, hF⟩, ep, ec, fun G3 H3 F1' f3 hR3 => ?_⟩
    have l4 := ql_grO l3 (noo da un) f3 (ho3 fun _ z => by cases z)
    refine exec_run (cmd := "undo") (h := "undo") (ws := []) (F := F2) (R' := { R with page := pl.1, spent := pl.2, past := ps, calls := cs }) l4 rfl (W2.coH f3) ok (by omega) ev_str ku.1 (by decide +kernel) (by rw [ku.2]; exact .undo ep ec) fun G4 H4 F2' f4 hC => ?_
    obtain ⟨W4, g4⟩ := W2.step f3 hR3 f4 hC
    refine ⟨rfl, ?_⟩
    rw [oke]
    exact q (c + 1) _ F1' F2' G4 H4 (by omega) (undo_ok ok ep ec) ⟨rfl, rfl, rfl, rfl⟩ (g02.trans g4) W4
  | false =>
    dsimp only
    rw [if_neg Bool.false_ne_true]
    unfold tNext
    dsimp only
    have t1 : EvT K (tTest (tOp rEq (tVar 3) (tC (.int 1)))) [.ob (atP (.ref p)), .ob (atP (.ref ca)), .ob (atP (.ref a)), .dat (.int x), .un] (decide (x = 1)) := et_test (ev_op (ev_var rfl) ev_int rd_eqI)
    by_cases c1 : x = 1
    · refine seqIfT_run l3 (et_is t1 (dtr c1)) fun G3 H3 g3 l4 => ?_
      have W3' := W2.pure g3
      obtain ⟨v, e1, hv⟩ := l4.ob 2 _ rfl
      have hv : v = .ref a := hv
      subst hv
      obtain ⟨dx, pc, pp, vc, vp, ws, hh, hF⟩ := W3'.r
      refine ⟨_, e1, a, dx, ws, rfl, hh.ha, hh.w.meth _ (by decide +kernel), ?_⟩
      refine ⟨G3, F1, R, t, a, rfl, g3.gh, ⟨dx, pc, pp, vc, vp, ws, hh, hF⟩, ok, by omega, fun G4 H4 F1' f3 hR3 => ?_⟩
      have l5 := ql_grO l4 (noo da un) f3 (ho3 fun _ z => by cases z)
      refine exec_run (cmd := "drop") (h := "drop") (ws := []) (F := F2) (R' := perfF sf R .drop) l5 rfl (W3'.coH f3) ok (by omega) ev_str kd.1 (by decide +kernel) (by rw [kd.2]; exact .drop) fun G5 H5 F2' f4 hC => ?_
      obtain ⟨W4, g4⟩ := W3'.step f3 hR3 f4 hC
      refine ⟨rfl, ?_⟩
      rw [oke]
      exact q (c + 1) _ F1' F2' G5 H5 (by omega) (perf_ok (op := .drop) hsf ok trivial) ⟨rfl, rfl, rfl, rfl⟩ ((g02.trans (GrF.pure g3)).trans g4) W4
    · refine seq_run l3 (noo da un) (sd_ifF (et_is t1 (dfa c1)) sd_next) fun G3 σ3 H3 g3 l4 => ?_
      have W3' := W2.pure g3
      obtain ⟨dx, pc, pp, vc, vp, ws, hh, hF⟩ := W3'.r
      have lR := ql_obS (o := RdP O.cR R) l4 (noo da un) (i := 2) rfl ⟨a, dx, ws, rfl, hh.ha, hh.w⟩
      refine node_run (c := c + 1) (h := R.h) lR (cons_noown (fun _ z => by cases z) (cons_noown (fun _ z => by cases z) (cons_noown (fun _ z => by cases z) (cons_noown da (cons_noown un fun i es z => by cases z))))) W3'.b rfl (ev_propR (g := fun R => PyData.int R.h) rfl) (by omega) h1 h2 fun d n vn G4 H4 d0 d1 n0 n1 f4 b4 _ dv => ?_
      have W4' := W3'.bag f4 b4
      have hpF3 : ∀ x, F1 x ∨ F2 x → ∃ o, H3 x = some o := fun x hx => by
        rcases hx with h | h
        · exact (W3'.r.some h).1
        · exact (W3'.co.some h).1
      have g04 := (g02.trans (GrF.pure g3)).trans (gr3 (F1 := F1) (F2 := F2) f4 hpF3)
      have l5 := ql_grO l4 (noo da un) f4 (ho3 fun _ z => by cases z)
      have l6 := l5.set (i := 4) dv
      obtain ⟨v, e1, hv⟩ := l6.ob 2 _ rfl
      have hv : v = .ref a := hv
      subst hv
      obtain ⟨v4, e4, dv4⟩ := l6.dat 4 _ rfl
      obtain ⟨dx, pc, pp, vc, vp, ws, hh, hF⟩ := W4'.r
      refine ⟨_, e1, a, dx, ws, rfl, hh.ha, hh.w.meth _ (by decide +kernel), _, e4, ?_⟩
      refine ⟨G4, F1, R, t, a, v4, d, n, rfl, f4.gh, ⟨dx, pc, pp, vc, vp, ws, hh, hF⟩, ok, by omega, ⟨d0, d1, n0, n1⟩, dv4, fun G5 H5 F1' f5 hR5 => ?_⟩
      have l7 := ql_grO l6 (noo da da) f5 (ho3 fun _ z => by cases z)
      have ks := fW_ok (h := "search") (hb := Str.ofString "search ") (d := d) (n := n) (by decide +kernel) (by decide +kernel) d0 (by omega) n0 n1
      obtain ⟨_, zz, clw⟩ := use_fn (K := K) p_law_word [ND d n] ⟨_, _, rfl, d0, by omega⟩
      obtain rfl := zz _ _ rfl
      have lw := wordF_len2 (n := n) d0 (by omega)
      have lb1 : (Str.ofString "search ").length ≤ 10 := by decide +kernel
      refine exec_run (cmd := Str.ofString "search " ++ wordF d n) (h := "search") (ws := [wordF d n]) (F := F2) (R' := perfF sf R (.search d n)) l7 rfl (W4'.coH f5) ok (by omega) (ev_catS ev_str (ev_call (ea_cons (ev_var rfl) ea_nil) clw) (by omega)) ks.1 (by decide +kernel) (by rw [ks.2]; exact .search ⟨d0, d1, n0, n1⟩) fun G6 H6 F2' f6 hC => ?_
      obtain ⟨W5, g5⟩ := W4'.step f5 hR5 f6 hC
      refine ⟨rfl, ?_⟩
      rw [oke]
      exact q (c + 1 + 4) _ F1' F2' G6 H6 (by omega) (perf_ok (op := .search d n) hsf ok ⟨d0, d1, n0, n1⟩) ⟨rfl, rfl, rfl, rfl⟩ (g04.trans g5) W5
end
end
end
end
section
set_option exponentiation.threshold 5000
section
open PySem L2
section
section
variable {K : PySem.W.Frag}
theorem for_run {wi : TI} {g : TG} {tb : TS} {D : Ends} {σ : L2.St} {G H : Hp} {r : List QV} {items : List PyData} (hi : ItD K wi r items) (l : QL K G r σ H) (Inv : Hp → Nat → L2.St → Hp → Prop)
    (start : ∀ G1 H1, Gr G H G1 H1 → Inv G1 0 σ H1) (same : ∀ G1 i σ H, Inv G1 i σ H → ∃ G', Same G1 G' ∧ Same G' H)
    (turn : ∀ G1 i σ H x H' d, items[i]? = some d → Inv G1 i σ H → YD K G1 H x H' d → g x σ H' fun σ2 H2 => tb { D with nx := Inv G1 (i + 1), ct := Inv G1 (i + 1), bk := D.nx } σ2 H2)
    (fin : ∀ G1 σ H, Inv G1 items.length σ H → D.nx σ H) : tFor wi g tb D σ H := by
  refine hi G σ H l _ fun J G1 H1 g1 wk => ?_
  refine ⟨fun i m σ' H' => m = items.length - i ∧ i ≤ items.length ∧ Inv G1 i σ' H', ⟨_, rfl, Nat.zero_le _, start G1 H1 g1⟩, ?_⟩
  rintro i m σ' H' ⟨rfl, hle, inv⟩
  obtain ⟨G', s1, s2⟩ := same _ _ _ _ inv
  by_cases hlt : i < items.length
  · refine .inr ⟨wk.go i H' hlt (s1.trans s2), Inv G1 (i + 1), fun σ2 H2 h2 => ⟨items.length - (i + 1), by omega, rfl, hlt, h2⟩, fun x H2 y => ?_⟩
    obtain ⟨d, hdi, yd⟩ := wk.yld i H' x H2 hlt (s1.trans s2) y
    exact turn G1 i σ' H' x H2 d hdi inv yd
  · have ei : i = items.length := by omega
    subst ei
    exact .inl ⟨wk.stop H' (s1.trans s2), fin _ _ _ inv⟩
end
theorem kinds_free : ∀ k ∈ kinds, 32 ∉ cp k ∧ k.length ≤ 20 := by decide +kernel
theorem fR_ok {k : Str} {h s m : Int} (hk : k ∈ kinds) (h1 : 0 ≤ h) (h2 : h < 10 ^ 100) (s1 : 0 ≤ s) (s2 : s < 10 ^ 100) (m1 : 0 ≤ m) (m2 : m < 10 ^ 100) :
    CmdOk (Str.ofString "reader " ++ Txt.join (Str.ofString " ") [k, tx h, tx s, tx m]) "reader" [k, tx h, tx s, tx m] ∧ vls "reader" [k, tx h, tx s, tx m] = [.str k, .int h, .int s, .int m] ∧ (Txt.join (Str.ofString " ") [k, tx h, tx s, tx m]).length ≤ 400 := by
  have hf : (("reader" : Str), Str.ofString "KNNN") ∈ formsT := by decide +kernel
  have q := sep_mem _ hf
  dsimp only at q
  have ec : cp (Str.ofString "KNNN") = [75, 78, 78, 78] := by decide +kernel
  have eb : Str.ofString "reader " = Str.ofString "reader" ++ Str.ofString " " := by decide +kernel
  have ej : Str.ofString "reader " ++ Txt.join (Str.ofString " ") [k, tx h, tx s, tx m] = Str.join (Str.ofString " ") [Str.ofString "reader", k, tx h, tx s, tx m] := by
    rw [jn_eq, eb]
    rfl
  have l1 := tx_len h1 h2
  have l2 := tx_len s1 s2
  have l3 := tx_len m1 m2
  have lk := (kinds_free k hk).2
  have lb : (Str.ofString " ").length = 1 := by decide +kernel
  have lr : (Str.ofString "reader ").length = 7 := by decide +kernel
  have lj : (Txt.join (Str.ofString " ") [k, tx h, tx s, tx m]).length ≤ 400 := by
    rw [jn_eq]
    show (k ++ Str.ofString " " ++ (tx h ++ Str.ofString " " ++ (tx s ++ Str.ofString " " ++ tx m))).length ≤ 400
    rw [Str.length_append, Str.length_append, Str.length_append, Str.length_append, Str.length_append, Str.length_append, lb]
    omega
  refine ⟨⟨?_, ?_, _, hf, ?_, ?_⟩, ?_, lj⟩
  · rw [ej]
    refine split_join (ws := [Str.ofString "reader", k, tx h, tx s, tx m]) (by simp) (fun x hx => ?_)
    simp only [List.mem_cons, List.not_mem_nil, or_false] at hx
    rcases hx with rfl | rfl | rfl | rfl | rfl
    · exact q.1
    · exact (kinds_free _ hk).1
    · exact tx_free
    · exact tx_free
    · exact tx_free
  · rw [Str.length_append, lr]
    omega
  · rw [ec]
    rfl
  · intro p hp
    rw [ec] at hp
    have hp : p ∈ [(75, k), (78, tx h), (78, tx s), (78, tx m)] := hp
    simp only [List.mem_cons, List.not_mem_nil, or_false] at hp
    rcases hp with rfl | rfl | rfl | rfl
    · exact .inl ⟨eK, hk⟩
    · exact .inr (.inl ⟨eN, h, rfl, h1, h2⟩)
    · exact .inr (.inl ⟨eN, s, rfl, s1, s2⟩)
    · exact .inr (.inl ⟨eN, m, rfl, m1, m2⟩)
  · unfold vls valsF
    have e := form_of _ hf
    dsimp only at e
    rw [e, ec]
    show [valF ⟨#[75]⟩ k, valF ⟨#[78]⟩ (tx h), valF ⟨#[78]⟩ (tx s), valF ⟨#[78]⟩ (tx m)] = _
    rw [valF_K, valF_N h1 h2, valF_N s1 s2, valF_N m1 m2]
def spLR (K : PySem.W.Frag) : Sp := fun vs H Q _ => ∃ G p c most b, vs = [.ref p, .int most, .bl b] ∧ Same G H ∧ BagAt p c G H ∧ c ≤ 70000 ∧ 1 ≤ most ∧ most ≤ 100 ∧ (b = true → most ≤ 30) ∧ ∀ G' H', GrF (only p) G H (only p) G' H' → BagAt p (c + 50) G' H' → Q (.bl true) H'
def noneF (_ : Addr) : Prop := False
def Fix (r : List QV) : Prop := ∀ (i : Nat) (o : ObP) (v : V) (G H G' H' : Hp), r[i]? = some (.ob o) → o.fits v G H → o.fits v G' H'
theorem fix_nil : Fix [] := fun i o v G H G' H' e _ => by cases e
theorem fix_un {r : List QV} (h : Fix r) : Fix (.un :: r) := fun i o v G H G' H' e q => by
  cases i with
  | zero => cases e
  | succ i => exact h i o v G H G' H' e q
theorem fix_dat {r : List QV} {d : PyData} (h : Fix r) : Fix (.dat d :: r) := fun i o v G H G' H' e q => by
  cases i with
  | zero => cases e
  | succ i => exact h i o v G H G' H' e q
theorem fix_at {r : List QV} {v0 : V} (h : Fix r) : Fix (.ob (atP v0) :: r) := fun i o v G H G' H' e q => by
  cases i with
  | zero => cases e; exact q
  | succ i => exact h i o v G H G' H' e q
theorem GrF.weak {F F' F2 : Addr → Prop} {G H G' H' : Hp} (g : GrF F G H F' G' H') (h : ∀ x, F2 x → F' x) : GrF F G H F2 G' H' := ⟨g.gg, g.gh, fun x o hx n => by
  obtain ⟨a, b, c⟩ := g.fr x o hx n
  exact ⟨a, fun z => b (h x z), c⟩⟩
theorem HoldR.read {K : PySem.W.Frag} {C a : Addr} {R : RS} {F : Addr → Prop} {G H : Hp} (h : HoldR K C a R F G H) : RdV C R (.ref a) H := by
  obtain ⟨dx, pc, pp, vc, vp, ws, hh, _⟩ := h
  exact ⟨a, dx, ws, rfl, hh.ha, hh.w⟩
theorem mk_none {C x dx : Addr} {F' : Addr → Prop} {G H G' H' : Hp} (hx : H x = none) (hd : H dx = none) (g : GrF (iF x dx) G (upd (upd H dx (.own x)) x (.ins C dx [])) F' G' H') : GrF noneF G H F' G' H' := ⟨g.gg, g.gh, fun y o hy _ => by
  have n1 := ne_of_none hy hx
  have n2 := ne_of_none hy hd
  refine g.fr y o ?_ fun z => ?_
  · rw [upd_ne n1, upd_ne n2]
    exact hy
  · rcases z with z | z
    · exact n1 z
    · exact n2 z⟩
structure LRI (K : PySem.W.Frag) (O : Bo K) (p a ca : Addr) (k : Str) (h s m : Int) (c0 : Int) (Ge He : Hp) (rL : List QV) (G1 : Hp) (i : Nat) (σ : L2.St) (H : Hp) : Prop where
  ex : ∃ G' c R F1 F2, Same G1 G' ∧ W3 K O p c a ca R F1 F2 G' H ∧ RsOk R i ∧ c ≤ c0 + 11 * (i : Int) ∧ (R.k = k ∧ R.h = h ∧ R.s = s ∧ R.m = m) ∧ QL K G' rL σ H ∧ GrF (only p) Ge He (F3 p F1 F2) G' H
section
variable {P : Program} {w : World} {K : PySem.W.Frag} {mg : Str → Option Value} {base : Heap}
theorem ok_lr {O : Bo K} {A : AF} {sf : List PyData → PyData} (B : Bt w K mg) (D : Df K mg "_law_right" "_law_right" s_law_right) (h_law_kinds : F_law_kinds P w K mg base)
    (C_law_pick : Cal P w K mg base "_law_pick" 1 ["_law_bag_here", "_law_many"] spPick) (M_Console : CalC P w K mg base "Console" O.cC 6 ["self"] (spCInit K O.cC O.cR)) (M_Reader : CalC P w K mg base "Reader" O.cR 4 ["self", "kind", "height", "size", "shift"] (spInit K O.cR))
    (M_Console_execute : CalM P w K mg base O.cC "execute" 16 ["self", "command"] (spExec K O.cC O.cR A sf)) (C_law_answers_right : Cal P w K mg base "_law_answers_right" 17 ["_law_bag_here", "_law_console", "_law_reader"] (spAR K O.cC O.cR))
    (C_law_changed : Cal P w K mg base "_law_changed" 17 ["_law_bag_here", "_law_console", "_law_reader"] (spLC K O)) (C_law_sums_right : Cal P w K mg base "_law_sums_right" 17 ["_law_console", "_law_reader"] (spSR K O.cC O.cR)) :
    Cal P w K mg base "_law_right" 18 ["_law_bag_here", "_law_most", "_law_is_summed"] (spLR K) := by
  obtain ⟨f_law_kinds, p_law_kinds, C_law_kinds⟩ := h_law_kinds
  obtain ⟨f, fd, F, hm⟩ := D
  refine ⟨f, fd, ?_, hm, F.kp, F.bindsN (fun _ _ _ _ _ _ us hl => match us, hl with | [_, _, _], _ => rfl)⟩
  refine mk_raw F sc_law_right (fun vs H Q E h => ?_) ⟨_, fun cdv A outer s H E f hr => (pss_cons (ps_par (i := 3) (j := 4) rfl sc_law_right.nd rfl rfl (by decide) rfl rfl  (pa_cons (pe_ix (ix_listK K) (pe_callC0 C_law_kinds hr (by rfl)) (pe_callC C_law_pick hr (by rfl) (pa_cons (pv 0) (pa_cons pe_int pa_nil))) (fun _ _ => rfl)) (pa_cons (pe_op op_add pe_int (pe_callC C_law_pick hr (by rfl) (pa_cons (pv 0) (pa_cons (pv 1) pa_nil)))) pa_nil)) (by rfl))
    (pss_cons (ps_set (i := 5) sc_law_right.nd rfl (Or.inl rfl) (pe_op op_add pe_int (pe_callC C_law_pick hr (by rfl) (pa_cons (pv 0) (pa_cons (pe_ix (ix_listK K) (pe_lst (pa_cons pe_int (pa_cons (pe_op op_pow pe_int pe_int) pa_nil))) (pe_callTy call_int1 (by rfl) B.int (by decide +kernel) (pa_cons (pe_not (pv 2)) pa_nil)) (fun _ _ => rfl)) pa_nil)))))
    (pss_cons (ps_set (i := 6) sc_law_right.nd rfl (Or.inl rfl) (pe_callC C_law_pick hr (by rfl) (pa_cons (pv 0) (pa_cons (pv 5) pa_nil))))
    (pss_cons (ps_par (i := 7) (j := 8) rfl sc_law_right.nd rfl rfl (by decide) rfl rfl  (pa_cons (pe_makeC0 M_Console hr (by rfl)) (pa_cons (pe_makeC M_Reader hr (by rfl) (pa_cons (pv 3) (pa_cons (pv 4) (pa_cons (pv 5) (pa_cons (pv 6) pa_nil))))) pa_nil)) (by rfl))
    (pss_cons (ps_set (i := 9) sc_law_right.nd rfl (Or.inl rfl) (pe_lst (pa_cons (pv 3) (pa_cons (pe_callTy call_str_int (by rfl) B.str (by decide +kernel) (pa_cons (pv 4) pa_nil)) (pa_cons (pe_callTy call_str_int (by rfl) B.str (by decide +kernel) (pa_cons (pv 5) pa_nil)) (pa_cons (pe_callTy call_str_int (by rfl) B.str (by decide +kernel) (pa_cons (pv 6) pa_nil)) pa_nil))))))
    (pss_cons (ps_if (pt_cmpR op_ne (pe_methC M_Console_execute hr (pv 7) (pa_cons (pe_op op_add_str pe_str (pe_joinK K pe_str (pv 9))) pa_nil)) pe_str (nomark _)) (pss_one (ps_ret pe_bl)) pss_nil)
    (pss_cons (ps_for PassesOwn.never rfl (pi_range1 (by rfl) B.range (pa_cons pe_int pa_nil)) (pg_name (i := 10) sc_law_right.nd rfl (Or.inl rfl)) (pss_one (ps_if (PW.pt (pw_or (pt_not (pt_val (pe_callC C_law_answers_right hr (by rfl) (pa_cons (pv 0) (pa_cons (pv 7) (pa_cons (pv 8) pa_nil)))))) (pw_or1 (pt_not (pt_val (pe_callC C_law_changed hr (by rfl) (pa_cons (pv 0) (pa_cons (pv 7) (pa_cons (pv 8) pa_nil))))))))) (pss_one (ps_ret pe_bl)) pss_nil)))
    (pss_one (ps_ret (pe_and (pe_callC C_law_answers_right hr (by rfl) (pa_cons (pv 0) (pa_cons (pv 7) (pa_cons (pv 8) pa_nil)))) (pe_one (pe_or (pe_not (pv 2)) (pe_one (pe_callC C_law_sums_right hr (by rfl) (pa_cons (pv 7) (pa_cons (pv 8) pa_nil))))))))))))))))
    , ?_⟩
  · obtain ⟨_, _, _, _, _, rfl, _⟩ := h
    rfl
  rintro vs H Q E ⟨G, p, c, most, b, rfl, gh, hb, hc, m1, m2, hbm, q⟩
  have l0 : QL K G [.ob (atP (.ref p)), .dat (.int most), .dat (.bool b), .un, .un, .un, .un, .un, .un, .un, .un] (L2.start n_law_right [.ref p, .int most, .bl b]) H := ql_entU (y := "_law_bag_here") (N := ["_law_most", "_law_is_summed", "_law_kind_here", "_law_levels_here", "_law_size_here", "_law_shift_here", "_law_console", "_law_reader", "_law_words", "_law_turn"]) gh (.cons (.int _) (.cons (.bl _) .nil))
  have un : ∀ es, QV.un ≠ .own es := fun _ z => by cases z
  have da : ∀ {d : PyData} es, QV.dat d ≠ .own es := fun _ z => by cases z
  have ob : ∀ {o : ObP} es, QV.ob o ≠ .own es := fun _ z => by cases z
  have noo : ∀ {s1 s2 s3 s4 s5 s6 s7 s8 s9 s10 : QV}, (∀ es, s1 ≠ .own es) → (∀ es, s2 ≠ .own es) → (∀ es, s3 ≠ .own es) → (∀ es, s4 ≠ .own es) → (∀ es, s5 ≠ .own es) → (∀ es, s6 ≠ .own es) → (∀ es, s7 ≠ .own es) → (∀ es, s8 ≠ .own es) → (∀ es, s9 ≠ .own es) → (∀ es, s10 ≠ .own es) → ∀ (i : Nat) (es : List PyData), ([.ob (atP (.ref p)), s1, s2, s3, s4, s5, s6, s7, s8, s9, s10] : List QV)[i]? ≠ some (.own es) := fun a b c d e f g h i j => cons_noown (fun _ z => by cases z) (cons_noown a (cons_noown b (cons_noown c (cons_noown d (cons_noown e (cons_noown f (cons_noown g (cons_noown h (cons_noown i (cons_noown j fun i es z => by cases z))))))))))
  have e31 : (100 : Int) ≤ 10 ^ 31 := by decide
  have e30 : (10 : Int) ^ 30 ≤ 10 ^ 31 := by decide
  have e10 : (10 : Int) ^ 31 < 10 ^ 100 := by decide
  -- kind, levels
  obtain ⟨_, zz, clk⟩ := use_fn (K := K) p_law_kinds [] rfl
  obtain rfl := zz
  have evk : Ev K (tCall (spD K ([] : List Str).length fun ds d => Q_law_kinds ds ∧ d = f_law_kinds ds) [] E0 tNil) [.ob (atP (.ref p)), .dat (.int most), .dat (.bool b), .un, .un, .un, .un, .un, .un, .un, .un] (.list (kinds.map .str)) := ev_call ea_nil clk
  refine evk G _ H l0 _ fun kv G1 H1 g1 dk => ?_
  have b1 := hb.pure g1
  have l1 := l0.gr g1
  refine pick_run (c := c) (many := 7) l1 (noo da da un un un un un un un un) b1 rfl ev_int (by omega) (by omega) (by omega) fun x1 G2 H2 x10 x11 f2 b2 l2 => ?_
  cases dk with
  | lst hs ha =>
    have hsH : SqL K H2 _ _ := Same.seq (f2.gg.trans f2.gh) hs
    have evs := dp_strs ha
    subst evs
    obtain ⟨k, hk, ek⟩ := atI_any (xs := kinds) (i := x1) (by omega) (by
      have : (kinds.length : Int) = 7 := rfl
      omega)
    have hk : k ∈ kinds := hk
    refine ⟨_, kinds.map V.str, x1, .str k, rfl, rfl, hsH, atI_map ek, ?_⟩
    refine pick_run (c := c + 1) (many := most) l2 (noo da da un un un un un un un un) b2 rfl (ev_var rfl) (by omega) (by omega) (by omega) fun x2 G3 H3 x20 x21 f3 b3 l3 => ?_
    refine ⟨1, x2, rfl, rfl, _, _, rfl, ?_⟩
    have l3' := (l3.set (i := 3) (d := .str k) (.str k)).set (i := 4) (d := .int (1 + x2)) (.int _)
    dsimp only
    generalize hh : 1 + x2 = h at *
    -- the size
    have hM : ∃ M : Int, M = (if b = true then 16 else 10 ^ 30) := ⟨_, rfl⟩
    obtain ⟨M, hM⟩ := hM
    have hM1 : 1 ≤ M ∧ M ≤ 10 ^ 30 ∧ (b = true → M ≤ 16) := by
      cases b with
      | true => rw [hM, if_pos rfl]; exact ⟨by decide, by decide, fun _ => by decide⟩
      | false => rw [hM, if_neg Bool.false_ne_true]; exact ⟨by decide, by decide, fun z => Bool.noConfusion z⟩
    have hat : atI [PyData.int 16, .int (10 ^ (30 : Int).toNat)] (if (!b) = true then 1 else 0) = some (.int M) := by
      rw [hM]
      cases b with
      | true => rfl
      | false => rfl
    have evM : Ev K (tOp (rIxL K) (tLst (tCons (tC (.int 16)) (tCons (tOp (rI CPow fun i j => .int (i ^ j.toNat)) (tC (.int 10)) (tC (.int 30))) tNil))) (tCB (fun xs H Q => (∃ i, xs = [.int i] ∧ Q (.int i) H) ∨ ∃ k, xs = [.bl k] ∧ Q (.int (if k then 1 else 0)) H) (tCons (tNotV (tVar 2)) tNil))) [.ob (atP (.ref p)), .dat (.int most), .dat (.bool b), .dat (.str k), .dat (.int h), .un, .un, .un, .un, .un, .un] (.int M) :=
      ev_op (ev_new (evn_lst (ea_cons ev_int (ea_cons (ev_op ev_int ev_int (rd_I ⟨by decide, by decide, by decide⟩)) ea_nil)) (by decide : 2 ≤ 100000))) (ev_cb (ea_cons (ev_notV (ev_var rfl)) ea_nil) rc_intB) (rd_ixL hat)
    refine pick_run (c := c + 1 + 1) (many := M) l3' (noo da da da da un un un un un un) b3 rfl evM (by omega) (by omega) (by omega) fun x3 G4 H4 x30 x31 f4 b4 l4 => ?_
    refine ⟨1, x3, rfl, rfl, ?_⟩
    have l4' := l4.set (i := 5) (d := .int (1 + x3)) (.int _)
    dsimp only [gName]
    generalize hs' : 1 + x3 = s at *
    -- the shift
    refine pick_run (c := c + 1 + 1 + 1) (many := s) l4' (noo da da da da da un un un un un) b4 rfl (ev_var rfl) (by omega) (by omega) (by omega) fun m G5 H5 m0 m1' f5 b5 l5 => ?_
    have l5' := l5.set (i := 6) (d := .int m) (.int m)
    have gA := (((GrF.pure (F := only p) g1).trans f2).trans f3).trans (f4.trans f5)
    have nok : NewOk k h s m := ⟨hk, by omega, by omega, by omega, by omega, m0, m1'⟩
    have fix0 : Fix [.ob (atP (.ref p)), .dat (.int most), .dat (.bool b), .dat (.str k), .dat (.int h), .dat (.int s), .dat (.int m), .un, .un, .un, .un] := fix_at (fix_dat (fix_dat (fix_dat (fix_dat (fix_dat (fix_dat (fix_un (fix_un (fix_un (fix_un fix_nil))))))))))
    have no5 := noo (s1 := .dat (.int most)) (s2 := .dat (.bool b)) (s3 := .dat (.str k)) (s4 := .dat (.int h)) (s5 := .dat (.int s)) (s6 := .dat (.int m)) (s7 := .un) (s8 := .un) (s9 := .un) (s10 := .un) da da da da da da un un un un
    -- the console
    refine fun ca dxc hca hdc nec => ?_
    have gc1 := Gr.newH (o := .own ca) f5.gh hdc
    have hca2 : (upd H5 dxc (.own ca)) ca = none := by
      rw [upd_ne (fun z => nec z.symm)]
      exact hca
    have gc2 := Gr.newH (o := .ins O.cC dxc []) gc1.gh hca2
    have ec1 : (upd (upd H5 dxc (.own ca)) ca (.ins O.cC dxc [])) dxc = some (.own ca) := by
      rw [upd_ne nec]
      exact upd_same
    refine ⟨G5, ca, dxc, rfl, gc2.gh, upd_same, ec1, f5.gh.free hca, f5.gh.free hdc, fun G6 H6 F2 gf6 hC6 => ⟨rfl, ?_⟩⟩
    have gE1 := mk_none hca hdc gf6
    have l6 := ql_grO l5' no5 gE1 (fun i o v e q => fix0 i o v _ _ _ _ e q)
    have b6 := b5.gr gE1 (fun z => z)
    -- the reader
    have ea : EvA K (tCons (tVar 3) (tCons (tVar 4) (tCons (tVar 5) (tCons (tVar 6) tNil)))) [.ob (atP (.ref p)), .dat (.int most), .dat (.bool b), .dat (.str k), .dat (.int h), .dat (.int s), .dat (.int m), .un, .un, .un, .un] [.str k, .int h, .int s, .int m] := ea_cons (ev_var rfl) (ea_cons (ev_var rfl) (ea_cons (ev_var rfl) (ea_cons (ev_var rfl) ea_nil)))
    show tMake O.cR (spInit K O.cR) [] E0 _ _ H6 _
    unfold tMake
    refine ea G6 _ H6 l6 _ fun vs G7 H7 g7 dv => ?_
    refine fun a dxa haa hda nea => ?_
    rw [List.append_nil]
    have ga1 := Gr.newH (o := .own a) g7.gh hda
    have haa2 : (upd H7 dxa (.own a)) a = none := by
      rw [upd_ne (fun z => nea z.symm)]
      exact haa
    have ga2 := Gr.newH (o := .ins O.cR dxa []) ga1.gh haa2
    have ea1 : (upd (upd H7 dxa (.own a)) a (.ins O.cR dxa [])) dxa = some (.own a) := by
      rw [upd_ne nea]
      exact upd_same
    refine ⟨G7, a, dxa, vs, k, h, s, m, rfl, dv.len, ga2.gh, upd_same, ea1, g7.gh.free haa, g7.gh.free hda, dv, nok, fun G8 H8 F1 gf8 hR8 => ⟨rfl, ?_⟩⟩
    have gE2 := mk_none haa hda gf8
    have l7 := l6.gr g7
    have l8 := ql_grO l7 no5 gE2 (fun i o v e q => fix0 i o v _ _ _ _ e q)
    have b8 := (b6.pure g7).gr gE2 (fun z => z)
    have hC8 := (hC6.pure g7).gr gE2 (fun _ _ z => z)
    refine ⟨_, _, rfl, ?_⟩
    have l9 : QL K G8 [.ob (atP (.ref p)), .dat (.int most), .dat (.bool b), .dat (.str k), .dat (.int h), .dat (.int s), .dat (.int m), .ob (atP (.ref ca)), .ob (atP (.ref a)), .un, .un] _ H8 := (l8.setB (i := 7) (o := atP (.ref ca)) (v := .ref ca) rfl).setB (i := 8) (o := atP (.ref a)) (v := .ref a) rfl
    have no9 := noo (s1 := .dat (.int most)) (s2 := .dat (.bool b)) (s3 := .dat (.str k)) (s4 := .dat (.int h)) (s5 := .dat (.int s)) (s6 := .dat (.int m)) (s7 := .ob (atP (.ref ca))) (s8 := .ob (atP (.ref a))) (s9 := .un) (s10 := .un) da da da da da da ob ob un un
    have Y : (10 : Int) ^ 31 ≤ 2 ^ 900 := by decide
    have bh : -(2 ^ 900) ≤ h ∧ h ≤ 2 ^ 900 := by
      generalize (2 : Int) ^ 900 = Y at *
      omega
    have bs : -(2 ^ 900) ≤ s ∧ s ≤ 2 ^ 900 := by
      generalize (2 : Int) ^ 900 = Y at *
      omega
    have bm : -(2 ^ 900) ≤ m ∧ m ≤ 2 ^ 900 := by
      generalize (2 : Int) ^ 900 = Y at *
      omega
    dsimp only
    refine seq_run (r1 := [.ob (atP (.ref p)), .dat (.int most), .dat (.bool b), .dat (.str k), .dat (.int h), .dat (.int s), .dat (.int m), .ob (atP (.ref ca)), .ob (atP (.ref a)), .dat (.list ([k, tx h, tx s, tx m].map .str)), .un]) l9 no9 (sd_asg (ev_new (evn_lst (ea_cons (ev_var rfl) (ea_cons (ev_str9 (ev_var rfl) bh) (ea_cons (ev_str9 (ev_var rfl) bs) (ea_cons (ev_str9 (ev_var rfl) bm) ea_nil)))) (by decide : 4 ≤ 100000))) gd_name) fun G9 σ9 H9 g9 l10 => ?_
    have fr := fR_ok (k := k) (h := h) (s := s) (m := m) hk (by omega) (by omega) (by omega) (by omega) m0 (by omega)
    have lr : (Str.ofString "reader ").length ≤ 10 := by decide +kernel
    have lb : (Str.ofString " ").length = 1 := by decide +kernel
    have lth := tx_len (n := h) (by omega) (by omega)
    have lts := tx_len (n := s) (by omega) (by omega)
    have ltm := tx_len (n := m) m0 (by omega)
    have ltk := (kinds_free k hk).2
    have hC9 := hC8.pure g9
    have hR9 := hR8.pure g9
    have b9 := b8.pure g9
    have ok0 : RsOk (newR "levels" 1 1 0) 0 := newR_ok ⟨by decide +kernel, by decide, by decide, by decide, by decide, by decide, by decide⟩
    refine exec_run (cmd := Str.ofString "reader " ++ Txt.join (Str.ofString " ") [k, tx h, tx s, tx m]) (h := "reader") (ws := [k, tx h, tx s, tx m]) (F := F2) (R' := newR k h s m) l10 rfl hC9 ok0 (by decide) (ev_catS ev_str (ev_join ev_str (ev_var rfl) ?_) ?_) fr.1 (by decide +kernel) (by rw [fr.2.1]; exact .reader nok) fun G10 H10 F2' f10 hC10 => ?_
    · show k.length + ((tx h).length + ((tx s).length + ((tx m).length + 0))) + 4 * (Str.ofString " ").length ≤ 100000
      rw [lb]
      omega
    · have := fr.2.2
      omega
    have dE : ∀ x, F1 x → ¬ F2 x := fun x h1 h2 => by
      obtain ⟨⟨o, e⟩, _⟩ := (hC6.pure g7).some h2
      exact (gE2.fr x o e fun z => z).2.1 h1
    have hp5 : ∃ o, H5 p = some o := by
      obtain ⟨_, _, _, e, _⟩ := b5.ex
      exact ⟨_, e⟩
    obtain ⟨o5, e5⟩ := hp5
    obtain ⟨e6, n6, _⟩ := gE1.fr _ _ e5 fun z => z
    obtain ⟨e8, n8, _⟩ := gE2.fr _ _ (g7.hh _ _ e6) fun z => z
    obtain ⟨e10, n10, _⟩ := f10.fr _ _ (g9.hh _ _ e8) n6
    have W10 : W3 K O p (c + 1 + 1 + 1 + 1) a ca (newR k h s m) F1 F2' G10 H10 := ⟨f10.gh, b9.gr f10 n6, hR9.gr f10 dE, hC10, fun x h1 h2 => by
      obtain ⟨⟨o, e⟩, _⟩ := hR9.some h1
      exact (f10.fr x o e (dE x h1)).2.1 h2, n8, n10⟩
    have gAll : GrF (only p) G H (F3 p F1 F2') G10 H10 := ⟨gA.gg.trans (gE1.gg.trans (g7.gg.trans (gE2.gg.trans (g9.gg.trans f10.gg)))), f10.gh, fun x o hx n => by
      obtain ⟨q1, q2, q3⟩ := gA.fr x o hx n
      obtain ⟨q4, q5, q6⟩ := gE1.fr x o q1 fun z => z
      obtain ⟨q7, q8, q9⟩ := gE2.fr x o (g7.hh _ _ q4) fun z => z
      obtain ⟨r1, r2, r3⟩ := f10.fr x o (g9.hh _ _ q7) q5
      refine ⟨r1, fun z => ?_, ?_⟩
      · rcases z with z | z | z
        · exact n z
        · exact q8 z
        · exact r2 z
      · rw [r3, g9.ag _ _ q7, q9, g7.ag _ _ q4, q6, q3]⟩
    have fix9 : Fix [.ob (atP (.ref p)), .dat (.int most), .dat (.bool b), .dat (.str k), .dat (.int h), .dat (.int s), .dat (.int m), .ob (atP (.ref ca)), .ob (atP (.ref a)), .dat (.list ([k, tx h, tx s, tx m].map .str)), .un] := fix_at (fix_dat (fix_dat (fix_dat (fix_dat (fix_dat (fix_dat (fix_at (fix_at (fix_dat (fix_un fix_nil))))))))))
    have noL : ∀ (i : Nat) (es : List PyData), ([.ob (atP (.ref p)), .dat (.int most), .dat (.bool b), .dat (.str k), .dat (.int h), .dat (.int s), .dat (.int m), .ob (atP (.ref ca)), .ob (atP (.ref a)), .dat (.list ([k, tx h, tx s, tx m].map .str)), .un] : List QV)[i]? ≠ some (.own es) := noo da da da da da da ob ob da un
    have l11 := ql_grO l10 noL f10 (fun i o v e q => fix9 i o v _ _ _ _ e q)
    have oke : (!decide (V.str (Str.ofString "ok") = V.str (Str.ofString "ok"))) = false := by rw [decide_eq_true rfl]; rfl
    refine ⟨rfl, _, rfl, ?_⟩
    rw [oke]
    dsimp only
    rw [if_neg Bool.false_ne_true]
    unfold tNext
    dsimp only
    have len3 : ((rgI 0 3).map PyData.int).length = 3 := rfl
    refine for_run (r := [.ob (atP (.ref p)), .dat (.int most), .dat (.bool b), .dat (.str k), .dat (.int h), .dat (.int s), .dat (.int m), .ob (atP (.ref ca)), .ob (atP (.ref a)), .dat (.list ([k, tx h, tx s, tx m].map .str)), .un]) (items := (rgI 0 3).map .int) (it_rng1 (ea_cons ev_int ea_nil) ⟨by omega, by omega⟩) l11
      (LRI K O p a ca k h s m (c + 1 + 1 + 1 + 1) G H [.ob (atP (.ref p)), .dat (.int most), .dat (.bool b), .dat (.str k), .dat (.int h), .dat (.int s), .dat (.int m), .ob (atP (.ref ca)), .ob (atP (.ref a)), .dat (.list ([k, tx h, tx s, tx m].map .str)), .un]) ?_ ?_ ?_ ?_
    · intro Ga Ha ga
      exact ⟨⟨Ga, _, newR k h s m, F1, F2', Same.refl _, W10.pure ga, newR_ok nok, by omega, ⟨rfl, rfl, rfl, rfl⟩, l11.gr ga, gAll.trans (GrF.pure ga)⟩⟩
    · intro Ga i σ Hs inv
      obtain ⟨G', cc, R, E1, E2, s1, W, _⟩ := inv.ex
      exact ⟨G', s1, W.gh⟩
    · intro Ga i σ Hs x H' d hdi inv yd
      obtain ⟨G', cc, R, E1, E2, s1, W, ok, hcc, ⟨ek, eh, es, em⟩, l, gB⟩ := inv.ex
      obtain ⟨Gt, gt, dx⟩ := yd.gr s1 W.gh
      have hi3 : i < 3 := by
        have := (List.getElem?_eq_some_iff.mp hdi).1
        rw [len3] at this
        exact this
      have Wt := W.pure gt
      have lt : QL K Gt [.ob (atP (.ref p)), .dat (.int most), .dat (.bool b), .dat (.str k), .dat (.int h), .dat (.int s), .dat (.int m), .ob (atP (.ref ca)), .ob (atP (.ref a)), .dat (.list ([k, tx h, tx s, tx m].map .str)), .dat d] (σ.set 10 (some x)) H' := (l.gr gt).set (i := 10) dx
      have fixT : Fix [.ob (atP (.ref p)), .dat (.int most), .dat (.bool b), .dat (.str k), .dat (.int h), .dat (.int s), .dat (.int m), .ob (atP (.ref ca)), .ob (atP (.ref a)), .dat (.list ([k, tx h, tx s, tx m].map .str)), .dat d] := fix_at (fix_dat (fix_dat (fix_dat (fix_dat (fix_dat (fix_dat (fix_at (fix_at (fix_dat (fix_dat fix_nil))))))))))
      have noT : ∀ (i : Nat) (es : List PyData), ([.ob (atP (.ref p)), .dat (.int most), .dat (.bool b), .dat (.str k), .dat (.int h), .dat (.int s), .dat (.int m), .ob (atP (.ref ca)), .ob (atP (.ref a)), .dat (.list ([k, tx h, tx s, tx m].map .str)), .dat d] : List QV)[i]? ≠ some (.own es) := noo da da da da da da ob ob da da
      obtain ⟨v0, u0, hv0⟩ := lt.ob 0 _ rfl
      have hv0 : v0 = .ref p := hv0
      subst hv0
      obtain ⟨v7, u7, hv7⟩ := lt.ob 7 _ rfl
      have hv7 : v7 = .ref ca := hv7
      subst hv7
      obtain ⟨v8, u8, hv8⟩ := lt.ob 8 _ rfl
      have hv8 : v8 = .ref a := hv8
      subst hv8
      refine ⟨_, u0, _, u7, _, u8, Gt, p, cc, R, i, .ref ca, .ref a, rfl, gt.gh, Wt.b, by omega, Wt.co.read, Wt.r.read, ok, by omega, fun G3 H3 f3 b3 => ⟨true, rfl, ?_⟩⟩
      have W3' := Wt.bag f3 b3
      simp only [Bool.not_true, Bool.false_eq_true, if_false]
      refine ⟨_, u0, _, u7, _, u8, G3, p, cc + 6, a, ca, R, i, E1, E2, rfl, W3', ok, by omega, by omega, fun c' R' F1' F2'' G4 H4 hc' ok' eqs g4 W4 => ⟨true, rfl, ?_⟩⟩
      show LRI _ _ _ _ _ _ _ _ _ _ _ _ _ _ _ _ _
      have hpF : ∀ x, E1 x ∨ E2 x → ∃ o, H' x = some o := fun x hx => by
        rcases hx with h | h
        · exact (Wt.r.some h).1
        · exact (Wt.co.some h).1
      have l3 := ql_grO lt noT f3 (fun i o v e q => fixT i o v _ _ _ _ e q)
      have l4 := ql_grO l3 noT g4 (fun i o v e q => fixT i o v _ _ _ _ e q)
      refine ⟨⟨G4, c', R', F1', F2'', s1.trans (gt.gg.trans (f3.gg.trans g4.gg)), W4, ok', ?_, ⟨eqs.1.trans ek, eqs.2.1.trans eh, eqs.2.2.1.trans es, eqs.2.2.2.trans em⟩, l4.fgt1 (i := 10), ?_⟩⟩
      · omega
      · exact ((gB.trans (GrF.pure gt)).trans (gr3 f3 hpF)).trans g4
    · intro Ga σ Hs inv
      obtain ⟨G', cc, R, E1, E2, s1, W, ok, hcc, ⟨ek, eh, es, em⟩, l, gB⟩ := inv.ex
      rw [len3] at ok hcc
      obtain ⟨v0, u0, hv0⟩ := l.ob 0 _ rfl
      have hv0 : v0 = .ref p := hv0
      subst hv0
      obtain ⟨v7, u7, hv7⟩ := l.ob 7 _ rfl
      have hv7 : v7 = .ref ca := hv7
      subst hv7
      obtain ⟨v8, u8, hv8⟩ := l.ob 8 _ rfl
      have hv8 : v8 = .ref a := hv8
      subst hv8
      obtain ⟨v2, u2, hv2⟩ := l.dat 2 _ rfl
      cases hv2
      refine ⟨_, u0, _, u7, _, u8, G', p, cc, R, 3, .ref ca, .ref a, rfl, W.gh, W.b, by omega, W.co.read, W.r.read, ok, by omega, fun G3 H3 f3 b3 => ⟨true, rfl, ?_⟩⟩
      rw [if_pos rfl]
      have W3' := W.bag f3 b3
      have gF : GrF (only p) G H (only p) G3 H3 := (gB.weak fun x z => .inl z).trans f3
      have bF : BagAt p (c + 50) G3 H3 := b3.mono (by omega)
      refine ⟨_, u2, b, rfl, !b, rfl, ?_⟩
      cases b with
      | true =>
        simp only [Bool.not_true, Bool.false_eq_true, if_false]
        have h30 := hbm rfl
        have s16 := hM1.2.2 rfl
        exact ⟨_, u7, _, u8, G3, R, 3, .ref ca, .ref a, rfl, f3.gh, W3'.co.read, W3'.r.read, ok, by omega, by rw [eh]; omega, by rw [es]; omega, fun G4 H4 g4 => q G4 H4 (gF.trans (GrF.pure g4)) (bF.pure g4)⟩
      | false =>
        simp only [Bool.not_false, if_true]
        exact q G3 H3 gF bF
end
end
end
end
section
set_option exponentiation.threshold 5000
section
open PySem L2
section
def spLaw (K : PySem.W.Frag) : Sp := fun vs H Q _ => ∃ G v ns, vs = [v] ∧ Same G H ∧ Dp K G v (LI ns) ∧ ∀ G' H', Gr G H G' H' → Q (.bl true) H'
section
variable {P : Program} {w : World} {K : PySem.W.Frag} {mg : Str → Option Value} {base : Heap}
theorem right_run {most : Int} {b : Bool} {G H : Hp} {p : Addr} {c : Int} {σ : L2.St} {Q : VK} (u3 : σ[3]? = some (some (.ref p))) (gh : Same G H) (hb : BagAt p c G H) (hc : c ≤ 70000) (m1 : 1 ≤ most) (m2 : most ≤ 100) (hbm : b = true → most ≤ 30)
    (q : ∀ G' H', GrF (only p) G H (only p) G' H' → BagAt p (c + 50) G' H' → Q (.bl true) H') : tCall (spLR K) [] E0 (tCons (tVar 3) (tCons (tC (.int most)) (tCons (tC (.bl b)) tNil))) σ H Q :=
  ⟨_, u3, G, p, c, most, b, rfl, gh, hb, hc, m1, m2, hbm, q⟩
theorem last_run {D : Ends} {G H : Hp} {p : Addr} {c k : Int} {σ : L2.St} (u1 : σ[1]? = some (some (.int k))) (u3 : σ[3]? = some (some (.ref p))) (gh : Same G H) (hb : BagAt p c G H) (hc : c ≤ 70000)
    (q : ∀ G' H', GrF (only p) G H (only p) G' H' → D.nx σ H') : tIfS (tAnd (tTest (tOp rEq (tVar 1) (tC (.int 0)))) (tNot (tB (tCall (spLR K) [] E0 (tCons (tVar 3) (tCons (tC (.int 30)) (tCons (tC (.bl true)) tNil))))))) (tRet (tC (.bl false))) (fun D σ H => D.nx σ H) D σ H := by
  refine ⟨_, u1, rfl, _, rfl, ?_⟩
  dsimp only
  by_cases hk : V.int k = V.int 0
  · rw [if_pos (decide_eq_true hk)]
    refine right_run u3 gh hb hc (by omega) (by omega) (fun _ => by omega) fun G4 H4 f4 b4 => ⟨true, rfl, ?_⟩
    simp only [Bool.not_true, Bool.false_eq_true, if_false]
    exact q G4 H4 f4
  · rw [if_neg (fun z => hk (of_decide_eq_true z)), if_neg Bool.false_ne_true]
    exact q G H (GrF.pure (Gr.refl gh))
theorem ok_law {f : Addr} {fd : FuncData} (B : Bt w K mg) (F : FunD K "law" "law" (defArgs s_law) (defBody s_law) (defScope s_law) [] [] f fd)
    (C_law_bag : Cal P w K mg base "_law_bag" 1 ["_law_cell"] spBag) (C_law_right : Cal P w K mg base "_law_right" 18 ["_law_bag_here", "_law_most", "_law_is_summed"] (spLR K)) :
    FnOk P w K mg base CX0 19 f fd ["_law_script"] (spLaw K) := by
  refine mk_raw F sc_law (fun vs H Q E h => ?_) ⟨_, fun cdv A outer s H E f hr => (pss_cons (ps_for PassesOwn.never rfl (pi_enumK K (by rfl) B.enumerate (pa_cons (pe_op op_cat (pe_slice (sl_listK K) (pv 0) po_none (po_some pe_int)) (pe_lst (pa_cons pe_int pa_nil))) pa_nil)) (pg_tupK (n := 2) K rfl (pgs_cons (pg_name (i := 1) sc_law.nd rfl (Or.inl rfl)) (pgs_cons (pg_name (i := 2) sc_law.nd rfl (Or.inl rfl)) pgs_nil))) (pss_cons (ps_set (i := 3) sc_law.nd rfl (Or.inl rfl) (pe_callC C_law_bag hr (by rfl) (pa_cons (pv 2) pa_nil)))
    (pss_cons (ps_if (PW.pt (pw_or (pt_not (pt_val (pe_callC C_law_right hr (by rfl) (pa_cons (pv 3) (pa_cons pe_int (pa_cons pe_bl pa_nil)))))) (pw_or1 (PW.pt (pw_and (pt_cmpR op_lt (pv 1) pe_int (nomark _)) (pw_and1 (pt_not (pt_val (pe_callC C_law_right hr (by rfl) (pa_cons (pv 3) (pa_cons pe_int (pa_cons pe_bl pa_nil)))))))))))) (pss_one (ps_ret pe_bl)) pss_nil)
    (pss_one (ps_if (PW.pt (pw_and (pt_cmpR op_eq (pv 1) pe_int (nomark _)) (pw_and1 (pt_not (pt_val (pe_callC C_law_right hr (by rfl) (pa_cons (pv 3) (pa_cons pe_int (pa_cons pe_bl pa_nil))))))))) (pss_one (ps_ret pe_bl)) pss_nil)))))
    (pss_one (ps_ret pe_bl)))
    , ?_⟩
  · obtain ⟨_, _, _, rfl, _⟩ := h
    rfl
  rintro vs H Q E ⟨G, v, ns, rfl, gh, dv, q⟩
  have l0 : QL K G [.dat (LI ns), .un, .un, .un] (L2.start n_law [v]) H := ql_ent (N := n_law) gh (.cons dv .nil)
  have evs : EvA K (tCons (tOp rCat (tSl (rSlL K) (tVar 0) tNoPart (tPart (tC (V.int 3)))) (tLst (tCons (tC (V.int 0)) tNil))) tNil) [.dat (LI ns), .un, .un, .un] [.list (cutA (ns.map .int) none (some 3) ++ [.int 0])] := ea_cons (ev_new (evn_cat (evn_slL (ds := ns.map .int) (ev_var rfl) eo_none (eo_some ev_int)) (evn_lst (ea_cons ev_int ea_nil) (by decide : 1 ≤ 100000)) (by
    have : (cutA (ns.map PyData.int) none (some 3)).length ≤ 3 := by
      unfold cutA
      rw [List.length_take]
      refine Nat.le_trans (Nat.min_le_left _ _) ?_
      refine Nat.le_trans (Nat.sub_le _ _) ?_
      show (if (3 : Int) < 0 then ((3 : Int) + (ns.map PyData.int).length).toNat else min (3 : Int).toNat (ns.map PyData.int).length) ≤ 3
      rw [if_neg (by decide)]
      exact Nat.min_le_left _ _
    show _ + 1 ≤ 100000
    omega))) ea_nil
  have ecut : cutA (ns.map PyData.int) none (some 3) ++ [.int 0] = (cutA ns none (some 3) ++ [0]).map PyData.int := by
    unfold cutA
    rw [List.map_append, List.map_take, List.map_drop, List.length_map]
    rfl
  rw [ecut] at evs
  generalize cutA ns none (some 3) ++ [0] = ms at evs
  unfold tNext
  refine for_run (items := (enI 0 ms).map prD) (it_enumI evs) l0 (fun G1 _ σ Hs => ∃ G', Same G1 G' ∧ QL K G' [.dat (LI ns), .un, .un, .un] σ Hs ∧ Gr G H G' Hs) ?_ ?_ ?_ ?_
  · exact fun Ga Ha ga => ⟨Ga, Same.refl _, l0.gr ga, ga⟩
  · exact fun Ga i σ Hs ⟨G', s1, l, g⟩ => ⟨G', s1, g.gh⟩
  · rintro Ga i σ Hs x H' d hdi ⟨G', s1, l, g⟩ yd
    obtain ⟨Gt, gt, dx⟩ := yd.gr s1 g.gh
    rw [List.getElem?_map] at hdi
    obtain ⟨⟨k, n⟩, _, rfl⟩ := Option.map_eq_some_iff.mp hdi
    have lt := l.gr gt
    refine (gd_tup (gds_cons gd_name (gds_cons gd_name gds_nil)) rfl).run Gt σ H' x lt dx _ fun σ2 l2 _ => ?_
    obtain ⟨v2, u2, d2⟩ := l2.dat 2 _ rfl
    cases d2
    refine ⟨_, u2, n, rfl, fun p a b hp ha => ?_⟩
    have bag : BagAt p 0 Gt (upd H' p (.lst [.int a, .int b, .int 0])) := ⟨gt.gh.free hp, a, b, 0, upd_same, ha, Int.le_refl _, Int.le_refl _⟩
    have gn : Gr Gt H' Gt (upd H' p (.lst [.int a, .int b, .int 0])) := Gr.newH gt.gh hp
    have l3 : QL K Gt [.dat (LI ns), .dat (.int k), .dat (.int n), .ob (atP (.ref p))] (σ2.set 3 (some (.ref p))) (upd H' p (.lst [.int a, .int b, .int 0])) := (l2.gr gn).setB (i := 3) (o := atP (.ref p)) (v := .ref p) rfl
    generalize hH3 : upd H' p (.lst [.int a, .int b, .int 0]) = H3 at *
    have hσ : ∃ σ3 : L2.St, σ3 = σ2.set 3 (some (.ref p)) := ⟨_, rfl⟩
    obtain ⟨σ3, hσ⟩ := hσ
    rw [← hσ] at l3
    unfold gName
    dsimp only
    rw [← hσ]
    clear hσ
    have fixl : Fix [.dat (LI ns), .dat (.int k), .dat (.int n), .ob (atP (.ref p))] := fix_dat (fix_dat (fix_dat (fix_at fix_nil)))
    have nol : ∀ (i : Nat) (es : List PyData), ([.dat (LI ns), .dat (.int k), .dat (.int n), .ob (atP (.ref p))] : List QV)[i]? ≠ some (.own es) := cons_noown (fun _ z => by cases z) (cons_noown (fun _ z => by cases z) (cons_noown (fun _ z => by cases z) (cons_noown (fun _ z => by cases z) fun i es z => by cases z)))
    have gt' : Same Gt H3 := gn.gh
    obtain ⟨v1, u1, d1⟩ := l3.dat 1 _ rfl
    cases d1
    obtain ⟨v3, u3, d3⟩ := l3.ob 3 _ rfl
    have d3 : v3 = .ref p := d3
    subst d3
    have fin : ∀ G5 H5, GrF (only p) Gt H3 (only p) G5 H5 → ∃ G', Same Ga G' ∧ QL K G' [.dat (LI ns), .un, .un, .un] σ3 H5 ∧ Gr G H G' H5 := fun G5 H5 f => by
      refine ⟨G5, (s1.trans gt.gg).trans f.gg, (((ql_grO l3 nol f (fun i o v e q => fixl i o v _ _ _ _ e q)).fgt1 (i := 1)).fgt1 (i := 2)).fgt1 (i := 3), ?_⟩
      refine g.trans (gt.trans ⟨f.gg, fun x o hx => ?_, f.gh, fun x o hx => ?_⟩)
      · have np : x ≠ p := ne_of_none hx hp
        exact (f.fr x o (gn.hh x o hx) np).1
      · have np : x ≠ p := ne_of_none hx hp
        exact (f.fr x o (gn.hh x o hx) np).2.2
    refine right_run u3 gt' bag (by omega) (by omega) (by omega) (fun _ => by omega) fun G4 H4 f4 b4 => ⟨true, rfl, ?_⟩
    simp only [Bool.not_true, Bool.false_eq_true, if_false]
    refine ⟨_, u1, _, _, rfl, rfl, _, rfl, ?_⟩
    dsimp only
    by_cases hk : k < 2
    · rw [if_pos (decide_eq_true hk)]
      refine right_run u3 f4.gh b4 (by omega) (by omega) (by omega) (fun z => Bool.noConfusion z) fun G5 H5 f5 b5 => ⟨true, rfl, ?_⟩
      simp only [Bool.not_true, Bool.false_eq_true, if_false]
      exact last_run u1 u3 f5.gh b5 (by omega) fun G6 H6 f6 => fin G6 H6 ((f4.trans f5).trans f6)
    · rw [if_neg (fun z => hk (of_decide_eq_true z)), if_neg Bool.false_ne_true]
      exact last_run u1 u3 f4.gh b4 (by omega) fun G6 H6 f6 => fin G6 H6 (f4.trans f6)
  · rintro Ga σ Hs ⟨G', s1, l, g⟩
    exact q G' Hs g
end
end
end
end
end Q46
namespace Q46
open PySem L2
structure Dz (K : PySem.W.Frag) (mg : Str → Option Value) (O : Bo K) : Prop where
  z_is_int : Df K mg "is_int" "is_int" s_is_int
  z_is_whole : Df K mg "is_whole" "is_whole" s_is_whole
  z_is_node : Df K mg "is_node" "is_node" s_is_node
  z_require_kind : Df K mg "require_kind" "require_kind" s_require_kind
  z_require_height : Df K mg "require_height" "require_height" s_require_height
  z_require_node : Df K mg "require_node" "require_node" s_require_node
  z_require_place : Df K mg "require_place" "require_place" s_require_place
  z_require_span : Df K mg "require_span" "require_span" s_require_span
  z_require_size : Df K mg "require_size" "require_size" s_require_size
  z_require_shift : Df K mg "require_shift" "require_shift" s_require_shift
  z_cut_levels : Df K mg "cut_levels" "cut_levels" s_cut_levels
  z_plain_sums : Df K mg "plain_sums" "plain_sums" s_plain_sums
  z_sums_of : Df K mg "sums_of" "sums_of" s_sums_of
  z_spot_of : Df K mg "spot_of" "spot_of" s_spot_of
  z_node_there : Df K mg "node_there" "node_there" s_node_there
  z_require_tree_orders : Df K mg "require_tree_orders" "require_tree" s_require_tree_orders
  z_require_tree_ways : Df K mg "require_tree_ways" "require_tree" s_require_tree_ways
  z_place_of : Df K mg "place_of" "place_of" s_place_of
  z_node_at : Df K mg "node_at" "node_at" s_node_at
  z_cut_trees : Df K mg "cut_trees" "cut_trees" s_cut_trees
  z_cut_gap : Df K mg "cut_gap" "cut_gap" s_cut_gap
  z_gaps : Df K mg "gaps" "gaps" s_gaps
  z_distance_sum : Df K mg "distance_sum" "distance_sum" s_distance_sum
  z_count_near : Df K mg "count_near" "count_near" s_count_near
  z_require_pages : Df K mg "require_pages" "require_pages" s_require_pages
  z_moved_table : Df K mg "moved_table" "moved_table" s_moved_table
  z_stepped_table : Df K mg "stepped_table" "stepped_table" s_stepped_table
  z_table_at : Df K mg "table_at" "table_at" s_table_at
  z_count_rests : Df K mg "count_rests" "count_rests" s_count_rests
  z_new_in_levels : Df K mg "new_in_levels" "new_in_levels" s_new_in_levels
  z_new_in_inorder : Df K mg "new_in_inorder" "new_in_inorder" s_new_in_inorder
  z_new_by_parents : Df K mg "new_by_parents" "new_by_parents" s_new_by_parents
  z_spread_table : Df K mg "spread_table" "spread_table" s_spread_table
  z_old_in_cut : Df K mg "old_in_cut" "old_in_cut" s_old_in_cut
  z_common_divisor : Df K mg "common_divisor" "common_divisor" s_common_divisor
  z_new_in_cut : Df K mg "new_in_cut" "new_in_cut" s_new_in_cut
  z_new_pages : Df K mg "new_pages" "new_pages" s_new_pages
  z_leaf_page_sum : Df K mg "leaf_page_sum" "leaf_page_sum" s_leaf_page_sum
  z_page_sum : Df K mg "page_sum" "page_sum" s_page_sum
  z_page_mean : Df K mg "page_mean" "page_mean" s_page_mean
  z_best_kinds : Df K mg "best_kinds" "best_kinds" s_best_kinds
  z_level_runs : Df K mg "level_runs" "level_runs" s_level_runs
  z_cut_runs : Df K mg "cut_runs" "cut_runs" s_cut_runs
  z_straight_run : Df K mg "straight_run" "straight_run" s_straight_run
  z_runs : Df K mg "runs" "runs" s_runs
  z_count_ahead : Df K mg "count_ahead" "count_ahead" s_count_ahead
  z_depth_counts : Df K mg "depth_counts" "depth_counts" s_depth_counts
  z_node_text : Df K mg "node_text" "node_text" s_node_text
  z_law_word : Df K mg "_law_word" "_law_word" s_law_word
  z_show_node : Df K mg "show_node" "show_node" s_show_node
  z_node_in : Df K mg "node_in" "node_in" s_node_in
  z_number_in : Df K mg "number_in" "number_in" s_number_in
  z_value_in : Df K mg "value_in" "value_in" s_value_in
  z_values_behind : Df K mg "values_behind" "values_behind" s_values_behind
  z_law_pairs : Df K mg "_law_pairs" "_law_pairs" s_law_pairs
  z_law_kinds : Df K mg "_law_kinds" "_law_kinds" s_law_kinds
  z_law_bag : Df K mg "_law_bag" "_law_bag" s_law_bag
  z_law_pick : Df K mg "_law_pick" "_law_pick" s_law_pick
  z_law_node : Df K mg "_law_node" "_law_node" s_law_node
  z_law_answers_right : Df K mg "_law_answers_right" "_law_answers_right" s_law_answers_right
  z_law_sums_right : Df K mg "_law_sums_right" "_law_sums_right" s_law_sums_right
  z_law_changed : Df K mg "_law_changed" "_law_changed" s_law_changed
  z_law_right : Df K mg "_law_right" "_law_right" s_law_right
  p_kind : DfP K O.cR "kind" "Reader.kind" s_Reader_kind
  p_height : DfP K O.cR "height" "Reader.height" s_Reader_height
  p_size : DfP K O.cR "size" "Reader.size" s_Reader_size
  p_shift : DfP K O.cR "shift" "Reader.shift" s_Reader_shift
  p_page : DfP K O.cR "page" "Reader.page" s_Reader_page
  p_spent : DfP K O.cR "spent" "Reader.spent" s_Reader_spent
  m_behind : DfM K O.cR "behind" "Reader.behind" s_Reader_behind
  m_perform : DfM K O.cR "perform" "Reader.perform" s_Reader_perform
  m_search : DfM K O.cR "search" "Reader.search" s_Reader_search
  m_drop : DfM K O.cR "drop" "Reader.drop" s_Reader_drop
  m_undo : DfM K O.cR "undo" "Reader.undo" s_Reader_undo
  m_log : DfM K O.cR "log" "Reader.log" s_Reader_log
  m_execute : DfM K O.cC "execute" "Console.execute" s_Console_execute
  m_change : DfM K O.cC "change" "Console.change" s_Console_change
  m_answer : DfM K O.cC "answer" "Console.answer" s_Console_answer
  i_Reader : DfC K mg "Reader" O.cR "__init__" "Reader.__init__" s_Reader_init
  i_Console : DfC K mg "Console" O.cC "__init__" "Console.__init__" s_Console_init
theorem chain {P : Program} {w : World} {K : PySem.W.Frag} {mg : Str → Option Value} {base : Heap} {f : Addr} {fd : FuncData} (B : Bt w K mg) (O : Bo K) (Z : Dz K mg O) (F : FunD K "law" "law" (defArgs s_law) (defBody s_law) (defScope s_law) [] [] f fd) :
    FnOk P w K mg base CX0 19 f fd ["_law_script"] (spLaw K) := by
  have h_is_int : F_is_int P w K mg base := ok_is_int B Z.z_is_int 
  have h_is_whole : F_is_whole P w K mg base := ok_is_whole B Z.z_is_whole h_is_int
  have h_is_node : F_is_node P w K mg base := ok_is_node B Z.z_is_node h_is_whole
  have h_require_kind : F_require_kind P w K mg base := ok_require_kind B Z.z_require_kind 
  have h_require_height : F_require_height P w K mg base := ok_require_height B Z.z_require_height h_is_whole
  have h_require_node : F_require_node P w K mg base := ok_require_node B Z.z_require_node h_is_node
  have h_require_place : F_require_place P w K mg base := ok_require_place B Z.z_require_place h_is_whole
  have h_require_span : F_require_span P w K mg base := ok_require_span B Z.z_require_span h_is_whole
  have h_require_size : F_require_size P w K mg base := ok_require_size B Z.z_require_size h_is_whole
  have h_require_shift : F_require_shift P w K mg base := ok_require_shift B Z.z_require_shift h_is_whole
  have h_cut_levels : F_cut_levels P w K mg base := ok_cut_levels B Z.z_cut_levels 
  have h_plain_sums : F_plain_sums P w K mg base := ok_plain_sums B Z.z_plain_sums 
  have h_sums_of : F_sums_of P w K mg base := ok_sums_of B Z.z_sums_of h_plain_sums h_cut_levels
  have h_spot_of : F_spot_of P w K mg base := ok_spot_of B Z.z_spot_of h_sums_of
  have h_node_there : F_node_there P w K mg base := ok_node_there B Z.z_node_there h_sums_of
  have h_require_tree_orders : F_require_tree_orders P w K mg base := ok_require_tree_orders B Z.z_require_tree_orders h_require_kind h_require_height
  have h_require_tree_ways : F_require_tree_ways P w K mg base := ok_require_tree_ways B Z.z_require_tree_ways h_require_kind h_require_height
  have h_place_of : F_place_of P w K mg base := ok_place_of B Z.z_place_of h_require_tree_orders h_require_node h_spot_of
  have h_node_at : F_node_at P w K mg base := ok_node_at B Z.z_node_at h_require_tree_orders h_require_place h_node_there
  have h_cut_trees : F_cut_trees P w K mg base := ok_cut_trees B Z.z_cut_trees h_cut_levels
  have h_cut_gap : F_cut_gap P w K mg base := ok_cut_gap B Z.z_cut_gap h_sums_of
  have h_gaps : F_gaps P w K mg base := ok_gaps B Z.z_gaps h_cut_trees h_cut_gap
  have h_distance_sum : F_distance_sum P w K mg base := ok_distance_sum B Z.z_distance_sum h_require_tree_ways h_gaps
  have h_count_near : F_count_near P w K mg base := ok_count_near B Z.z_count_near 
  have h_require_pages : F_require_pages P w K mg base := ok_require_pages B Z.z_require_pages h_require_kind h_require_height h_require_size h_require_shift
  have h_moved_table : F_moved_table P w K mg base := ok_moved_table B Z.z_moved_table 
  have h_stepped_table : F_stepped_table P w K mg base := ok_stepped_table B Z.z_stepped_table h_moved_table
  have h_table_at : F_table_at P w K mg base := ok_table_at B Z.z_table_at 
  have h_count_rests : F_count_rests P w K mg base := ok_count_rests B Z.z_count_rests 
  have h_new_in_levels : F_new_in_levels P w K mg base := ok_new_in_levels B Z.z_new_in_levels 
  have h_new_in_inorder : F_new_in_inorder P w K mg base := ok_new_in_inorder B Z.z_new_in_inorder h_table_at h_stepped_table h_moved_table h_count_rests
  have h_new_by_parents : F_new_by_parents P w K mg base := ok_new_by_parents B Z.z_new_by_parents h_table_at h_sums_of h_moved_table h_count_rests h_stepped_table
  have h_spread_table : F_spread_table P w K mg base := ok_spread_table B Z.z_spread_table 
  have h_old_in_cut : F_old_in_cut P w K mg base := ok_old_in_cut B Z.z_old_in_cut h_cut_gap h_count_near h_spot_of
  have h_common_divisor : F_common_divisor P w K mg base := ok_common_divisor B Z.z_common_divisor 
  have h_new_in_cut : F_new_in_cut P w K mg base := ok_new_in_cut B Z.z_new_in_cut h_cut_levels h_spread_table h_moved_table h_old_in_cut
  have h_new_pages : F_new_pages P w K mg base := ok_new_pages B Z.z_new_pages h_require_pages h_new_in_cut h_table_at h_new_in_levels h_new_in_inorder h_new_by_parents
  have h_leaf_page_sum : F_leaf_page_sum P w K mg base := ok_leaf_page_sum B Z.z_leaf_page_sum h_new_pages
  have h_page_sum : F_page_sum P w K mg base := ok_page_sum B Z.z_page_sum h_new_pages
  have h_page_mean : F_page_mean P w K mg base := ok_page_mean B Z.z_page_mean h_page_sum h_common_divisor
  have h_best_kinds : F_best_kinds P w K mg base := ok_best_kinds B Z.z_best_kinds h_require_pages h_page_sum
  have h_level_runs : F_level_runs P w K mg base := ok_level_runs B Z.z_level_runs 
  have h_cut_runs : F_cut_runs P w K mg base := ok_cut_runs B Z.z_cut_runs h_cut_levels
  have h_straight_run : F_straight_run P w K mg base := ok_straight_run B Z.z_straight_run h_spot_of
  have h_runs : F_runs P w K mg base := ok_runs B Z.z_runs h_require_kind h_require_height h_require_node h_level_runs h_cut_runs h_straight_run
  have h_count_ahead : F_count_ahead P w K mg base := ok_count_ahead B Z.z_count_ahead h_sums_of
  have h_depth_counts : F_depth_counts P w K mg base := ok_depth_counts B Z.z_depth_counts h_require_kind h_require_height h_require_span h_count_ahead
  have h_node_text : F_node_text P w K mg base := ok_node_text B Z.z_node_text 
  have h_law_word : F_law_word P w K mg base := ok_law_word B Z.z_law_word 
  have h_show_node : F_show_node P w K mg base := ok_show_node B Z.z_show_node h_require_node h_node_text
  have h_node_in : F_node_in P w K mg base := ok_node_in B Z.z_node_in 
  have h_number_in : F_number_in P w K mg base := ok_number_in B Z.z_number_in 
  have h_value_in : F_value_in P w K mg base := ok_value_in B Z.z_value_in h_number_in h_node_in
  have h_values_behind : F_values_behind P w K mg base := ok_values_behind B Z.z_values_behind h_value_in
  have h_law_pairs : F_law_pairs P w K mg base := ok_law_pairs B Z.z_law_pairs 
  have h_law_kinds : F_law_kinds P w K mg base := ok_law_kinds B Z.z_law_kinds 
  obtain ⟨sf, hsf, C_spot_of⟩ := id h_spot_of
  obtain ⟨f_pl, q_pl, c_pl⟩ := id h_place_of
  obtain ⟨f_no, q_no, c_no⟩ := id h_node_at
  obtain ⟨f_ru, q_ru, c_ru⟩ := id h_runs
  obtain ⟨f_de, q_de, c_de⟩ := id h_depth_counts
  obtain ⟨f_di, q_di, c_di⟩ := id h_distance_sum
  obtain ⟨f_le, q_le, c_le⟩ := id h_leaf_page_sum
  obtain ⟨f_su, q_su, c_su⟩ := id h_page_sum
  obtain ⟨f_me, q_me, c_me⟩ := id h_page_mean
  obtain ⟨f_be, q_be, c_be⟩ := id h_best_kinds
  have c : AFc P w K mg base ⟨f_pl, f_no, f_ru, f_de, f_di, f_le, f_su, f_me, f_be⟩ := ⟨c_pl, c_no, c_ru, c_de, c_di, c_le, c_su, c_me, c_be, q_pl, q_no, q_ru, q_de, q_di, q_le, q_su, q_me, q_be⟩
  have P_kind := ok_kind (P := P) (w := w) (mg := mg) (base := base) Z.p_kind
  have P_height := ok_height (P := P) (w := w) (mg := mg) (base := base) Z.p_height
  have P_size := ok_size (P := P) (w := w) (mg := mg) (base := base) Z.p_size
  have P_shift := ok_shift (P := P) (w := w) (mg := mg) (base := base) Z.p_shift
  have P_page := ok_page (P := P) (w := w) (mg := mg) (base := base) Z.p_page
  have P_spent := ok_spent (P := P) (w := w) (mg := mg) (base := base) Z.p_spent
  have M_behind := ok_behind B Z.m_behind h_require_node hsf C_spot_of
  have M_perform := ok_perform B Z.m_perform M_behind
  have M_search := ok_search B Z.m_search M_perform
  have M_drop := ok_drop B Z.m_drop M_perform
  have M_undo := ok_undo (P := P) (base := base) B Z.m_undo
  have M_log := ok_log (P := P) (base := base) B Z.m_log
  have M_Reader := ok_init B Z.i_Reader h_require_kind h_require_height h_require_size h_require_shift
  have M_answer := ok_answer B Z.m_answer c h_node_text P_kind P_height P_size P_shift P_page P_spent
  have M_Console := ok_cinit B Z.i_Console M_Reader
  have M_change := ok_change B Z.m_change M_Reader M_search M_drop M_undo
  have M_execute := ok_execute B Z.m_execute h_values_behind M_change M_answer
  have C_bag := ok_bag (P := P) (base := base) B Z.z_law_bag
  have C_pick := ok_pick (P := P) (base := base) B Z.z_law_pick
  have C_node := ok_node B Z.z_law_node C_pick
  have C_answers := ok_answers B Z.z_law_answers_right c h_show_node h_law_pairs C_pick C_node M_execute P_kind P_height P_page P_spent
  have C_sums := ok_sums B Z.z_law_sums_right c M_execute P_kind P_height P_size P_shift
  have C_changed := ok_lc B Z.z_law_changed hsf h_law_word C_pick C_node M_execute M_search M_drop M_undo M_log P_height
  have C_right := ok_lr B Z.z_law_right h_law_kinds C_pick M_Console M_Reader M_execute C_answers C_changed C_sums
  exact ok_law B F C_bag C_right
end Q46
namespace Q46
open PySem L2
theorem fun_at {K : PySem.W.Frag} {a : Addr} {m q : Str} {st : Stmt} (kp : PySem.W.keepIn K (.ref a) = true) (e : fnT K a = some (m, q, defArgs st, .stmts (defBody st), defScope st, mainGlobals, [], builtinsNs)) (c : fnB K a q = true) :
    ∃ fd, FunD K m q (defArgs st) (defBody st) (defScope st) [] [] a fd := by
  unfold fnB at c
  unfold fnT at e
  cases l : K.lookup a with
  | none => rw [l] at c; cases c
  | some ob =>
    obtain ⟨oc, od, dt, osl⟩ := ob
    rw [l] at c e
    cases dt with
    | func d =>
      obtain ⟨d1, d2, d3, d4, d5, d6, d7, d8, d9, d10, d11, d12, d13, d14, d15⟩ := d
      have e' := Option.some.inj (show some (d1, d2, d3, d4, d5, d6, d7, d15) = some (m, q, defArgs st, FuncBody.stmts (defBody st), defScope st, mainGlobals, ([] : List (Str × Addr)), builtinsNs) from e)
      injection e' with e1 e'
      injection e' with e2 e'
      injection e' with e3 e'
      injection e' with e4 e'
      injection e' with e5 e'
      injection e' with e6 e'
      injection e' with e7 e8
      subst e1 e2 e3 e4 e5 e6 e7 e8
      obtain ⟨c1, c2⟩ := He.ba (show (PySem.W.codeIn K d13 d2 && (He.dflB K d8 [] && He.kwdB K d9 [])) = true from c)
      obtain ⟨c3, c4⟩ := He.ba c2
      exact ⟨_, ⟨oc, od, d8, d9, d10, d11, d12, d13, d14, osl, rfl, l, c1, He.dflB_ok c3, He.kwdB_ok c4⟩, kp⟩
    | _ => cases c
theorem prB_ok {K : PySem.W.Frag} {C : Addr} {m q : Str} {st : Stmt} (h : prB K C m q = true) (e : fnT K (gOf K C m) = some (m, q, defArgs st, .stmts (defBody st), defScope st, mainGlobals, [], builtinsNs)) : DfP K C m q st := by
  obtain ⟨h1, h⟩ := He.ba h
  obtain ⟨h2, h⟩ := He.ba h
  obtain ⟨h3, h⟩ := He.ba h
  obtain ⟨h4, h⟩ := He.ba h
  obtain ⟨h5, h6⟩ := He.ba h
  obtain ⟨fd, F⟩ := fun_at (st := st) h5 e h6
  refine ⟨He.ma K C m, gOf K C m, fd, F, He.eqO_ok h1, He.eqO_ok h2, of_decide_eq_true h3, ?_⟩
  unfold gOf
  cases l : PySem.W.recIn K (He.ma K C m) "property" with
  | none => rw [l] at h4; cases h4
  | some vs =>
    rw [l] at h4
    cases vs with
    | nil => cases h4
    | cons v rest =>
      cases v with
      | ref g => exact ⟨rest, rfl⟩
      | _ => cases h4
theorem df_of {K : PySem.W.Frag} {mg : Str → Option Value} {x nm : Str} {st : Stmt} (h : ∃ fd, FunD K nm nm (defArgs st) (defBody st) (defScope st) [] [] (He.ga K x) fd) (e : mg x = some (.ref (He.ga K x))) : Df K mg x nm st := by
  obtain ⟨fd, F⟩ := h
  exact ⟨_, fd, F, e⟩
theorem dm_of {K : PySem.W.Frag} {C : Addr} {m q : Str} {st : Stmt} (h : ∃ fd, FunD K m q (defArgs st) (defBody st) (defScope st) [] [] (He.ma K C m) fd) (e : Meth K C m (He.ma K C m)) : DfM K C m q st := by
  obtain ⟨fd, F⟩ := h
  exact ⟨_, fd, F, e⟩
theorem dc_of {K : PySem.W.Frag} {mg : Str → Option Value} {x q : Str} {st : Stmt} {C : Addr} (h : ∃ fd, FunD K "__init__" q (defArgs st) (defBody st) (defScope st) [] [] (He.ma K C "__init__") fd) (e : mg x = some (.ref C)) (k : Mk K C (He.ma K C "__init__")) : DfC K mg x C "__init__" q st := by
  obtain ⟨fd, F⟩ := h
  exact ⟨_, fd, F, e, k⟩
theorem tup_txt {K : PySem.W.Frag} {H : Hp} {a : Addr} {xs : List Str} (h : SqT K H a ((xs.map He.Dv.str).map (He.Dv.v K))) : SqT K H a (xs.map V.str) := by
  rw [List.map_map] at h
  exact h
theorem facts {P : Program} {w : World} {K : PySem.W.Frag} {h : Heap} {mg : Str → Option Value} {f : Addr} (X : K.In h) (G : h.Ns mainGlobals mg) (hfl : mg ("law" : Str) = some (.ref f)) (c : obK K = valQ w) :
    ∃ fd : FuncData, (∀ (s : Shared) (v : Value), BindsTo s fd ⟨[v], []⟩ [("_law_script", v)]) ∧ ∀ base : Heap, FnOk P w K mg base CX0 19 f fd ["_law_script"] (spLaw K) := by
  have ct : He.SaysT hfa hfn hts w K := congrArg (fun z : AlQ => z.1) c
  have cd : He.SaysD hfa hfn K := ct.d
  have ce : hex K = true := congrArg (fun z : AlQ => z.2.1) c
  have cf : (hps.map fun p => fnT K (gOf K (He.ga K "Reader") p.1)) = hps.map fun p => some (p.1, p.2.1, defArgs p.2.2, .stmts (defBody p.2.2), defScope p.2.2, mainGlobals, [], builtinsNs) := congrArg (fun z : AlQ => z.2.2) c
  obtain ⟨e1, ce⟩ := He.ba ce
  obtain ⟨e2, ce⟩ := He.ba ce
  obtain ⟨e3, ce⟩ := He.ba ce
  obtain ⟨e4, ce⟩ := He.ba ce
  have hp : ∀ p ∈ hps, DfP K (He.ga K "Reader") p.1 p.2.1 p.2.2 := fun p q => prB_ok (List.all_eq_true.mp ce p q) ((List.map_inj_left.mp cf) p q)
  have g_is_int := He.glo_ok X G (cd.fact 0 (f := .glo "is_int") rfl)
  have g_is_whole := He.glo_ok X G (cd.fact 1 (f := .glo "is_whole") rfl)
  have g_is_node := He.glo_ok X G (cd.fact 2 (f := .glo "is_node") rfl)
  have g_require_kind := He.glo_ok X G (cd.fact 3 (f := .glo "require_kind") rfl)
  have g_require_height := He.glo_ok X G (cd.fact 4 (f := .glo "require_height") rfl)
  have g_require_node := He.glo_ok X G (cd.fact 5 (f := .glo "require_node") rfl)
  have g_require_place := He.glo_ok X G (cd.fact 6 (f := .glo "require_place") rfl)
  have g_require_span := He.glo_ok X G (cd.fact 7 (f := .glo "require_span") rfl)
  have g_require_size := He.glo_ok X G (cd.fact 8 (f := .glo "require_size") rfl)
  have g_require_shift := He.glo_ok X G (cd.fact 9 (f := .glo "require_shift") rfl)
  have g_cut_levels := He.glo_ok X G (cd.fact 10 (f := .glo "cut_levels") rfl)
  have g_plain_sums := He.glo_ok X G (cd.fact 11 (f := .glo "plain_sums") rfl)
  have g_sums_of := He.glo_ok X G (cd.fact 12 (f := .glo "sums_of") rfl)
  have g_spot_of := He.glo_ok X G (cd.fact 13 (f := .glo "spot_of") rfl)
  have g_node_there := He.glo_ok X G (cd.fact 14 (f := .glo "node_there") rfl)
  have g_require_tree_orders := He.glo_ok X G (cd.fact 15 (f := .glo "require_tree_orders") rfl)
  have g_require_tree_ways := He.glo_ok X G (cd.fact 16 (f := .glo "require_tree_ways") rfl)
  have g_place_of := He.glo_ok X G (cd.fact 17 (f := .glo "place_of") rfl)
  have g_node_at := He.glo_ok X G (cd.fact 18 (f := .glo "node_at") rfl)
  have g_cut_trees := He.glo_ok X G (cd.fact 19 (f := .glo "cut_trees") rfl)
  have g_cut_gap := He.glo_ok X G (cd.fact 20 (f := .glo "cut_gap") rfl)
  have g_gaps := He.glo_ok X G (cd.fact 21 (f := .glo "gaps") rfl)
  have g_distance_sum := He.glo_ok X G (cd.fact 22 (f := .glo "distance_sum") rfl)
  have g_count_near := He.glo_ok X G (cd.fact 23 (f := .glo "count_near") rfl)
  have g_require_pages := He.glo_ok X G (cd.fact 24 (f := .glo "require_pages") rfl)
  have g_moved_table := He.glo_ok X G (cd.fact 25 (f := .glo "moved_table") rfl)
  have g_stepped_table := He.glo_ok X G (cd.fact 26 (f := .glo "stepped_table") rfl)
  have g_table_at := He.glo_ok X G (cd.fact 27 (f := .glo "table_at") rfl)
  have g_count_rests := He.glo_ok X G (cd.fact 28 (f := .glo "count_rests") rfl)
  have g_new_in_levels := He.glo_ok X G (cd.fact 29 (f := .glo "new_in_levels") rfl)
  have g_new_in_inorder := He.glo_ok X G (cd.fact 30 (f := .glo "new_in_inorder") rfl)
  have g_new_by_parents := He.glo_ok X G (cd.fact 31 (f := .glo "new_by_parents") rfl)
  have g_spread_table := He.glo_ok X G (cd.fact 32 (f := .glo "spread_table") rfl)
  have g_old_in_cut := He.glo_ok X G (cd.fact 33 (f := .glo "old_in_cut") rfl)
  have g_common_divisor := He.glo_ok X G (cd.fact 34 (f := .glo "common_divisor") rfl)
  have g_new_in_cut := He.glo_ok X G (cd.fact 35 (f := .glo "new_in_cut") rfl)
  have g_new_pages := He.glo_ok X G (cd.fact 36 (f := .glo "new_pages") rfl)
  have g_leaf_page_sum := He.glo_ok X G (cd.fact 37 (f := .glo "leaf_page_sum") rfl)
  have g_page_sum := He.glo_ok X G (cd.fact 38 (f := .glo "page_sum") rfl)
  have g_page_mean := He.glo_ok X G (cd.fact 39 (f := .glo "page_mean") rfl)
  have g_best_kinds := He.glo_ok X G (cd.fact 40 (f := .glo "best_kinds") rfl)
  have g_level_runs := He.glo_ok X G (cd.fact 41 (f := .glo "level_runs") rfl)
  have g_cut_runs := He.glo_ok X G (cd.fact 42 (f := .glo "cut_runs") rfl)
  have g_straight_run := He.glo_ok X G (cd.fact 43 (f := .glo "straight_run") rfl)
  have g_runs := He.glo_ok X G (cd.fact 44 (f := .glo "runs") rfl)
  have g_count_ahead := He.glo_ok X G (cd.fact 45 (f := .glo "count_ahead") rfl)
  have g_depth_counts := He.glo_ok X G (cd.fact 46 (f := .glo "depth_counts") rfl)
  have g_node_text := He.glo_ok X G (cd.fact 47 (f := .glo "node_text") rfl)
  have g_law_word := He.glo_ok X G (cd.fact 48 (f := .glo "_law_word") rfl)
  have g_show_node := He.glo_ok X G (cd.fact 49 (f := .glo "show_node") rfl)
  have g_node_in := He.glo_ok X G (cd.fact 50 (f := .glo "node_in") rfl)
  have g_number_in := He.glo_ok X G (cd.fact 51 (f := .glo "number_in") rfl)
  have g_value_in := He.glo_ok X G (cd.fact 52 (f := .glo "value_in") rfl)
  have g_values_behind := He.glo_ok X G (cd.fact 53 (f := .glo "values_behind") rfl)
  have g_law_pairs := He.glo_ok X G (cd.fact 54 (f := .glo "_law_pairs") rfl)
  have g_law_kinds := He.glo_ok X G (cd.fact 55 (f := .glo "_law_kinds") rfl)
  have g_law_bag := He.glo_ok X G (cd.fact 56 (f := .glo "_law_bag") rfl)
  have g_law_pick := He.glo_ok X G (cd.fact 57 (f := .glo "_law_pick") rfl)
  have g_law_node := He.glo_ok X G (cd.fact 58 (f := .glo "_law_node") rfl)
  have g_law_answers_right := He.glo_ok X G (cd.fact 59 (f := .glo "_law_answers_right") rfl)
  have g_law_sums_right := He.glo_ok X G (cd.fact 60 (f := .glo "_law_sums_right") rfl)
  have g_law_changed := He.glo_ok X G (cd.fact 61 (f := .glo "_law_changed") rfl)
  have g_law_right := He.glo_ok X G (cd.fact 62 (f := .glo "_law_right") rfl)
  have g_law := He.glo_ok X G (cd.fact 63 (f := .glo "law") rfl)
  have g_Reader := He.glo_ok X G (cd.fact 64 (f := .glo "Reader") rfl)
  have g_Console := He.glo_ok X G (cd.fact 65 (f := .glo "Console") rfl)
  have g_KINDS := He.glo_ok X G (cd.fact 66 (f := .glo "KINDS") rfl)
  have g_CUT_KINDS := He.glo_ok X G (cd.fact 67 (f := .glo "CUT_KINDS") rfl)
  have g_CHANGES := He.glo_ok X G (cd.fact 68 (f := .glo "CHANGES") rfl)
  have g_FORMS := He.glo_ok X G (cd.fact 69 (f := .glo "FORMS") rfl)
  obtain ⟨t_MOST_HEIGHT, i_MOST_HEIGHT⟩ := He.int_ok X G (cd.fact 85 (f := .int "MOST_HEIGHT" 100) rfl)
  obtain ⟨t_MOST_SIZE, i_MOST_SIZE⟩ := He.int_ok X G (cd.fact 86 (f := .int "MOST_SIZE" 1000000000000000000000000000000) rfl)
  obtain ⟨t_MOST_COUNTED, i_MOST_COUNTED⟩ := He.int_ok X G (cd.fact 87 (f := .int "MOST_COUNTED" 512) rfl)
  obtain ⟨t_MOST_DIGITS, i_MOST_DIGITS⟩ := He.int_ok X G (cd.fact 88 (f := .int "MOST_DIGITS" 100) rfl)
  obtain ⟨es, n, dF⟩ := ct.tab 0 (t := (fun K => He.ga K "FORMS", formsT.map Prod.fst)) rfl
  have B : Bt w K mg := {
    len := He.free_ok X G (cd.fact 70 (f := .free "len") rfl)
    sum := He.free_ok X G (cd.fact 71 (f := .free "sum") rfl)
    all := He.free_ok X G (cd.fact 72 (f := .free "all") rfl)
    max := He.free_ok X G (cd.fact 73 (f := .free "max") rfl)
    min := He.free_ok X G (cd.fact 74 (f := .free "min") rfl)
    divmod := He.free_ok X G (cd.fact 75 (f := .free "divmod") rfl)
    isinstance := He.free_ok X G (cd.fact 76 (f := .free "isinstance") rfl)
    int := He.free_ok X G (cd.fact 77 (f := .free "int") rfl)
    str := He.free_ok X G (cd.fact 78 (f := .free "str") rfl)
    list := He.free_ok X G (cd.fact 79 (f := .free "list") rfl)
    tuple := He.free_ok X G (cd.fact 80 (f := .free "tuple") rfl)
    bool := He.free_ok X G (cd.fact 81 (f := .free "bool") rfl)
    range := He.free_ok X G (cd.fact 82 (f := .free "range") rfl)
    enumerate := He.free_ok X G (cd.fact 83 (f := .free "enumerate") rfl)
    zip := He.free_ok X G (cd.fact 84 (f := .free "zip") rfl)
    p_KINDS := He.ga K "KINDS", c_KINDS := g_KINDS, r_KINDS := rfl, t_KINDS := fun H => tup_txt (He.tupB_ok e1 H)
    p_CUT_KINDS := He.ga K "CUT_KINDS", c_CUT_KINDS := g_CUT_KINDS, r_CUT_KINDS := rfl, t_CUT_KINDS := fun H => tup_txt (He.tupB_ok e2 H)
    p_CHANGES := He.ga K "CHANGES", c_CHANGES := g_CHANGES, r_CHANGES := rfl, t_CHANGES := fun H => tup_txt (He.tupB_ok e3 H)
    u_MOST_HEIGHT := .int 100 t_MOST_HEIGHT, c_MOST_HEIGHT := i_MOST_HEIGHT, r_MOST_HEIGHT := ⟨_, rfl⟩
    u_MOST_SIZE := .int 1000000000000000000000000000000 t_MOST_SIZE, c_MOST_SIZE := i_MOST_SIZE, r_MOST_SIZE := ⟨_, rfl⟩
    u_MOST_COUNTED := .int 512 t_MOST_COUNTED, c_MOST_COUNTED := i_MOST_COUNTED, r_MOST_COUNTED := ⟨_, rfl⟩
    u_MOST_DIGITS := .int 100 t_MOST_DIGITS, c_MOST_DIGITS := i_MOST_DIGITS, r_MOST_DIGITS := ⟨_, rfl⟩
    p_FORMS := He.ga K "FORMS", c_FORMS := g_FORMS, r_FORMS := rfl, es_FORMS := es, n_FORMS := n, D_FORMS := dF
    g_FORMS := fun p q => He.valsB_ok (q := (p.1, .str p.2)) e4 (List.mem_map.mpr ⟨p, q, rfl⟩) }
  have hR := He.cls_ok (cd.fact 89 (f := .cls "Reader") rfl)
  have hC := He.cls_ok (cd.fact 90 (f := .cls "Console") rfl)
  have nR : ∀ f ∈ rNames, NoAttr K (He.ga K "Reader") f := by
    intro f hf
    simp only [rNames, List.mem_cons, List.not_mem_nil, or_false] at hf
    rcases hf with rfl | rfl | rfl | rfl | rfl | rfl | rfl | rfl | rfl
    · exact He.noat_ok (cd.fact 91 (f := .noat "Reader" "own_budget") rfl)
    · exact He.noat_ok (cd.fact 92 (f := .noat "Reader" "own_kind") rfl)
    · exact He.noat_ok (cd.fact 93 (f := .noat "Reader" "own_height") rfl)
    · exact He.noat_ok (cd.fact 94 (f := .noat "Reader" "own_size") rfl)
    · exact He.noat_ok (cd.fact 95 (f := .noat "Reader" "own_shift") rfl)
    · exact He.noat_ok (cd.fact 96 (f := .noat "Reader" "own_page") rfl)
    · exact He.noat_ok (cd.fact 97 (f := .noat "Reader" "own_spent") rfl)
    · exact He.noat_ok (cd.fact 98 (f := .noat "Reader" "own_calls") rfl)
    · exact He.noat_ok (cd.fact 99 (f := .noat "Reader" "own_past") rfl)
  have nC := He.noat_ok (cd.fact 100 (f := .noat "Console" "own_reader") rfl)
  have Z : Dz K mg ⟨He.ga K "Reader", He.ga K "Console", hR, nR, hC, nC⟩ := {
    z_is_int := df_of (cd.def_ 0 (d := d_is_int) rfl) g_is_int
    z_is_whole := df_of (cd.def_ 1 (d := d_is_whole) rfl) g_is_whole
    z_is_node := df_of (cd.def_ 2 (d := d_is_node) rfl) g_is_node
    z_require_kind := df_of (cd.def_ 3 (d := d_require_kind) rfl) g_require_kind
    z_require_height := df_of (cd.def_ 4 (d := d_require_height) rfl) g_require_height
    z_require_node := df_of (cd.def_ 5 (d := d_require_node) rfl) g_require_node
    z_require_place := df_of (cd.def_ 6 (d := d_require_place) rfl) g_require_place
    z_require_span := df_of (cd.def_ 7 (d := d_require_span) rfl) g_require_span
    z_require_size := df_of (cd.def_ 8 (d := d_require_size) rfl) g_require_size
    z_require_shift := df_of (cd.def_ 9 (d := d_require_shift) rfl) g_require_shift
    z_cut_levels := df_of (cd.def_ 10 (d := d_cut_levels) rfl) g_cut_levels
    z_plain_sums := df_of (cd.def_ 11 (d := d_plain_sums) rfl) g_plain_sums
    z_sums_of := df_of (cd.def_ 12 (d := d_sums_of) rfl) g_sums_of
    z_spot_of := df_of (cd.def_ 13 (d := d_spot_of) rfl) g_spot_of
    z_node_there := df_of (cd.def_ 14 (d := d_node_there) rfl) g_node_there
    z_require_tree_orders := df_of (cd.def_ 15 (d := d_require_tree_orders) rfl) g_require_tree_orders
    z_require_tree_ways := df_of (cd.def_ 16 (d := d_require_tree_ways) rfl) g_require_tree_ways
    z_place_of := df_of (cd.def_ 17 (d := d_place_of) rfl) g_place_of
    z_node_at := df_of (cd.def_ 18 (d := d_node_at) rfl) g_node_at
    z_cut_trees := df_of (cd.def_ 19 (d := d_cut_trees) rfl) g_cut_trees
    z_cut_gap := df_of (cd.def_ 20 (d := d_cut_gap) rfl) g_cut_gap
    z_gaps := df_of (cd.def_ 21 (d := d_gaps) rfl) g_gaps
    z_distance_sum := df_of (cd.def_ 22 (d := d_distance_sum) rfl) g_distance_sum
    z_count_near := df_of (cd.def_ 23 (d := d_count_near) rfl) g_count_near
    z_require_pages := df_of (cd.def_ 24 (d := d_require_pages) rfl) g_require_pages
    z_moved_table := df_of (cd.def_ 25 (d := d_moved_table) rfl) g_moved_table
    z_stepped_table := df_of (cd.def_ 26 (d := d_stepped_table) rfl) g_stepped_table
    z_table_at := df_of (cd.def_ 27 (d := d_table_at) rfl) g_table_at
    z_count_rests := df_of (cd.def_ 28 (d := d_count_rests) rfl) g_count_rests
    z_new_in_levels := df_of (cd.def_ 29 (d := d_new_in_levels) rfl) g_new_in_levels
    z_new_in_inorder := df_of (cd.def_ 30 (d := d_new_in_inorder) rfl) g_new_in_inorder
    z_new_by_parents := df_of (cd.def_ 31 (d := d_new_by_parents) rfl) g_new_by_parents
    z_spread_table := df_of (cd.def_ 32 (d := d_spread_table) rfl) g_spread_table
    z_old_in_cut := df_of (cd.def_ 33 (d := d_old_in_cut) rfl) g_old_in_cut
    z_common_divisor := df_of (cd.def_ 34 (d := d_common_divisor) rfl) g_common_divisor
    z_new_in_cut := df_of (cd.def_ 35 (d := d_new_in_cut) rfl) g_new_in_cut
    z_new_pages := df_of (cd.def_ 36 (d := d_new_pages) rfl) g_new_pages
    z_leaf_page_sum := df_of (cd.def_ 37 (d := d_leaf_page_sum) rfl) g_leaf_page_sum
    z_page_sum := df_of (cd.def_ 38 (d := d_page_sum) rfl) g_page_sum
    z_page_mean := df_of (cd.def_ 39 (d := d_page_mean) rfl) g_page_mean
    z_best_kinds := df_of (cd.def_ 40 (d := d_best_kinds) rfl) g_best_kinds
    z_level_runs := df_of (cd.def_ 41 (d := d_level_runs) rfl) g_level_runs
    z_cut_runs := df_of (cd.def_ 42 (d := d_cut_runs) rfl) g_cut_runs
    z_straight_run := df_of (cd.def_ 43 (d := d_straight_run) rfl) g_straight_run
    z_runs := df_of (cd.def_ 44 (d := d_runs) rfl) g_runs
    z_count_ahead := df_of (cd.def_ 45 (d := d_count_ahead) rfl) g_count_ahead
    z_depth_counts := df_of (cd.def_ 46 (d := d_depth_counts) rfl) g_depth_counts
    z_node_text := df_of (cd.def_ 47 (d := d_node_text) rfl) g_node_text
    z_law_word := df_of (cd.def_ 48 (d := d_law_word) rfl) g_law_word
    z_show_node := df_of (cd.def_ 49 (d := d_show_node) rfl) g_show_node
    z_node_in := df_of (cd.def_ 50 (d := d_node_in) rfl) g_node_in
    z_number_in := df_of (cd.def_ 51 (d := d_number_in) rfl) g_number_in
    z_value_in := df_of (cd.def_ 52 (d := d_value_in) rfl) g_value_in
    z_values_behind := df_of (cd.def_ 53 (d := d_values_behind) rfl) g_values_behind
    z_law_pairs := df_of (cd.def_ 54 (d := d_law_pairs) rfl) g_law_pairs
    z_law_kinds := df_of (cd.def_ 55 (d := d_law_kinds) rfl) g_law_kinds
    z_law_bag := df_of (cd.def_ 56 (d := d_law_bag) rfl) g_law_bag
    z_law_pick := df_of (cd.def_ 57 (d := d_law_pick) rfl) g_law_pick
    z_law_node := df_of (cd.def_ 58 (d := d_law_node) rfl) g_law_node
    z_law_answers_right := df_of (cd.def_ 59 (d := d_law_answers_right) rfl) g_law_answers_right
    z_law_sums_right := df_of (cd.def_ 60 (d := d_law_sums_right) rfl) g_law_sums_right
    z_law_changed := df_of (cd.def_ 61 (d := d_law_changed) rfl) g_law_changed
    z_law_right := df_of (cd.def_ 62 (d := d_law_right) rfl) g_law_right
    p_kind := hp _ (List.mem_of_getElem? (i := 0) rfl)
    p_height := hp _ (List.mem_of_getElem? (i := 1) rfl)
    p_size := hp _ (List.mem_of_getElem? (i := 2) rfl)
    p_shift := hp _ (List.mem_of_getElem? (i := 3) rfl)
    p_page := hp _ (List.mem_of_getElem? (i := 4) rfl)
    p_spent := hp _ (List.mem_of_getElem? (i := 5) rfl)
    m_behind := dm_of (cd.def_ 64 (d := d_Reader_behind) rfl) (He.meth_ok (cd.fact 101 (f := .meth "Reader" "behind") rfl))
    m_perform := dm_of (cd.def_ 65 (d := d_Reader_perform) rfl) (He.meth_ok (cd.fact 102 (f := .meth "Reader" "perform") rfl))
    m_search := dm_of (cd.def_ 66 (d := d_Reader_search) rfl) (He.meth_ok (cd.fact 103 (f := .meth "Reader" "search") rfl))
    m_drop := dm_of (cd.def_ 67 (d := d_Reader_drop) rfl) (He.meth_ok (cd.fact 104 (f := .meth "Reader" "drop") rfl))
    m_undo := dm_of (cd.def_ 68 (d := d_Reader_undo) rfl) (He.meth_ok (cd.fact 105 (f := .meth "Reader" "undo") rfl))
    m_log := dm_of (cd.def_ 69 (d := d_Reader_log) rfl) (He.meth_ok (cd.fact 106 (f := .meth "Reader" "log") rfl))
    m_execute := dm_of (cd.def_ 70 (d := d_Console_execute) rfl) (He.meth_ok (cd.fact 107 (f := .meth "Console" "execute") rfl))
    m_change := dm_of (cd.def_ 71 (d := d_Console_change) rfl) (He.meth_ok (cd.fact 108 (f := .meth "Console" "change") rfl))
    m_answer := dm_of (cd.def_ 72 (d := d_Console_answer) rfl) (He.meth_ok (cd.fact 109 (f := .meth "Console" "answer") rfl))
    i_Reader := dc_of (cd.def_ 73 (d := d_Reader_init) rfl) g_Reader (He.mkr_ok (cd.fact 110 (f := .mkr "Reader") rfl))
    i_Console := dc_of (cd.def_ 74 (d := d_Console_init) rfl) g_Console (He.mkr_ok (cd.fact 111 (f := .mkr "Console") rfl)) }
  obtain ⟨fd, F⟩ := cd.def_ 63 (d := d_law) rfl
  have e := hfl.symm.trans g_law
  cases e
  have b := FunD.bindsA (ps := ["_law_script"]) F fun _ _ _ _ _ _ us hl => match us, hl with | [_], _ => rfl
  exact ⟨fd, fun s v => b s [v] rfl, fun base => chain B _ Z F⟩
end Q46
namespace Q46
end Q46
open PySem PySem.W PySem.Calls PyProof.Rows
theorem PySem.Challenge.cw_storedtrees_k46_whole_console_and_functi_holds : PySem.Challenge.rw_storedtrees_k46_whole_console_and_functi.Holds := by
  w_on; o_law
  refine HandSHeadRun.head_any (r := OpenLaw.row PySem.Challenge.rw_storedtrees_k46_whole_console_and_functi) (q := view (OpenLaw.row PySem.Challenge.rw_storedtrees_k46_whole_console_and_functi).prog [100]) (H := Q46.hkQ) (ob := Q46.obQ) (M := 20000) (loose := Q46.loose)
    (d := HandSHeadRun.topDef (OpenLaw.row PySem.Challenge.rw_storedtrees_k46_whole_console_and_functi).prog 100) (kwd := []) Q46.obQ_eq
    (by kernel_rfl) (fun s => by kernel_rfl) Q46.run (by kernel_rfl) (by kernel_rfl) (by kernel_rfl) (by rfl) (by first | assumption | decide +kernel) (by decide +kernel) ⟨rfl, rfl, rfl, rfl, rfl, by decide +kernel⟩ ?hw ?hc
  case hw => w_witness2
  case hc =>
    refine L2.walk_ofE (l := PySem.Challenge.rw_storedtrees_k46_whole_console_and_functi) (n := 63) (k := 19) (x := "_law_script") (CX := L2.CX0) rfl (by decide) (by kernel_rfl) ⟨rfl, by decide, by decide⟩ ?F (fun _ _ _ _ z => z)
    intro w mg fa h Y G hmg0
    obtain ⟨K, KX, c⟩ := Y
    have hmg : mg ("law" : PySem.Str) = some (.ref fa) := by
      have e : (HandSHeadRun.topDef (OpenLaw.row PySem.Challenge.rw_storedtrees_k46_whole_console_and_functi).prog 100).name = ("law" : PySem.Str) := by kernel_rfl
      rw [← e]
      exact hmg0
    obtain ⟨fd, hb, hF⟩ := Q46.facts (P := (PySem.Challenge.rw_storedtrees_k46_whole_console_and_functi).prog) (w := w) KX G hmg c
    refine ⟨K, fd, Q46.spLaw K, KX, hb, fun H a ns hl _ hS => ?_, fun base _ _ => hF base⟩
    exact ⟨H, .ref a, ns, rfl, L2.Same.refl H, L2.Dp.lst hS (Q46.ints_dp ns), fun _ _ _ => rfl⟩
