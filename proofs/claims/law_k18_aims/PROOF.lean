import PyProof.Rows.All
import Wide.All
import OpenK.AllK
import Wide.FinOn
import HandS.ForMost
import HandS.ForExc
import HandS.IsInst
import HandS.NoneIn
import HandS.Wide
import PySem.Challenge.RW_farjump_k18_aims
import HandS.More
import HandS.SortInts
import HandS.SortRule
import KE.SortKeyHeap
import HandS.SortKw
import HandS.Sort
import KE.KDictSum
import HandS.ExcInit
import HandS.ExcIs
import HandS.ClsMeth
import KE.KExcIs
import HandS.Codes
import KE.KStateDown
import HandS.Words
import HandS.WordsExc
import HandS.Defaults
import HandS.Head0
import HandS.Head1
import HandS.Head2
import HandS.HeadEnd
import HandS.HeadHook1
import HandS.HeadHook2
import HandS.HeadHook3
import HandS.HeadHook4
import HandS.WordsDict
import HandS.SetKeys
import HandS.Style
set_option Elab.async false
set_option linter.all false
set_option maxRecDepth 100000
set_option maxHeartbeats 4000000
/-! Part A: what is common: the callable defs, data in the heap, loops that build. -/
namespace Fj
open PySem PySem.Spec PyProof.Rows L2

/-! ### defs of the text -/
def top (i : Nat) : Stmt := PySem.Challenge.pw_farjump_k18_aims.main.body.getD i (.Pass ⟨0, 0, 0, 0⟩)

/-- a global def that keeps its promise -/
def Cal (P : Program) (w : World) (K : PySem.W.Frag) (mg : Str → Option Value) (base : Heap) (CX : CXT) (k : Nat) (x : Str) (ps : List Str) (sp : Sp) : Prop :=
  ∃ f fd, mg x = some (.ref f) ∧ PySem.W.keepIn K (.ref f) = true ∧ Binds K fd ps [] ∧ FnOk P w K mg base CX k f fd ps sp
theorem pe_cal {X : Cx} {CX : CXT} {k : Nat} {x : Str} {ps : List Str} {sp : Sp} {E : XK} {p pos : Pos} {e : Expr} {es : List Expr} {t : TA} {j : Nat} (G : Cal X.prog X.w X.K X.mg X.base CX k x ps sp) (hr : Room j X.A) (hj : k ≤ j) (hg : Gl X x) (hx : Passes CX X E)
    (ha : PA X (e :: es) t) (hdb : (x == ("__debug__" : Str)) = false := by decide) (he : starEach (e :: es) X.env = (false, eval e X.env) :: starEach es X.env := by rfl) (hpl : (backTo pos (starEach es X.env)).any (·.1) = false := by rfl) :
    PE X (.Call (.Name x p) (e :: es) [] pos) (tCall sp [] E t) := by
  obtain ⟨f, fd, hm, hk, hb, F⟩ := G
  exact pe_call F (hr.mono hj) hg hm hk hb .nil hx ha hdb he hpl
theorem pe_cal0 {X : Cx} {CX : CXT} {k : Nat} {x : Str} {ps : List Str} {sp : Sp} {E : XK} {p pos : Pos} {j : Nat} (G : Cal X.prog X.w X.K X.mg X.base CX k x ps sp) (hr : Room j X.A) (hj : k ≤ j) (hg : Gl X x) (hx : Passes CX X E)
    (hdb : (x == ("__debug__" : Str)) = false := by decide) :
    PE X (.Call (.Name x p) [] [] pos) (tCall sp [] E tNil) := by
  obtain ⟨f, fd, hm, hk, hb, F⟩ := G
  exact pe_call0 F (hr.mono hj) hg hm hk hb .nil hx hdb
/-- a reading may be one of many -/
theorem pe_any {X : Cx} {e : Expr} {ι : Type} {t : ι → TE} (h : ∀ i, PE X e (t i)) : PE X e (fun σ H Q => ∃ i, t i σ H Q) := ⟨fun pins s σ H Q I hw => by
  obtain ⟨i, hi⟩ := hw
  exact (h i).run pins s σ H Q I hi⟩
theorem pe_or2 {X : Cx} {e : Expr} {t u : TE} (h : PE X e t) (h' : PE X e u) : PE X e (fun σ H Q => t σ H Q ∨ u σ H Q) := ⟨fun pins s σ H Q I hw => by
  rcases hw with z | z
  · exact h.run pins s σ H Q I z
  · exact h'.run pins s σ H Q I z⟩

/-! ### the heap -/
theorem _root_.L2.Same.dk {H H' : Hp} {a : Addr} {kvs : List (Key × V)} (e : Same H H') (h : H a = some (.dK kvs)) : H' a = some (.dK kvs) := e _ _ h
theorem _root_.L2.Same.tup {K : PySem.W.Frag} {H H' : Hp} {a : Addr} {xs : List V} (e : Same H H') (h : SqT K H a xs) : SqT K H' a xs := by
  rcases h with (h | ⟨o, h⟩) | h
  · exact .inl (.inl (e _ _ h))
  · exact .inl (.inr ⟨o, e _ _ h⟩)
  · exact .inr h
theorem _root_.L2.Same.new {H : Hp} {p : Addr} {o : HO} (h : H p = none) : Same H (upd H p o) := fun a u e => by
  rw [upd_ne (ne_of_none e h)]
  exact e
/-- what H0 does not know may change -/
theorem _root_.L2.Same.mut {H H' : Hp} {p : Addr} {o : HO} (e : Same H H') (h : H p = none) : Same H (upd H' p o) := fun a u ha => by
  rw [upd_ne (ne_of_none ha h)]
  exact e a u ha
/-- all but what stands at D is as it was -/
def But (D : Addr) (H H' : Hp) : Prop := ∀ b o, b ≠ D → H b = some o → H' b = some o
theorem But.refl (D : Addr) (H : Hp) : But D H H := fun _ _ _ h => h
theorem But.trans {D : Addr} {H H1 H2 : Hp} (a : But D H H1) (b : But D H1 H2) : But D H H2 := fun c o n h => b c o n (a c o n h)
theorem But.upd {D : Addr} {H : Hp} {o : HO} : But D H (upd H D o) := fun b u n h => by
  rw [upd_ne n]
  exact h
theorem _root_.L2.Same.but {D : Addr} {H H' : Hp} (e : Same H H') : But D H H' := fun b o _ h => e b o h

/-! ### data: lists within W -/
/-- a list of the written part -/
def KL (K : PySem.W.Frag) (a : Addr) (xs : List V) : Prop :=
  ∃ (o : Obj) (its : Array Value) (n : Nat), K.lookup a = some o ∧ o.cls = .type "list" ∧ o.dict = none ∧ o.data = .seq its n ∧ its.size ≤ sizeLine ∧ Vals xs its.toList
def LW (W : Addr → Prop) (K : PySem.W.Frag) (H : Hp) (a : Addr) (xs : List V) : Prop := (Rd H a (.lst xs) ∧ W a) ∨ KL K a xs
mutual
inductive DW (W : Addr → Prop) (K : PySem.W.Frag) (H : Hp) : V → PyData → Prop
  | non : DW W K H .non .none
  | bl (b : Bool) : DW W K H (.bl b) (.bool b)
  | int (i : Int) : DW W K H (.int i) (.int i)
  | str (x : Str) : DW W K H (.str x) (.str x)
  | lst {a : Addr} {xs : List V} {ds : List PyData} : LW W K H a xs → DWs W K H xs ds → DW W K H (.ref a) (.list ds)
  | tup {a : Addr} {xs : List V} {ds : List PyData} : SqT K H a xs → DWs W K H xs ds → DW W K H (.ref a) (.tuple ds)
inductive DWs (W : Addr → Prop) (K : PySem.W.Frag) (H : Hp) : List V → List PyData → Prop
  | nil : DWs W K H [] []
  | cons {v : V} {vs : List V} {d : PyData} {ds : List PyData} : DW W K H v d → DWs W K H vs ds → DWs W K H (v :: vs) (d :: ds)
end
section
variable {K : PySem.W.Frag} {H H' : Hp} {W W' : Addr → Prop} {a : Addr} {xs : List V}
theorem LW.seq (h : LW W K H a xs) : SqL K H a xs := h.elim (fun z => .inl z.1) .inr
theorem LW.of (h : H a = some (.lst xs)) (w : W a) : LW W K H a xs := .inl ⟨.inl h, w⟩
mutual
theorem DW.dp : ∀ {v : V} {d : PyData}, DW W K H v d → Dp K H v d
  | _, _, .non => .non
  | _, _, .bl b => .bl b
  | _, _, .int i => .int i
  | _, _, .str x => .str x
  | _, _, .lst h t => .lst h.seq (DWs.dp t)
  | _, _, .tup h t => .tup h (DWs.dp t)
theorem DWs.dp : ∀ {vs : List V} {ds : List PyData}, DWs W K H vs ds → DpAll K H vs ds
  | _, _, .nil => .nil
  | _, _, .cons h t => .cons (DW.dp h) (DWs.dp t)
end
/-- lists of W and tuples stand -/
structure Keeps (W : Addr → Prop) (W' : Addr → Prop) (H H' : Hp) : Prop where
  l : ∀ a o, (∃ xs, o = .lst xs ∨ ∃ u, o = .frz u (.lst xs)) → W a → H a = some o → H' a = some o ∧ W' a
  t : ∀ a o, (∃ xs, o = .tup xs ∨ ∃ u, o = .frz u (.tup xs)) → H a = some o → H' a = some o
theorem SqT.keep (k : Keeps W W' H H') (h : SqT K H a xs) : SqT K H' a xs := by
  rcases h with (h | ⟨o, h⟩) | h
  · exact .inl (.inl (k.t _ _ ⟨xs, .inl rfl⟩ h))
  · exact .inl (.inr ⟨o, k.t _ _ ⟨xs, .inr ⟨o, rfl⟩⟩ h⟩)
  · exact .inr h
theorem LW.keep (k : Keeps W W' H H') (h : LW W K H a xs) : LW W' K H' a xs := by
  rcases h with ⟨h | ⟨o, h⟩, w⟩ | h
  · have q := k.l _ _ ⟨xs, .inl rfl⟩ w h
    exact .inl ⟨.inl q.1, q.2⟩
  · have q := k.l _ _ ⟨xs, .inr ⟨o, rfl⟩⟩ w h
    exact .inl ⟨.inr ⟨o, q.1⟩, q.2⟩
  · exact .inr h
mutual
theorem DW.keep (k : Keeps W W' H H') : ∀ {v : V} {d : PyData}, DW W K H v d → DW W' K H' v d
  | _, _, .non => .non
  | _, _, .bl b => .bl b
  | _, _, .int i => .int i
  | _, _, .str x => .str x
  | _, _, .lst h t => .lst (LW.keep k h) (DWs.keep k t)
  | _, _, .tup h t => .tup (SqT.keep k h) (DWs.keep k t)
theorem DWs.keep (k : Keeps W W' H H') : ∀ {vs : List V} {ds : List PyData}, DWs W K H vs ds → DWs W' K H' vs ds
  | _, _, .nil => .nil
  | _, _, .cons h t => .cons (DW.keep k h) (DWs.keep k t)
end
mutual
/-- all that is known: its lists stand in H -/
theorem dw_of : ∀ {v : V} {d : PyData}, Dp K H v d → DW (fun a => ∃ o, H a = some o) K H v d
  | _, _, .non => .non
  | _, _, .bl b => .bl b
  | _, _, .int i => .int i
  | _, _, .str x => .str x
  | _, _, .lst h t => .lst (h.elim (fun z => .inl ⟨z, z.elim (fun e => ⟨_, e⟩) fun ⟨_, e⟩ => ⟨_, e⟩⟩) .inr) (dws_of t)
  | _, _, .tup h t => .tup h (dws_of t)
theorem dws_of : ∀ {vs : List V} {ds : List PyData}, DpAll K H vs ds → DWs (fun a => ∃ o, H a = some o) K H vs ds
  | _, _, .nil => .nil
  | _, _, .cons h t => .cons (dw_of h) (dws_of t)
end
theorem Keeps.same (e : Same H H') (w : ∀ a, W a → W' a) : Keeps W W' H H' := ⟨fun a o _ z h => ⟨e a o h, w a z⟩, fun a o _ h => e a o h⟩
theorem DW.same {v : V} {d : PyData} (h : DW W K H v d) (e : Same H H') : DW W K H' v d := h.keep (.same e fun _ z => z)
theorem DWs.same {vs : List V} {ds : List PyData} (h : DWs W K H vs ds) (e : Same H H') : DWs W K H' vs ds := h.keep (.same e fun _ z => z)
theorem DW.mono {v : V} {d : PyData} (h : DW W K H v d) (w : ∀ a, W a → W' a) : DW W' K H v d := h.keep (.same (Same.refl H) w)
theorem DWs.mono {vs : List V} {ds : List PyData} (h : DWs W K H vs ds) (w : ∀ a, W a → W' a) : DWs W' K H vs ds := h.keep (.same (Same.refl H) w)
/-- the list at D changes, W does not hold of it -/
theorem Keeps.but {D : Addr} {acc : List V} (e : But D H H') (hD : H D = some (.lst acc)) (w : ∀ a, W a → W' a ∧ a ≠ D) : Keeps W W' H H' :=
  ⟨fun a o _ z h => ⟨e a o (w a z).2 h, (w a z).1⟩, fun a o z h => e a o (fun q => by
    obtain ⟨xs, z⟩ := z
    rw [q, hD] at h
    have h := Option.some.inj h
    rcases z with z | ⟨u, z⟩ <;> (rw [z] at h; cases h)) h⟩
theorem _root_.L2.Dp.same {v : V} {d : PyData} (h : Dp K H v d) (e : Same H H') : Dp K H' v d := ((dw_of h).same e).dp
theorem _root_.L2.DpAll.same {vs : List V} {ds : List PyData} (h : DpAll K H vs ds) (e : Same H H') : DpAll K H' vs ds := ((dws_of h).same e).dp
theorem DWs.append {vs ws : List V} {ds es : List PyData} (h : DWs W K H vs ds) (g : DWs W K H ws es) : DWs W K H (vs ++ ws) (ds ++ es) := by
  induction vs generalizing ds with
  | nil => cases h; exact g
  | cons v vs ih =>
    cases h with
    | cons a b => exact .cons a (ih b)
theorem DWs.snoc {vs : List V} {v : V} {ds : List PyData} {d : PyData} (h : DWs W K H vs ds) (g : DW W K H v d) : DWs W K H (vs ++ [v]) (ds ++ [d]) := h.append (.cons g .nil)
theorem DWs.length {vs : List V} {ds : List PyData} (h : DWs W K H vs ds) : vs.length = ds.length := by
  induction vs generalizing ds with
  | nil => cases h; rfl
  | cons v vs ih =>
    cases h with
    | cons a b => rw [List.length_cons, List.length_cons, ih b]
theorem DWs.get {vs : List V} {ds : List PyData} {i : Nat} {v : V} (h : DWs W K H vs ds) (e : vs[i]? = some v) : ∃ d, ds[i]? = some d ∧ DW W K H v d := by
  induction vs generalizing ds i with
  | nil => simp at e
  | cons u vs ih =>
    cases h with
    | cons a b =>
      cases i with
      | zero => exact ⟨_, rfl, by cases (Option.some.inj e); exact a⟩
      | succ i => exact ih (i := i) b (by simpa using e)
theorem DWs.getd {vs : List V} {ds : List PyData} {i : Nat} {d : PyData} (h : DWs W K H vs ds) (e : ds[i]? = some d) : ∃ v, vs[i]? = some v ∧ DW W K H v d := by
  induction vs generalizing ds i with
  | nil => cases h; simp at e
  | cons u vs ih =>
    cases h with
    | cons a b =>
      cases i with
      | zero => exact ⟨_, rfl, by cases (Option.some.inj e); exact a⟩
      | succ i => exact ih (i := i) b (by simpa using e)
theorem DWs.take {vs : List V} {ds : List PyData} (h : DWs W K H vs ds) (n : Nat) : DWs W K H (vs.take n) (ds.take n) := by
  induction vs generalizing ds n with
  | nil => cases h; simp; exact .nil
  | cons u vs ih =>
    cases h with
    | cons a b =>
      cases n with
      | zero => exact .nil
      | succ n => exact .cons a (ih b n)
theorem DWs.drop {vs : List V} {ds : List PyData} (h : DWs W K H vs ds) (n : Nat) : DWs W K H (vs.drop n) (ds.drop n) := by
  induction vs generalizing ds n with
  | nil => cases h; simp; exact .nil
  | cons u vs ih =>
    cases h with
    | cons a b =>
      cases n with
      | zero => exact .cons a b
      | succ n => exact ih b n
theorem DWs.reverse {vs : List V} {ds : List PyData} (h : DWs W K H vs ds) : DWs W K H vs.reverse ds.reverse := by
  induction vs generalizing ds with
  | nil => cases h; exact .nil
  | cons u vs ih =>
    cases h with
    | cons a b =>
      rw [List.reverse_cons, List.reverse_cons]
      exact (ih b).snoc a
end
/-- all of one W -/
abbrev All : Addr → Prop := fun _ => True
end Fj
set_option maxHeartbeats 4000000
/-! Part B: the readings, step by step. -/
namespace Fj
open PySem PySem.Spec PyProof.Rows L2

section
variable {σ : L2.St} {H : Hp} {Q : VK} {QT : Bool → Hp → Prop} {QL : List V → Hp → Prop} {x y v : V} {i j : Int} {ta tb tc te : TE} {tt tu : TT} {tl tr : TA} {D : Ends} {t u : TS} {r r' : R2} {n : Nat} {K : PySem.W.Frag}
theorem go_var (h : σ[n]? = some (some v)) (q : Q v H) : tVar n σ H Q := ⟨v, h, q⟩
theorem go_c (q : Q v H) : tC v σ H Q := q
theorem go_op (q : ta σ H fun x H1 => tb σ H1 fun y H2 => r x y H2 Q) : tOp r ta tb σ H Q := q
theorem go_un {f : V → Hp → VK → Prop} (q : ta σ H fun x H1 => f x H1 Q) : tUn f ta σ H Q := q
theorem go_I0 {g : Int → Int → V} (q : Q (g i j) H) : rI0 g (.int i) (.int j) H Q := ⟨i, j, rfl, rfl, q⟩
theorem go_I {C : Int → Int → Prop} {g : Int → Int → V} (c : C i j) (q : Q (g i j) H) : rI C g (.int i) (.int j) H Q := ⟨i, j, rfl, rfl, c, q⟩
theorem go_U {g : Int → V} (q : Q (g i) H) : rU g (.int i) H Q := ⟨i, rfl, q⟩
theorem go_eqS {a b : Str} (q : Q (.bl (decide (V.str a = V.str b))) H) : rEq (.str a) (.str b) H Q := ⟨rfl, q⟩
theorem go_eqI (q : Q (.bl (decide (V.int i = V.int j))) H) : rEq (.int i) (.int j) H Q := ⟨rfl, q⟩
theorem go_neS {a b : Str} (q : Q (.bl (!decide (V.str a = V.str b))) H) : rNe (.str a) (.str b) H Q := ⟨rfl, q⟩
theorem go_neI (q : Q (.bl (!decide (V.int i = V.int j))) H) : rNe (.int i) (.int j) H Q := ⟨rfl, q⟩
theorem go_test (q : te σ H fun x H' => ∃ k, x = .bl k ∧ QT k H') : tTest te σ H QT := q
theorem go_B (q : te σ H fun x H1 => ∃ c, x = .bl c ∧ QT c H1) : tB te σ H QT := q
theorem go_and (q : tt σ H fun c H1 => if c = true then tu σ H1 QT else QT false H1) : tAnd tt tu σ H QT := q
theorem go_or (q : tt σ H fun c H1 => if c = true then QT true H1 else tu σ H1 QT) : tOr tt tu σ H QT := q
theorem go_not (q : tt σ H fun c H1 => QT (!c) H1) : tNot tt σ H QT := q
theorem go_andV (q : ta σ H fun x H1 => ∃ c, x = .bl c ∧ if c = true then tb σ H1 Q else Q (.bl false) H1) : tAndV ta tb σ H Q := q
theorem go_orV (q : ta σ H fun x H1 => ∃ c, x = .bl c ∧ if c = true then Q (.bl true) H1 else tb σ H1 Q) : tOrV ta tb σ H Q := q
theorem go_notV (q : ta σ H fun x H1 => ∃ c, x = .bl c ∧ Q (.bl (!c)) H1) : tNotV ta σ H Q := q
theorem go_chain (q : ta σ H fun x H1 => tb σ H1 fun y H2 => r x y H2 fun z H3 => ∃ k, z = .bl k ∧ (if k = true then tc σ H3 fun w' H4 => r' y w' H4 Q else Q (.bl false) H3)) : tChain r r' ta tb tc σ H Q := q
theorem go_tup (q : tl σ H fun xs H1 => xs.length ≤ sizeLine ∧ ∀ p, H1 p = none → Q (.ref p) (upd H1 p (.tup xs))) : tTup tl σ H Q := q
theorem go_lst (q : tl σ H fun xs H1 => xs.length ≤ sizeLine ∧ ∀ p, H1 p = none → Q (.ref p) (upd H1 p (.lst xs))) : tLst tl σ H Q := q
theorem go_nil (q : QL [] H) : tNil σ H QL := q
theorem go_cons (q : ta σ H fun x H1 => tr σ H1 fun xs H2 => QL (x :: xs) H2) : tCons ta tr σ H QL := q
theorem go_CB {f : List V → Hp → VK → Prop} (q : tl σ H fun vs H1 => f vs H1 Q) : tCB f tl σ H Q := q
theorem go_call {sp : Sp} {E : XK} (q : tl σ H fun vs H1 => sp (vs ++ []) H1 Q E) : tCall sp [] E tl σ H Q := q
theorem go_sl {f : V → Option Int → Option Int → Hp → VK → Prop} {to th : TO} (q : te σ H fun x H1 => to σ H1 fun l H2 => th σ H2 fun u H3 => f x l u H3 Q) : tSl f te to th σ H Q := q
theorem go_part {QO : Option Int → Hp → Prop} (q : te σ H fun x H1 => ∃ i, x = .int i ∧ QO (some i) H1) : tPart te σ H QO := q
theorem go_nopart {QO : Option Int → Hp → Prop} (q : QO none H) : tNoPart σ H QO := q
theorem go_bm {T : String} {f : V → List V → Hp → VK → Prop} (q : te σ H fun x H1 => tyV K T x H1 ∧ tl σ H1 fun xs H2 => f x xs H2 Q) : tBM K T f te tl σ H Q := q
theorem go_bm0 {T : String} {f : V → List V → Hp → VK → Prop} (q : te σ H fun x H1 => tyV K T x H1 ∧ f x [] H1 Q) : tBM0 K T f te σ H Q := q
theorem go_seq (q : t { D with nx := u D } σ H) : tSeq t u D σ H := q
theorem go_if (q : tt σ H fun b H1 => if b = true then t D σ H1 else u D σ H1) : tIfS tt t u D σ H := q
theorem go_asg (q : te σ H fun x H1 => D.nx (σ.set n (some x)) H1) : tAsg te (gName n) D σ H := q
theorem go_asgG {g : TG} (q : te σ H fun x H1 => g x σ H1 D.nx) : tAsg te g D σ H := q
theorem go_ret (q : te σ H D.rt) : tRet te D σ H := q
theorem go_drop (q : te σ H fun _ H1 => D.nx σ H1) : tDrop te D σ H := q
theorem go_next (q : D.nx σ H) : tNext D σ H := q
theorem go_nxMk {f bk ct : L2.St → Hp → Prop} {rt : VK} (q : f σ H) : Ends.nx (Ends.mk f rt bk ct) σ H := q
theorem go_rtMk {f bk ct : L2.St → Hp → Prop} {rt : VK} (q : rt v H) : Ends.rt (Ends.mk f rt bk ct) v H := q
theorem go_ctMk {f bk ct : L2.St → Hp → Prop} {rt : VK} (q : ct σ H) : Ends.ct (Ends.mk f rt bk ct) σ H := q
theorem go_dget (q : ta σ H fun x H1 => tb σ H1 fun y H2 => ∃ a v, x = .ref a ∧ DGet H2 a y (some v) ∧ Q v H2) : tDGet ta tb σ H Q := q
theorem go_din (q : tb σ H fun y H1 => ta σ H1 fun x H2 => ∃ a o, x = .ref a ∧ DGet H2 a y o ∧ Q (.bl o.isSome) H2) : tDIn tb ta σ H Q := q
theorem go_dnotin (q : tb σ H fun y H1 => ta σ H1 fun x H2 => ∃ a o, x = .ref a ∧ DGet H2 a y o ∧ Q (.bl (!o.isSome)) H2) : tDNotIn tb ta σ H Q := q
theorem go_dput (q : tc σ H fun v H1 => ta σ H1 fun x H2 => tb σ H2 fun y H3 => ∃ a H4, x = .ref a ∧ DPut H3 a y v H4 ∧ D.nx σ H4) : sDPut ta tb tc D σ H := q
theorem go_dnew (q : ∀ p, H p = none → Q (.ref p) (upd H p (.dK []))) : tDNewK σ H Q := q
theorem go_for {wi : TI} {g : TG} {tbd : TS} (q : wi σ H fun J H1 => ∃ W : Nat → Nat → L2.St → Hp → Prop, (∃ m, W 0 m σ H1) ∧ ∀ i m σ H, W i m σ H →
  (J.stop i H ∧ D.nx σ H) ∨ (J.go i H ∧ ∃ N : L2.St → Hp → Prop, (∀ σ' H', N σ' H' → ∃ m', m' < m ∧ W (i + 1) m' σ' H') ∧ ∀ x H', J.yld i H x H' → g x σ H' fun σ2 H2 => tbd { D with nx := N, ct := N, bk := D.nx } σ2 H2)) : tFor wi g tbd D σ H := q
theorem go_ixL {p : Addr} {xs : List V} (h : SqL K H p xs) (e : atI xs i = some v) (q : Q v H) : rIxL K (.ref p) (.int i) H Q := ⟨p, xs, i, v, rfl, rfl, h, e, q⟩
theorem go_ixT {p : Addr} {xs : List V} (h : SqT K H p xs) (e : atI xs i = some v) (q : Q v H) : rIxT K (.ref p) (.int i) H Q := ⟨p, xs, i, v, rfl, rfl, h, e, q⟩
theorem go_ixS {z : Str} {c : Nat} (h : z.length ≤ sizeLine) (e : atI z.cps.toList i = some c) (q : Q (.str ⟨#[c]⟩) H) : rIxS (.str z) (.int i) H Q := ⟨z, i, c, rfl, rfl, h, e, q⟩
theorem go_isi {c : V} {ty u : Value} {b : Bool} (hc : ClsV c u) (ht : TyX K H x ty) (e : PySem.W.kitOne K ty u = some b) (q : Q (.bl b) H) : rIsi K [x, c] H Q := ⟨x, c, ty, u, b, rfl, hc, ht, e, q⟩
theorem go_inS {p : Addr} {xs : List V} {neg : Bool} (h : SqL K H p xs ∨ SqT K H p xs) (f : flatV x = true) (fa : xs.all flatV = true) (q : Q (.bl (if neg then !inV x xs else inV x xs)) H) : rIn K neg x (.ref p) H Q := ⟨p, xs, rfl, h, f, fa, q⟩
theorem go_eqD {d e : PyData} {W W' : Addr → Prop} (hx : DW W K H x d) (hy : DW W' K H y e) (sd : SeqAt.shaped d = true) (se : SeqAt.shaped e = true) (q : Q (.bl (PyData.eqv d e)) H) : rEqD K x y H Q := ⟨d, e, hx.dp, hy.dp, sd, se, q⟩
theorem go_neD {d e : PyData} {W W' : Addr → Prop} (hx : DW W K H x d) (hy : DW W' K H y e) (sd : SeqAt.shaped d = true) (se : SeqAt.shaped e = true) (q : Q (.bl (!PyData.eqv d e)) H) : rNeD K x y H Q := ⟨d, e, hx.dp, hy.dp, sd, se, q⟩
theorem go_append {l : Addr} {xs : List V} (h : H l = some (.lst xs)) (z : xs.length < sizeLine) (q : Q .non (upd H l (.lst (xs ++ [y])))) : rAppend (.ref l) [y] H Q := ⟨l, xs, y, rfl, rfl, h, z, q⟩
theorem go_tyL {p : Addr} {xs : List V} (h : SqL K H p xs) : tyV K "list" (.ref p) H := .inl ⟨rfl, xs, h⟩
theorem go_cat {l b : Addr} {xs zs : List V} (h : H l = some (.lst xs)) (h' : H b = some (.lst zs)) (z : xs.length + zs.length ≤ sizeLine) (q : ∀ p, H p = none → Q (.ref p) (upd H p (.lst (xs ++ zs)))) : rCat (.ref l) (.ref b) H Q := ⟨l, b, xs, zs, rfl, rfl, h, h', z, q⟩
theorem go_slL {p : Addr} {xs : List V} {lo hi : Option Int} (h : SqL K H p xs) (q : ∀ p, H p = none → Q (.ref p) (upd H p (.lst (cutV xs lo hi)))) : rSlL K (.ref p) lo hi H Q := ⟨p, xs, rfl, h, q⟩
theorem go_bl {b : Bool} {QB : Bool → Prop} (q : QB b) : ∃ c, V.bl b = .bl c ∧ QB c := ⟨b, rfl, q⟩
theorem go_in {PI : Int → Prop} (q : PI i) : ∃ c, V.int i = .int c ∧ PI c := ⟨i, rfl, q⟩
/-- named calls -/
def rLenQ (K : PySem.W.Frag) : List V → Hp → VK → Prop := fun xs H Q => ∃ p ys, xs = [.ref p] ∧ (SqL K H p ys ∨ SqT K H p ys) ∧ Q (.int ys.length) H
def rLenT : List V → Hp → VK → Prop := fun xs H Q => ∃ z : Str, xs = [.str z] ∧ z.length ≤ sizeLine ∧ Q (.int z.length) H
def rListQ (K : PySem.W.Frag) : List V → Hp → VK → Prop := fun xs H Q => ∃ p ys, xs = [.ref p] ∧ (SqL K H p ys ∨ SqT K H p ys) ∧ ∀ l, H l = none → Q (.ref l) (upd H l (.lst ys))
def rInSign : R2 := fun x y H Q => ∃ (c : Nat) (z : Str), x = .str ⟨#[c]⟩ ∧ y = .str z ∧ Q (.bl (decide (c ∈ z.cps.toList))) H
def rAddStr : R2 := fun x y H Q => ∃ i j : Str, x = .str i ∧ y = .str j ∧ i.length + j.length ≤ sizeLine ∧ Q (.str (i ++ j)) H
def rNotNon : R2 := fun x y H Q => y = .non ∧ Q (.bl (!decide (x = .non))) H
theorem cl_len {X : Cx} : CallR X (.builtin "len") (rLenQ X.K) := call_len_seq
theorem cl_lenT {X : Cx} : CallR X (.builtin "len") rLenT := call_len_str
theorem cl_list {X : Cx} : CallR X (.type "list") (rListQ X.K) := call_list_of
theorem op_inSign {X : Cx} : OpR X (compareOp .In) rInSign := op_in_sign
theorem op_addStr {X : Cx} : OpR X (binaryOp .Add) rAddStr := op_add_str
theorem op_notNon {X : Cx} : OpR X (compareOp .IsNot) rNotNon := op_notN
theorem go_len {p : Addr} {xs : List V} (h : SqL K H p xs ∨ SqT K H p xs) (q : Q (.int xs.length) H) : rLenQ K [.ref p] H Q := ⟨p, xs, rfl, h, q⟩
theorem go_lenT {z : Str} (h : z.length ≤ 100000) (q : Q (.int z.length) H) : rLenT [.str z] H Q := ⟨z, rfl, Nat.le_trans h (by decide), q⟩
theorem go_list {p : Addr} {xs : List V} (h : SqL K H p xs ∨ SqT K H p xs) (q : ∀ l, H l = none → Q (.ref l) (upd H l (.lst xs))) : rListQ K [.ref p] H Q := ⟨p, xs, rfl, h, q⟩
theorem go_inSign {c : Nat} {z : Str} (q : Q (.bl (decide (c ∈ z.cps.toList))) H) : rInSign (.str ⟨#[c]⟩) (.str z) H Q := ⟨c, z, rfl, rfl, q⟩
theorem go_addStr {a b : Str} (h : a.length + b.length ≤ 100000) (q : Q (.str (a ++ b)) H) : rAddStr (.str a) (.str b) H Q := ⟨a, b, rfl, rfl, Nat.le_trans h (by decide), q⟩
theorem go_notNon (q : Q (.bl (!decide (x = .non))) H) : rNotNon x .non H Q := ⟨rfl, q⟩
theorem go_all {p : Addr} {bs : List Bool} (h : SqL K H p (bs.map V.bl)) (q : Q (.bl (bs.all id)) H) : rAll K [.ref p] H Q := ⟨p, bs, rfl, h, q⟩
theorem go_sum {p : Addr} {ns : List Int} (h : SqL K H p (ns.map V.int)) (q : Q (.int ns.sum) H) : rSum K [.ref p] H Q := ⟨p, ns, rfl, h, q⟩
theorem go_lc {wi : TI} {g : TG} {vs : List Nat} (q : wi σ H fun J H1 => ∀ D, H1 D = none → ∃ W : Nat → Nat → Hp → Prop, (∃ m, W 0 m (upd H1 D (.lst []))) ∧ ∀ i m H, W i m H →
  (J.stop i H ∧ Q (.ref D) H) ∨ (J.go i H ∧ ∃ Nx : Hp → Prop, (∀ H', Nx H' → ∃ m', m' < m ∧ W (i + 1) m' H') ∧ ∀ x H', J.yld i H x H' → g x (wipe σ vs) H' fun σ2 H2 => wipe σ2 vs = wipe σ vs ∧ tt σ2 H2 fun b H3 =>
    if b = true then te σ2 H3 fun y H4 => ∃ acc, H4 D = some (.lst acc) ∧ acc.length < sizeLine ∧ Nx (upd H4 D (.lst (acc ++ [y]))) else Nx H3)) : tLc wi g tt te vs σ H Q := q
theorem go_iList {R : It → Hp → Prop} (q : te σ H fun x H1 => ∃ a, x = .ref a ∧ (∃ xs, SqL K H1 a xs) ∧ R (Itl K a) H1) : iList K te σ H R := q
theorem go_iStr {R : It → Hp → Prop} (q : te σ H fun v H1 => ∃ x, v = .str x ∧ R (Its x) H1) : iStr te σ H R := q
theorem go_iEnum {R : It → Hp → Prop} (q : tl σ H fun vs H1 => ∃ a xs, vs = [.ref a] ∧ SqL K H1 a xs ∧ R (Ite K a) H1) : iEnum K tl σ H R := q
theorem go_rng1 {R : It → Hp → Prop} (q : tl σ H fun vs H1 => ∃ j : Int, vs = [.int j] ∧ -(2 ^ 62) ≤ j ∧ j < 2 ^ 62 ∧ R (Itr 0 j.toNat) H1) : iRng1 tl σ H R := q
/-- the list that is walked is known -/
theorem go_lk {a : Addr} {xs : List V} {R : It → Hp → Prop} (h : SqL K H a xs) (q : R (Itl K a) H) : ∃ b, V.ref a = .ref b ∧ (∃ xs, SqL K H b xs) ∧ R (Itl K b) H := ⟨a, rfl, ⟨xs, h⟩, q⟩
theorem go_ek {a : Addr} {xs : List V} {R : It → Hp → Prop} (h : SqL K H a xs) (q : R (Ite K a) H) : ∃ b xs, [V.ref a] = [.ref b] ∧ SqL K H b xs ∧ R (Ite K b) H := ⟨a, xs, rfl, h, q⟩
theorem go_st {PS : Str → Prop} {z : Str} (q : PS z) : ∃ c, V.str z = .str c ∧ PS c := ⟨z, rfl, q⟩
theorem go_yes (q : QT true H) : tYes σ H QT := q
theorem go_name {QS : L2.St → Hp → Prop} (q : QS (σ.set n (some v)) H) : gName n v σ H QS := q
theorem go_gTup {QS : L2.St → Hp → Prop} {a : Addr} {xs : List V} {g : TGs} (h : SqT K H a xs) (hl : xs.length = n) (q : g xs σ H QS) : gTup K n g (.ref a) σ H QS := ⟨a, xs, rfl, h, hl, q⟩
theorem go_gUnl {QS : L2.St → Hp → Prop} {a : Addr} {xs : List V} {g : TGs} (h : SqL K H a xs) (hl : xs.length = n) (q : g xs σ H QS) : gUnl K n g (.ref a) σ H QS := ⟨a, xs, rfl, h, hl, q⟩
theorem go_gCons {QS : L2.St → Hp → Prop} {vs : List V} {g : TG} {u : TGs} (q : g v σ H fun σ' H' => u vs σ' H' QS) : gCons g u (v :: vs) σ H QS := ⟨v, vs, rfl, q⟩
theorem go_gNil {QS : L2.St → Hp → Prop} (q : QS σ H) : gNil [] σ H QS := ⟨rfl, q⟩
theorem go_aug {f : Int → Int → Int} (h : σ[n]? = some (some (.int i))) (q : te σ H fun y H1 => ipI f (.int i) y H1 fun z H2 => D.nx (σ.set n (some z)) H2) : tAug n te (ipI f) D σ H := ⟨_, h, q⟩
theorem go_ip {f : Int → Int → Int} (q : Q (.int (f i j)) H) : ipI f (.int i) (.int j) H Q := ⟨i, j, rfl, rfl, q⟩
theorem go_clear {l : Addr} {xs : List V} (h : H l = some (.lst xs)) (q : Q .non (upd H l (.lst []))) : rClear (.ref l) [] H Q := ⟨l, xs, rfl, rfl, h, q⟩
/-! the written part named -/
theorem isiK {X : Cx} (h : X.K = K) : CallR X (.builtin "isinstance") (rIsi K) := h ▸ call_isi
theorem lenK {X : Cx} (h : X.K = K) : CallR X (.builtin "len") (rLenQ K) := h ▸ cl_len
theorem listK {X : Cx} (h : X.K = K) : CallR X (.type "list") (rListQ K) := h ▸ cl_list
theorem ixlK {X : Cx} (h : X.K = K) : IxR X (rIxL K) := h ▸ ix_list
theorem ixtK {X : Cx} (h : X.K = K) : IxR X (rIxT K) := h ▸ ix_tup
theorem sllK {X : Cx} (h : X.K = K) : SlR X (rSlL K) := h ▸ sl_list
theorem sltK {X : Cx} (h : X.K = K) : SlR X (rSlT K) := h ▸ sl_tup
theorem inK {X : Cx} (h : X.K = K) : OpR X (compareOp .In) (rIn K false) := h ▸ op_in_seq
theorem notInK {X : Cx} (h : X.K = K) : OpR X (compareOp .NotIn) (rIn K true) := h ▸ op_notIn_seq
theorem eqdK {X : Cx} (h : X.K = K) (hu : X.A.units + 64 < cLine) : OpR X (compareOp .Eq) (rEqD K) := h ▸ op_eqD hu
theorem nedK {X : Cx} (h : X.K = K) (hu : X.A.units + 64 < cLine) : OpR X (compareOp .NotEq) (rNeD K) := h ▸ op_neD hu
theorem allK {X : Cx} (h : X.K = K) (hc : X.calm = true) : CallR X (.builtin "all") (rAll K) := h ▸ cr_all hc
/-- a test that is known -/
theorem if_yes {c : Bool} {A B : Prop} (hc : c = true) (q : A) : if c = true then A else B := by rw [if_pos hc]; exact q
theorem if_no {c : Bool} {A B : Prop} (hc : c = false) (q : B) : if c = true then A else B := by rw [if_neg (by rw [hc]; exact Bool.false_ne_true)]; exact q
end
theorem sz_of {n : Nat} (h : n ≤ 100000) : n ≤ sizeLine := Nat.le_trans h (by decide)
theorem sz_lt {n : Nat} (h : n < 100000) : n < sizeLine := Nat.lt_of_lt_of_le h (by decide)
theorem pe_gc {X : Cx} {x : Str} {v : V} {pos : Pos} (hg : Gl X x) (hm : ∃ u, X.mg x = some u ∧ RelV v u) (hd : (x == ("__debug__" : Str)) = false := by decide) : PE X (.Name x pos) (tC v) := by
  obtain ⟨u, h, r⟩ := hm
  exact pe_glob hg h r hd
end Fj
set_option maxHeartbeats 4000000
/-! comprehensions: what is kept of the sources ps, by f, R tells the new item -/
namespace Fj
open PySem PySem.Spec PyProof.Rows L2
theorem pSnoc {α β : Type} {F : α → β → Prop} : ∀ {l : List α} {m : List β} {a : α} {b : β}, Paired F l m → F a b → Paired F (l ++ [a]) (m ++ [b])
  | _, _, _, _, .nil, h => .cons h .nil
  | _, _, _, _, .cons r t, h => .cons r (pSnoc t h)
theorem pImp {α β : Type} {F G : α → β → Prop} : ∀ {l : List α} {m : List β}, Paired F l m → (∀ a b, F a b → G a b) → Paired G l m
  | _, _, .nil, _ => .nil
  | _, _, .cons r t, f => .cons (f _ _ r) (pImp t f)
theorem pLen {α β : Type} {F : α → β → Prop} : ∀ {l : List α} {m : List β}, Paired F l m → l.length = m.length
  | _, _, .nil => rfl
  | _, _, .cons _ t => by rw [List.length_cons, List.length_cons, pLen t]
theorem pAt {α β : Type} {F : α → β → Prop} : ∀ {l : List α} {m : List β} {i : Nat} {a : α}, Paired F l m → l[i]? = some a → ∃ b, m[i]? = some b ∧ F a b
  | _, _, _, _, .nil, e => by simp at e
  | _, _, 0, a, .cons r _, e => by simp at e; subst e; exact ⟨_, rfl, r⟩
  | _, _, i + 1, a, .cons _ t, e => by
    obtain ⟨b, h1, h2⟩ := pAt (i := i) (a := a) t (by simpa using e)
    exact ⟨b, by simpa using h1, h2⟩
theorem take_snoc {α : Type} : ∀ {l : List α} {i : Nat} {x : α}, l[i]? = some x → l.take (i + 1) = l.take i ++ [x]
  | [], i, x, h => by simp at h
  | a :: l, 0, x, h => by
    have e : a = x := Option.some.inj h
    subst e
    rfl
  | a :: l, i + 1, x, h => by
    have ih := take_snoc (l := l) (i := i) (x := x) h
    show a :: l.take (i + 1) = a :: l.take i ++ [x]
    rw [ih]
    rfl
section
variable {K : PySem.W.Frag} {g : TG} {tt : TT} {te : TE} {vs : List Nat} {σ : L2.St} {H1 : Hp} {D : Addr} {Qd : Hp → Prop} {α : Type}
/-- R stands while the list at D grows -/
def Stable (D : Addr) (R : V → α → Hp → Prop) : Prop := ∀ y p H H' acc, H D = some (.lst acc) → But D H H' → R y p H → R y p H'
theorem lc_gen (J : It) (ps : List α) (f : α → Bool) (R : V → α → Hp → Prop) (st : Stable D R) (hz : ps.length ≤ 100000) (hD : H1 D = none)
    (hgo : ∀ i H, i < ps.length → Same H1 H → J.go i H) (hstop : ∀ H, Same H1 H → J.stop ps.length H)
    (hs : ∀ i x p H H', ps[i]? = some p → Same H1 H → J.yld i H x H' → ∀ (NY : VK) (NN : Hp → Prop), (∀ y H4, f p = true → Same H H4 → R y p H4 → NY y H4) → (∀ H4, f p = false → Same H H4 → NN H4) →
      g x (wipe σ vs) H' fun σ2 H2 => wipe σ2 vs = wipe σ vs ∧ tt σ2 H2 fun b H3 => if b = true then te σ2 H3 NY else NN H3)
    (hd : ∀ H acc, Same H1 H → H D = some (.lst acc) → Paired (fun y p => R y p H) acc (ps.filter f) → Qd H) :
    ∃ W : Nat → Nat → Hp → Prop, (∃ m, W 0 m (upd H1 D (.lst []))) ∧ ∀ i m H, W i m H →
      (J.stop i H ∧ Qd H) ∨ (J.go i H ∧ ∃ Nx : Hp → Prop, (∀ H', Nx H' → ∃ m', m' < m ∧ W (i + 1) m' H') ∧ ∀ x H', J.yld i H x H' → g x (wipe σ vs) H' fun σ2 H2 => wipe σ2 vs = wipe σ vs ∧ tt σ2 H2 fun b H3 =>
        if b = true then te σ2 H3 fun y H4 => ∃ acc, H4 D = some (.lst acc) ∧ acc.length < sizeLine ∧ Nx (upd H4 D (.lst (acc ++ [y]))) else Nx H3) := by
  let Pv : Nat → Hp → Prop := fun i H => i ≤ ps.length ∧ Same H1 H ∧ ∃ acc, H D = some (.lst acc) ∧ Paired (fun y p => R y p H) acc ((ps.take i).filter f)
  refine ⟨fun i m H => m = ps.length - i ∧ Pv i H, ⟨ps.length, by simp, Nat.zero_le _, Same.new hD, [], upd_same, .nil⟩, ?_⟩
  rintro i m H ⟨rfl, hi, s, acc, hacc, hp⟩
  by_cases hlt : i < ps.length
  · refine .inr ⟨hgo i H hlt s, Pv (i + 1), fun H' p' => ⟨ps.length - (i + 1), by omega, rfl, p'⟩, fun x H' y => ?_⟩
    have e : ps[i]? = some ps[i] := by simp [hlt]
    refine hs i x ps[i] H H' e s y _ _ (fun y H4 hf s4 r => ?_) (fun H4 hf s4 => ?_)
    · refine ⟨acc, s4 _ _ hacc, ?_, hlt, ?_, acc ++ [y], upd_same, ?_⟩
      · have l := pLen hp
        have l2 := List.length_filter_le f (ps.take i)
        have l3 := List.length_take_le i ps
        exact sz_lt (by omega)
      · exact (s.trans s4).mut hD
      · have b : But D H4 (upd H4 D (.lst (acc ++ [y]))) := But.upd
        rw [take_snoc e, List.filter_append, show [ps[i]].filter f = [ps[i]] by simp [hf]]
        refine pSnoc (pImp hp fun z p rz => st z p _ _ acc hacc (s4.but.trans b) rz) (st y _ _ _ acc (s4 _ _ hacc) b r)
    · refine ⟨hlt, s.trans s4, acc, s4 _ _ hacc, ?_⟩
      rw [take_snoc e, List.filter_append, show [ps[i]].filter f = [] by simp [hf], List.append_nil]
      exact pImp hp fun z p rz => st z p _ _ acc hacc s4.but rz
  · have e : i = ps.length := by omega
    subst e
    refine .inl ⟨hstop H s, hd H acc s hacc ?_⟩
    rw [List.take_length] at hp
    exact hp
/-- over a list -/
theorem lc_genL {a : Addr} {xs : List V} (ps : List α) (f : α → Bool) (R : V → α → Hp → Prop) (st : Stable D R) (hx : SqL K H1 a xs) (hl : xs.length = ps.length) (hz : ps.length ≤ 100000) (hD : H1 D = none)
    (hs : ∀ (i : Nat) x p H, xs[i]? = some x → ps[i]? = some p → Same H1 H → (∃ acc, H D = some (.lst acc)) → ∀ (NY : VK) (NN : Hp → Prop), (∀ y H4, f p = true → Same H H4 → R y p H4 → NY y H4) → (∀ H4, f p = false → Same H H4 → NN H4) →
      g x (wipe σ vs) H fun σ2 H2 => wipe σ2 vs = wipe σ vs ∧ tt σ2 H2 fun b H3 => if b = true then te σ2 H3 NY else NN H3)
    (hd : ∀ H acc, Same H1 H → H D = some (.lst acc) → Paired (fun y p => R y p H) acc (ps.filter f) → Qd H) :
    ∃ W : Nat → Nat → Hp → Prop, (∃ m, W 0 m (upd H1 D (.lst []))) ∧ ∀ i m H, W i m H →
      ((Itl K a).stop i H ∧ Qd H) ∨ ((Itl K a).go i H ∧ ∃ Nx : Hp → Prop, (∀ H', Nx H' → ∃ m', m' < m ∧ W (i + 1) m' H') ∧ ∀ x H', (Itl K a).yld i H x H' → g x (wipe σ vs) H' fun σ2 H2 => wipe σ2 vs = wipe σ vs ∧ tt σ2 H2 fun b H3 =>
        if b = true then te σ2 H3 fun y H4 => ∃ acc, H4 D = some (.lst acc) ∧ acc.length < sizeLine ∧ Nx (upd H4 D (.lst (acc ++ [y]))) else Nx H3) := by
  let Pv : Nat → Hp → Prop := fun i H => i ≤ ps.length ∧ Same H1 H ∧ ∃ acc, H D = some (.lst acc) ∧ Paired (fun y p => R y p H) acc ((ps.take i).filter f)
  refine ⟨fun i m H => m = ps.length - i ∧ Pv i H, ⟨ps.length, by simp, Nat.zero_le _, Same.new hD, [], upd_same, .nil⟩, ?_⟩
  rintro i m H ⟨rfl, hi, s, acc, hacc, hp⟩
  have hxH := s.seq hx
  by_cases hlt : i < ps.length
  · have hltx : i < xs.length := by omega
    refine .inr ⟨⟨xs, xs[i], hxH, by simp [hltx]⟩, Pv (i + 1), fun H' p' => ⟨ps.length - (i + 1), by omega, rfl, p'⟩, fun x H' y => ?_⟩
    obtain ⟨e0, y⟩ := y
    subst e0
    have e : ps[i]? = some ps[i] := by simp [hlt]
    refine hs i x ps[i] _ (y xs hxH) e s ⟨acc, hacc⟩ _ _ (fun y H4 hf s4 r => ?_) (fun H4 hf s4 => ?_)
    · refine ⟨acc, s4 _ _ hacc, ?_, hlt, ?_, acc ++ [y], upd_same, ?_⟩
      · have l := pLen hp
        have l2 := List.length_filter_le f (ps.take i)
        have l3 := List.length_take_le i ps
        exact sz_lt (by omega)
      · exact (s.trans s4).mut hD
      · have b : But D H4 (upd H4 D (.lst (acc ++ [y]))) := But.upd
        rw [take_snoc e, List.filter_append, show [ps[i]].filter f = [ps[i]] by simp [hf]]
        refine pSnoc (pImp hp fun z p rz => st z p _ _ acc hacc (s4.but.trans b) rz) (st y _ _ _ acc (s4 _ _ hacc) b r)
    · refine ⟨hlt, s.trans s4, acc, s4 _ _ hacc, ?_⟩
      rw [take_snoc e, List.filter_append, show [ps[i]].filter f = [] by simp [hf], List.append_nil]
      exact pImp hp fun z p rz => st z p _ _ acc hacc s4.but rz
  · have e : i = ps.length := by omega
    subst e
    refine .inl ⟨⟨xs, hxH, by omega⟩, hd H acc s hacc ?_⟩
    rw [List.take_length] at hp
    exact hp
/-- data that may stand beside the list at D -/
theorem stable_dw {W : Addr → Prop} (enc : α → PyData) : Stable (α := α) D (fun y p H => DW (fun a => W a ∧ a ≠ D) K H y (enc p)) := fun y p H H' acc hD b r =>
  r.keep (.but b hD fun a w => ⟨w, w.2⟩)
theorem stable_eq (v : α → V) : Stable (α := α) D (fun y p _ => y = v p) := fun _ _ _ _ _ _ _ r => r
theorem paired_dws {W : Addr → Prop} {H : Hp} (enc : α → PyData) : ∀ {acc : List V} {ps : List α}, Paired (fun y p => DW W K H y (enc p)) acc ps → DWs W K H acc (ps.map enc)
  | _, _, .nil => .nil
  | _, _, .cons r t => .cons r (paired_dws enc t)
theorem paired_eq {v : α → V} : ∀ {acc : List V} {ps : List α}, Paired (fun y p => y = v p) acc ps → acc = ps.map v
  | _, _, .nil => rfl
  | _, _, .cons r t => by rw [List.map_cons, r, paired_eq t]
end
end Fj
local macro_rules | `(tactic| walk_at "b") => `(tactic| first | rfl | (simp only [decide_eq_true_eq, decide_eq_false_iff_not, Bool.not_eq_true', Bool.not_eq_false', Bool.not_eq_true, Bool.not_eq_false]; omega) | decide +kernel)
local macro_rules | `(tactic| walk_at "g1") => `(tactic| first
  | ((with_reducible refine' Fj.go_var ?h ?_); (case h => exact rfl))
  | with_reducible refine Fj.go_c ?_
  | with_reducible refine Fj.go_op ?_
  | with_reducible refine Fj.go_un ?_
  | with_reducible refine Fj.go_I0 ?_
  | with_reducible refine Fj.go_U ?_
  | with_reducible refine Fj.go_eqS ?_
  | with_reducible refine Fj.go_eqI ?_
  | with_reducible refine Fj.go_neS ?_
  | with_reducible refine Fj.go_neI ?_
  | with_reducible refine Fj.go_test ?_
  | with_reducible refine Fj.go_B ?_
  | with_reducible refine Fj.go_and ?_
  | with_reducible refine Fj.go_or ?_
  | with_reducible refine Fj.go_not ?_
  | with_reducible refine Fj.go_andV ?_
  | with_reducible refine Fj.go_orV ?_
  | with_reducible refine Fj.go_notV ?_
  | with_reducible refine Fj.go_chain ?_
  | with_reducible refine Fj.go_tup ?_
  | with_reducible refine Fj.go_lst ?_
  | with_reducible refine Fj.go_nil ?_
  | with_reducible refine Fj.go_cons ?_
  | with_reducible refine Fj.go_CB ?_
  | with_reducible refine Fj.go_call ?_
  | with_reducible refine Fj.go_sl ?_
  | with_reducible refine Fj.go_part ?_
  | with_reducible refine Fj.go_nopart ?_
  | with_reducible refine Fj.go_bm ?_
  | with_reducible refine Fj.go_bm0 ?_
  | with_reducible refine Fj.go_seq ?_
  | with_reducible refine Fj.go_if ?_
  | with_reducible refine Fj.go_asg ?_
  | with_reducible refine Fj.go_asgG ?_
  | with_reducible refine Fj.go_ret ?_
  | with_reducible refine Fj.go_drop ?_
  | with_reducible refine Fj.go_next ?_
  | with_reducible refine Fj.go_nxMk ?_
  | with_reducible refine Fj.go_rtMk ?_
  | with_reducible refine Fj.go_ctMk ?_
  | with_reducible refine Fj.go_dget ?_
  | with_reducible refine Fj.go_din ?_
  | with_reducible refine Fj.go_dnotin ?_
  | with_reducible refine Fj.go_dput ?_
  | with_reducible refine Fj.go_dnew ?_
  | with_reducible refine Fj.go_for ?_
  | with_reducible refine Fj.go_inSign ?_
  | with_reducible refine Fj.go_notNon ?_
  | with_reducible refine Fj.go_lc ?_
  | with_reducible refine Fj.go_iList ?_
  | with_reducible refine Fj.go_iStr ?_
  | with_reducible refine Fj.go_iEnum ?_
  | with_reducible refine Fj.go_st ?_
  | with_reducible refine Fj.go_yes ?_
  | with_reducible refine Fj.go_name ?_
  | with_reducible refine Fj.go_gCons ?_
  | with_reducible refine Fj.go_gNil ?_
  | ((with_reducible refine' Fj.go_aug ?h ?_); (case h => exact rfl))
  | with_reducible refine Fj.go_ip ?_
  | ((with_reducible refine' Fj.go_gTup ?h ?h2 ?_); (case h => first | assumption | exact L2.SqT.of (by assumption)); (case h2 => rfl))
  | ((with_reducible refine' Fj.go_len ?h ?_); (case h => first | exact .inl (by assumption) | exact .inr (by assumption)))
  | ((with_reducible refine' Fj.go_lk ?h ?_); (case h => assumption))
  | ((with_reducible refine' Fj.go_ek ?h ?_); (case h => assumption))
  | ((with_reducible refine Fj.go_lenT ?h ?_); (case h => omega))
  | ((with_reducible refine' Fj.go_ixT ?h ?h2 ?_); (case h => first | assumption | exact L2.SqT.of (by assumption)); (case h2 => rfl))
  | ((with_reducible refine' Fj.go_box ?h ?_); (case h => assumption))
  | ((with_reducible refine' Fj.go_plain ?h ?_); (case h => assumption))
  | with_reducible refine Fj.go_isiSS ?_
  | with_reducible refine Fj.go_isiII ?_
  | with_reducible refine Fj.go_isiIB ?_
  | with_reducible refine Fj.go_isiBB ?_
  | ((with_reducible refine' Fj.go_isiTT ?h ?_); (case h => first | assumption | exact L2.SqT.of (by assumption)))
  | ((with_reducible refine' Fj.go_isiLL ?h ?_); (case h => first | assumption | exact .of (by assumption)))
  | with_reducible refine Fj.go_mkr ?_
  | with_reducible refine Fj.go_iTup ?_
  | ((with_reducible refine' Fj.go_tk ?h ?_); (case h => assumption))
  | (refine' ⟨_, rfl, ⟨_, ?h⟩, ?_⟩; (case h => first | assumption | exact .of (by assumption)))
  | with_reducible refine Fj.go_rng1 ?_
  | with_reducible refine Fj.go_bl ?_
  | with_reducible refine Fj.go_in ?_
  | (refine Fj.if_yes ?h ?_; (case h => walk_at "b"))
  | (refine Fj.if_no ?h ?_; (case h => walk_at "b")))
local macro_rules | `(tactic| walk_at "g") => `(tactic| repeat (walk_at "g1"))
set_option maxHeartbeats 4000000
namespace Fj
open PySem PySem.Spec PyProof.Rows L2

/-- what the top has left of plain names -/
structure Txt (K : PySem.W.Frag) (mg : Str → Option Value) : Prop where
  n_len : mg "len" = none
  n_isinstance : mg "isinstance" = none
  n_all : mg "all" = none
  n_sum : mg "sum" = none
  n_sorted : mg "sorted" = none
  n_range : mg "range" = none
  n_enumerate : mg "enumerate" = none
  n_dict : mg "dict" = none
  n_list : mg "list" = none
  n_str : mg "str" = none
  n_int : mg "int" = none
  n_bool : mg "bool" = none
  n_tuple : mg "tuple" = none
  c_SMALL : ∃ u, mg "SMALL" = some u ∧ RelV (.str "abcdefghijklmnopqrstuvwxyz") u
  c_MOST_LETTERS : ∃ u, mg "MOST_LETTERS" = some u ∧ RelV (.int 8) u
  c_BOXES : ∃ u, mg "BOXES" = some u ∧ RelV (.int 4) u
  c_LEAST : ∃ u, mg "LEAST" = some u ∧ RelV (.int (-2147483648)) u
  c_GREATEST : ∃ u, mg "GREATEST" = some u ∧ RelV (.int 2147483647) u
  c_MOST_DATA : ∃ u, mg "MOST_DATA" = some u ∧ RelV (.int 60) u
  c_MOST_PARTS : ∃ u, mg "MOST_PARTS" = some u ∧ RelV (.int 12) u
  c_MOST_OF_PART : ∃ u, mg "MOST_OF_PART" = some u ∧ RelV (.int 60) u
  c_MOST_ROWS : ∃ u, mg "MOST_ROWS" = some u ∧ RelV (.int 200) u

/-- a def of the text as the top has left it -/
def FnAt (K : PySem.W.Frag) (mg : Str → Option Value) (x : Str) (st : Stmt) (ps : List Str) : Prop :=
  ∃ f fd, mg x = some (.ref f) ∧ Fun K x x st f fd ∧ Binds K fd ps []
section
variable {P : Program} {w : World} {K : PySem.W.Frag} {mg : Str → Option Value} {base : Heap}
theorem cal_mk {x : Str} {st : Stmt} {N ps : List Str} {k : Nat} {sp : Sp} (F : FnAt K mg x st ps) (S : FnScope N ps (defScope st)) (len : ∀ vs H Q E, sp vs H Q E → vs.length = ps.length)
    (hbody : ∀ (f : Addr) (cdv : Value) (A : Around) (outer : List Env) (s : Shared) (H : Hp) (vs : List V) (Q : VK) (E : XK), Room k (A.deeper (envOfC x (defScope st) s.heap.objs.size f cdv)) → sp vs H Q E →
      ∃ t, PSs (cxOf CX0 P w K mg base N x (defScope st) f cdv A outer s H E).nox (defBody st) t ∧ t { nx := fun _ H' => Q .non H', rt := Q } (start N vs) H) : Cal P w K mg base CX0 (k + 1) x ps sp := by
  obtain ⟨f, fd, hm, F, hb⟩ := F
  exact ⟨f, fd, hm, F.kp, hb, F.ok S len fun cdv A outer s H vs Q E hr h => hbody f cdv A outer s H vs Q E hr h⟩

/-! ### is_box, is_plain -/
abbrev sis_box : Stmt := top 19
abbrev Nis_box : List Str := ["thing"]
theorem scis_box : FnScope Nis_box ["thing"] (defScope sis_box) := ⟨rfl, rfl, rfl, by decide +kernel, rfl, by decide +kernel, by decide +kernel⟩
def spIsBox : Sp := fun vs H Q _ => ∃ i : Int, vs = [.int i] ∧ 0 ≤ i ∧ i < 4 ∧ Q (.bl true) H
theorem kit_int_int : PySem.W.kitOne K (.type "int") (.type "int") = some true := kit_ty (by decide +kernel)
theorem kit_int_bool : PySem.W.kitOne K (.type "int") (.type "bool") = some false := kit_ty (by decide +kernel)
theorem ok_is_box (F : FnAt K mg "is_box" sis_box ["thing"]) (T : Txt K mg) : Cal P w K mg base CX0 1 "is_box" ["thing"] spIsBox := by
  refine cal_mk F scis_box (fun vs H Q E h => ?_) (fun f cdv A outer s H vs Q E hr h => ?_)
  · obtain ⟨i, rfl, _⟩ := h
    rfl
  · obtain ⟨i, rfl, h0, h4, q⟩ := h
    have nd := scis_box.nd
    refine ⟨_, (pss_one (ps_ret (pe_and (pe_callB call_isi (by rfl) T.n_isinstance (by decide +kernel) (pa_cons (pv 0) (pa_cons (pe_bltn (v := .ty "int") (by rfl) T.n_int (by decide +kernel) rfl) pa_nil))) (pe_and (pe_not (pe_callB call_isi (by rfl) T.n_isinstance (by decide +kernel) (pa_cons (pv 0) (pa_cons (pe_bltn (v := .ty "bool") (by rfl) T.n_bool (by decide +kernel) rfl) pa_nil)))) (pe_one (pe_chain op_le op_lt pe_int (pv 0) (pe_gc rfl T.c_BOXES))))))), ?_⟩
    walk_at "g"
    refine go_isi (.ty "int") (.base (.int _)) kit_int_int ?_
    walk_at "g"
    refine go_isi (.ty "bool") (.base (.int _)) kit_int_bool ?_
    walk_at "g"
    have e : decide (i < 4) = true := decide_eq_true h4
    rw [e]
    exact q
end
end Fj
set_option maxHeartbeats 4000000
namespace Fj
open PySem PySem.Spec PyProof.Rows L2
section
variable {P : Program} {w : World} {K : PySem.W.Frag} {mg : Str → Option Value} {base : Heap}
/-! ### is_plain -/
abbrev sis_plain : Stmt := top 20
abbrev Nis_plain : List Str := ["thing"]
theorem scis_plain : FnScope Nis_plain ["thing"] (defScope sis_plain) := ⟨rfl, rfl, rfl, by decide +kernel, rfl, by decide +kernel, by decide +kernel⟩
def spIsPlain : Sp := fun vs H Q _ => ∃ i : Int, vs = [.int i] ∧ -2147483648 ≤ i ∧ i ≤ 2147483647 ∧ Q (.bl true) H
theorem ok_is_plain (F : FnAt K mg "is_plain" sis_plain ["thing"]) (T : Txt K mg) : Cal P w K mg base CX0 1 "is_plain" ["thing"] spIsPlain := by
  refine cal_mk F scis_plain (fun vs H Q E h => ?_) (fun f cdv A outer s H vs Q E hr h => ?_)
  · obtain ⟨i, rfl, _⟩ := h
    rfl
  · obtain ⟨i, rfl, h0, h4, q⟩ := h
    have nd := scis_plain.nd
    refine ⟨_, (pss_one (ps_ret (pe_and (pe_callB (isiK (K := K) rfl) (by rfl) T.n_isinstance (by decide +kernel) (pa_cons (pv 0) (pa_cons (pe_bltn (v := .ty "int") (by rfl) T.n_int (by decide +kernel) rfl) pa_nil))) (pe_and (pe_not (pe_callB (isiK (K := K) rfl) (by rfl) T.n_isinstance (by decide +kernel) (pa_cons (pv 0) (pa_cons (pe_bltn (v := .ty "bool") (by rfl) T.n_bool (by decide +kernel) rfl) pa_nil)))) (pe_one (pe_chain op_le op_le (pe_gc rfl T.c_LEAST) (pv 0) (pe_gc rfl T.c_GREATEST))))))), ?_⟩
    walk_at "g"
    refine go_isi (.ty "int") (.base (.int _)) kit_int_int ?_
    walk_at "g"
    refine go_isi (.ty "bool") (.base (.int _)) kit_int_bool ?_
    walk_at "g"
    have e : decide (i ≤ 2147483647) = true := decide_eq_true h4
    rw [e]
    exact q
/-! ### is_word -/
abbrev sis_word : Stmt := top 12
abbrev Nis_word : List Str := ["thing", "sign"]
theorem scis_word : FnScope Nis_word ["thing"] (defScope sis_word) := ⟨rfl, rfl, rfl, by decide +kernel, rfl, by decide +kernel, by decide +kernel⟩
def small : Str := "abcdefghijklmnopqrstuvwxyz"
structure IsW (z : Str) : Prop where
  lo : 1 ≤ z.length
  hi : z.length ≤ 8
  sg : ∀ c ∈ z.cps.toList, c ∈ small.cps.toList
def spIsWord : Sp := fun vs H Q _ => ∃ z : Str, vs = [.str z] ∧ IsW z ∧ ∀ H', Same H H' → Q (.bl true) H'
theorem kit_str_str : PySem.W.kitOne K (.type "str") (.type "str") = some true := kit_ty (by decide +kernel)
theorem ok_is_word (F : FnAt K mg "is_word" sis_word ["thing"]) (T : Txt K mg) : Cal P w K mg base CX0 1 "is_word" ["thing"] spIsWord := by
  refine cal_mk F scis_word (fun vs H Q E h => ?_) (fun f cdv A outer s H vs Q E hr h => ?_)
  · obtain ⟨i, rfl, _⟩ := h
    rfl
  · obtain ⟨z, rfl, hw, q⟩ := h
    have nd := scis_word.nd
    refine ⟨_, (pss_cons (ps_if (PW.pt (pw_or (pt_not (pt_val (pe_callB (isiK (K := K) rfl) (by rfl) T.n_isinstance (by decide +kernel) (pa_cons (pv 0) (pa_cons (pe_bltn (v := .ty "str") (by rfl) T.n_str (by decide +kernel) rfl) pa_nil))))) (pw_or1 (pt_not (pt_chain op_le op_le pe_int (pe_callB cl_lenT (by rfl) T.n_len (by decide +kernel) (pa_cons (pv 0) pa_nil)) (pe_gc rfl T.c_MOST_LETTERS)))))) (pss_one (ps_ret pe_bl)) pss_nil)
      (pss_one (ps_ret (pe_callB (allK (K := K) rfl rfl) (by rfl) T.n_all (by decide +kernel) (pa_cons (pe_lc (own := [("sign", 1)]) (g := gName 1) (tt := tYes) (by rfl) nd (pi_str (pv 0)) (blkOk_by (N := Nis_word) (sc := (defScope sis_word)) (by decide +kernel)) (fun _ _ _ _ _ => (pg_name (i := 1) nd rfl (Or.inl rfl))) (fun _ _ _ _ _ => pts_nil) (fun _ _ _ _ _ => (pe_cmpR op_inSign (pv 1) (pe_gc rfl T.c_SMALL) (by rfl)))) pa_nil))))), ?_⟩
    have hl := hw.lo
    have hh := hw.hi
    walk_at "g"
    refine go_isi (.ty "str") (.base (.str _)) kit_str_str ?_
    walk_at "g"
    intro D hD
    refine lc_gen (Its z) z.cps.toList (fun _ => true) (fun y _ _ => y = .bl true) (fun _ _ _ _ _ _ _ r => r) (by show z.cps.toList.length ≤ 100000; rw [Array.length_toList]; exact Nat.le_trans hh (by decide)) hD
      (fun i H1 h _ => by show i < z.cps.size; rw [← Array.length_toList]; exact h) (fun H1 _ => by show z.cps.size ≤ z.cps.toList.length; rw [Array.length_toList]; exact Nat.le_refl _) ?_ ?_
    · rintro i x c H1 H2 hc _ ⟨rfl, c', hc', rfl⟩ NY NN ny _
      have e : c' = c := by
        rw [Array.getElem?_toList, hc'] at hc
        exact Option.some.inj hc
      subst e
      have hm : c' ∈ small.cps.toList := hw.sg c' (List.mem_of_getElem? hc)
      walk_at "g"
      refine ⟨rfl, ?_⟩
      walk_at "g"
      exact ny _ _ rfl (Same.refl _) (congrArg V.bl (decide_eq_true hm))
    · intro H1 acc s1 hacc hp
      have ea : acc = (z.cps.toList.map fun _ => true).map V.bl := by
        rw [List.map_map]
        have z1 := paired_eq hp
        rw [List.filter_eq_self.mpr (fun _ _ => rfl)] at z1
        exact z1
      rw [ea] at hacc
      walk_at "g"
      refine go_all (SqL.of hacc) ?_
      have eb : (z.cps.toList.map fun _ => true).all id = true := by simp
      rw [eb]
      exact q _ s1
/-! ### _law_cell_at -/
abbrev slaw_cell_at : Stmt := top 66
abbrev Nlaw_cell_at : List Str := ["_law_script", "_law_k"]
theorem sclaw_cell_at : FnScope Nlaw_cell_at ["_law_script", "_law_k"] (defScope slaw_cell_at) := ⟨rfl, rfl, rfl, by decide +kernel, rfl, by decide +kernel, by decide +kernel⟩
def spCellAt (K : PySem.W.Frag) : Sp := fun vs H Q _ => ∃ (a : Addr) (ns : List Int) (i : Int), vs = [.ref a, .int i] ∧ SqL K H a (ns.map V.int) ∧ 0 ≤ i ∧ ∀ z : Int, Q (.int z) H
theorem ok_cell_at (F : FnAt K mg "_law_cell_at" slaw_cell_at ["_law_script", "_law_k"]) (T : Txt K mg) : Cal P w K mg base CX0 1 "_law_cell_at" ["_law_script", "_law_k"] (spCellAt K) := by
  refine cal_mk F sclaw_cell_at (fun vs H Q E h => ?_) (fun f cdv A outer s H vs Q E hr h => ?_)
  · obtain ⟨a, ns, i, rfl, _⟩ := h
    rfl
  · obtain ⟨a, ns, i, rfl, hS, h0, q⟩ := h
    have nd := sclaw_cell_at.nd
    refine ⟨_, (pss_cons (ps_if (pt_cmpR op_lt (pv 1) (pe_callB (lenK (K := K) rfl) (by rfl) T.n_len (by decide +kernel) (pa_cons (pv 0) pa_nil)) (nomark _)) (pss_one (ps_ret (pe_ix (ixlK (K := K) rfl) (pv 0) (pv 1) (fun _ _ => rfl)))) pss_nil)
      (pss_one (ps_ret pe_int))), ?_⟩
    walk_at "g"
    refine ite2 (fun hi => ?_) (fun _ => ?_)
    · have hi := of_decide_eq_true hi
      rw [List.length_map] at hi
      obtain ⟨j, rfl⟩ : ∃ j : Nat, i = (j : Int) := ⟨i.toNat, by omega⟩
      have hj : j < ns.length := by omega
      walk_at "g"
      refine go_ixL (v := .int ns[j]) hS (atI_nat (by rw [List.getElem?_map, List.getElem?_eq_getElem hj]; rfl)) ?_
      exact q _
    · walk_at "g"
      exact q _
/-! ### _law_mixed -/
abbrev slaw_mixed : Stmt := top 67
abbrev Nlaw_mixed : List Str := ["_law_cell", "_law_k", "_law_number_here"]
theorem sclaw_mixed : FnScope Nlaw_mixed ["_law_cell", "_law_k"] (defScope slaw_mixed) := ⟨rfl, rfl, rfl, by decide +kernel, rfl, by decide +kernel, by decide +kernel⟩
def spMixed : Sp := fun vs H Q _ => ∃ c k : Int, vs = [.int c, .int k] ∧ 0 ≤ k ∧ k ≤ 1000 ∧ ∀ z : Int, 0 ≤ z → z < 2147483647 → Q (.int z) H
theorem ok_mixed (F : FnAt K mg "_law_mixed" slaw_mixed ["_law_cell", "_law_k"]) (T : Txt K mg) : Cal P w K mg base CX0 1 "_law_mixed" ["_law_cell", "_law_k"] spMixed := by
  refine cal_mk F sclaw_mixed (fun vs H Q E h => ?_) (fun f cdv A outer s H vs Q E hr h => ?_)
  · obtain ⟨c, k, rfl, _⟩ := h
    rfl
  · obtain ⟨c, k, rfl, h0, h1, q⟩ := h
    have nd := sclaw_mixed.nd
    refine ⟨_, (pss_cons (ps_set (i := 2) nd rfl (Or.inl rfl) (pe_op op_mod (pe_op op_mul (pe_op op_add (pe_op op_add (pe_op op_mod (pv 0) pe_int) (pe_op op_mul pe_int (pv 1))) pe_int) pe_int) pe_int))
      (pss_cons (ps_set (i := 2) nd rfl (Or.inl rfl) (pe_op op_mod (pe_op op_mul (pv 2) (pe_op op_add (pe_op op_fdiv (pv 2) pe_int) pe_int)) pe_int))
      (pss_one (ps_ret (pe_op op_mod (pe_op op_mul (pe_op op_add (pv 2) (pe_op op_mul pe_int (pv 1))) (pe_op op_add (pe_op op_fdiv (pv 2) pe_int) pe_int)) pe_int))))), ?_⟩
    have md : ∀ (a m : Int), 0 < m → 0 ≤ a % m ∧ a % m < m := fun a m h => ⟨Int.emod_nonneg _ (by omega), Int.emod_lt_of_pos _ h⟩
    walk_at "g"
    refine go_I (by decide) ?_
    have a1 := md c 2147483647 (by decide)
    generalize c % 2147483647 = x1 at a1 ⊢
    walk_at "g"
    refine go_I (.inl (by decide)) ?_
    walk_at "g"
    refine go_I (.inr (by decide)) ?_
    walk_at "g"
    refine go_I (by decide) ?_
    have a2 := md ((x1 + 7919 * k + 1) * 48271) 2147483647 (by decide)
    generalize ((x1 + 7919 * k + 1) * 48271) % 2147483647 = x2 at a2 ⊢
    walk_at "g"
    refine go_I ⟨by decide, by decide⟩ ?_
    walk_at "g"
    refine go_I (.inl ⟨by omega, by omega⟩) ?_
    walk_at "g"
    refine go_I (by decide) ?_
    have a3 := md (x2 * (x2 / 1009 + 69621)) 2147483647 (by decide)
    generalize (x2 * (x2 / 1009 + 69621)) % 2147483647 = x3 at a3 ⊢
    walk_at "g"
    refine go_I (.inl (by decide)) ?_
    walk_at "g"
    refine go_I ⟨by decide, by decide⟩ ?_
    walk_at "g"
    refine go_I (.inl ⟨by omega, by omega⟩) ?_
    walk_at "g"
    refine go_I (by decide) ?_
    have a4 := md ((x3 + 31 * k) * (x3 / 16807 + 40692)) 2147483629 (by decide)
    exact q _ a4.1 (by omega)
end
end Fj
set_option maxHeartbeats 4000000
/-! sorted: a dict's text keys, any number; a list of tuples (text, object), the texts unlike -/
namespace FjS
open PySem PyProof.Rows SrtO
def sv : Value → List Nat
  | .str x _ => x.cps.toList
  | _ => []
def ltSv (v u : Value) : Bool := decide (sv v < sv u)
theorem swo_key {α : Type} (k : α → List Nat) : Swo fun v u => decide (k v < k u) := by
  refine ⟨fun x y h => ?_, fun x y z h1 h2 => ?_⟩
  · have a := of_decide_eq_true h
    exact decide_eq_false (List.lt_asymm a)
  · have a : k x ≤ k y := List.not_lt.mp (of_decide_eq_false h1)
    have b : k y ≤ k z := List.not_lt.mp (of_decide_eq_false h2)
    exact decide_eq_false (List.not_lt.mpr (List.le_trans a b))
section
variable {prog : Program} {w : World} {A : Around} {E : Value → Shared → Prop} {s : Shared}
theorem strs_mem : ∀ {vs : List Value} {ns : List Str}, StrsAre vs ns → ∀ v ∈ vs, ∃ i t, v = Value.str i t
  | _, _, .nil, v, h => absurd h (by simp)
  | _, _, .cons n t r, v, h => by
    rcases List.mem_cons.mp h with e | h
    · exact ⟨n, t, e⟩
    · exact strs_mem r v h
theorem str_cmp {vs : List Value} {ns : List Str} (hI : StrsAre vs ns) : Cmp prog w A s oneType' (fun p => p.1 ∈ vs) (lt2 ltSv) := by
  intro p q hm hm'
  obtain ⟨a, t, e⟩ := strs_mem hI _ hm
  obtain ⟨b, u, e'⟩ := strs_mem hI _ hm'
  show wpAny (model prog w) A (keyLt' oneType' p.1 q.1) (fun r s' => s' = s ∧ r = ltSv p.1 q.1) (fun _ _ => False) s
  rw [e, e', keyLt'_oneType]
  exact oneLt_str ⟨rfl, rfl⟩
theorem strs_sortable {a : Addr} {vs : List Value} {ns : List Str} (hI : StrsAre vs ns) (h2 : 2 ≤ vs.length) : SortableO prog w A s a vs ltSv := by
  intro h' _
  refine ⟨oneType', fun Q E hq => ?_, str_cmp hI⟩
  match vs, hI, h2 with
  | v1 :: v2 :: rest, hI, _ =>
    rw [keyKind_strs hI]
    exact wpAny_pure hq
  | [], _, h => exact absurd h (by decide)
  | [v], _, h => exact absurd h (by simp)
def sOf : Value → Str
  | .str x _ => x
  | _ => ⟨#[]⟩
theorem strs_of : ∀ {vs : List Value}, (∀ v ∈ vs, ∃ i t, v = Value.str i t) → StrsAre vs (vs.map sOf)
  | [], _ => .nil
  | v :: vs, h => by
    obtain ⟨i, t, e⟩ := h v List.mem_cons_self
    subst e
    exact .cons i t (strs_of fun u hu => h u (List.mem_cons_of_mem _ hu))
theorem of_strs : ∀ {vs : List Value} {ns : List Str}, StrsAre vs ns → vs.map sOf = ns
  | _, _, .nil => rfl
  | _, _, .cons n t r => congrArg (n :: ·) (of_strs r)
theorem strs_out {vs out : List Value} {ns : List Str} (hI : StrsAre vs ns) (hs : Srtd ltSv out) (hb : Stb ltSv out vs) : StrsAre out (out.map sOf) ∧ (out.map sOf).Perm ns ∧ (out.map sOf).Pairwise (fun x y => ¬ y.cps.toList < x.cps.toList) := by
  have hm : ∀ v ∈ out, ∃ i t, v = Value.str i t := fun v hv => strs_mem hI v (hb.perm.mem_iff.mp hv)
  refine ⟨strs_of hm, ?_, ?_⟩
  · have q := hb.perm.map sOf
    rw [of_strs hI] at q
    exact q
  · refine List.pairwise_map.mpr (List.Pairwise.imp_of_mem (fun {x y} hx hy h => ?_) hs)
    obtain ⟨a, t, rfl⟩ := hm x hx
    obtain ⟨b, u, rfl⟩ := hm y hy
    exact of_decide_eq_false (p := b.cps.toList < a.cps.toList) h
/-! ### tuples (text, object), the texts unlike -/
def IsNP (h : Heap) (v : Value) (z : Str) : Prop := ∃ a o t l n, v = .ref a ∧ h.get? a = some o ∧ o.cls = .type "tuple" ∧ o.data = .seq #[.str z t, .ref l] n
theorem IsNP.keeps {h h' : Heap} {v : Value} {z : Str} (p : IsNP h v z) (k : ∀ b o, h.get? b = some o → o.cls = .type "tuple" → h'.get? b = some o) : IsNP h' v z := by
  obtain ⟨a, o, t, u, n, e, ho, hc, hd⟩ := p
  exact ⟨a, o, t, u, n, e, k _ _ ho hc, hc, hd⟩
theorem np_cmp {vs : List Value} {k : Value → Str} (hp : ∀ v ∈ vs, IsNP s.heap v (k v)) (hu : ∀ v ∈ vs, ∀ u ∈ vs, k v = k u → v = u) :
    Cmp prog w A s (tuples' true) (fun p => p.1 ∈ vs) (lt2 fun v u => decide ((k v).cps.toList < (k u).cps.toList)) := by
  intro p q hm hm'
  have h1 := hp _ hm
  have h2 := hp _ hm'
  have h3 := hu _ hm _ hm'
  show wpAny (model prog w) A (keyLt' (tuples' true) p.1 q.1) (fun r s' => s' = s ∧ r = decide ((k p.1).cps.toList < (k q.1).cps.toList)) (fun _ _ => False) s
  generalize k p.1 = x at h1 h3 ⊢
  generalize k q.1 = x' at h2 h3 ⊢
  obtain ⟨a, o, t, u, n, e, ho, hc, hd⟩ := h1
  obtain ⟨a', o', t', u', n', e', ho', hc', hd'⟩ := h2
  rw [e, e'] at h3 ⊢
  refine PySem.W.kat_lt ho hd ho' hd' ?_
  show PySem.W.KatLex prog w A true (decide (2 < 2)) _ [(.str x t, .str x' t'), (.ref u, .ref u')] 0 s
  refine PySem.W.kat_cons (wpAny_eqBool_str ?_)
  by_cases ex : x = x'
  · have ea : a = a' := by
      have z := h3 ex
      injection z
    subst ea
    have eo : some o = some o' := ho.symm.trans ho'
    cases eo
    rw [hd] at hd'
    injection hd' with z1 z2
    have eu : u = u' := by
      have z3 : ([Value.str x t, Value.ref u] : List Value) = [Value.str x' t', Value.ref u'] := by simpa using congrArg Array.toList z1
      injection z3 with _ z4
      injection z4 with z5 _
      injection z5
    subst eu
    rw [decide_eq_true ex]
    refine PySem.W.kat_yes (PySem.W.kat_cons (SeqAt.EqAt.same (.ref u) prog w _ _ ?_))
    have e3 : decide (x.cps.toList < x'.cps.toList) = false := by
      rw [ex]
      exact decide_eq_false (List.lt_irrefl _)
    exact PySem.W.kat_yes (PySem.W.kat_nil ⟨rfl, e3.symm⟩)
  · rw [decide_eq_false ex]
    exact PySem.W.kat_no (oneLt_str ⟨rfl, rfl⟩)
theorem np_firsts {h : Heap} {k : Value → Str} : ∀ {vs : List Value}, (∀ v ∈ vs, IsNP h v (k v)) → ∃ fs : List Value, PySem.W.KatTups h vs fs ∧ fs.length = vs.length ∧ ∀ f ∈ fs, ∃ x t, f = Value.str x t
  | [], _ => ⟨[], PySem.W.KatTups.nil, rfl, fun _ hm => by simp at hm⟩
  | v :: vs, hp => by
    obtain ⟨fs, h1, h2, h3⟩ := np_firsts (vs := vs) fun v' hm => hp v' (List.mem_cons_of_mem _ hm)
    obtain ⟨a, o, t, u, n, e, ho, hc, hd⟩ := hp v (List.mem_cons_self ..)
    generalize k v = x at hd
    subst e
    refine ⟨.str x t :: fs, PySem.W.KatTups.cons ho hc hd rfl h1, by rw [List.length_cons, List.length_cons, h2], fun f hm => ?_⟩
    rcases List.mem_cons.mp hm with rfl | hm
    · exact ⟨x, t, rfl⟩
    · exact h3 f hm
theorem np_sortable {a : Addr} {vs : List Value} {k : Value → Str} (h0 : 0 < vs.length) (hp : ∀ v ∈ vs, IsNP s.heap v (k v)) (hu : ∀ v ∈ vs, ∀ u ∈ vs, k v = k u → v = u) (ha : ∀ o, s.heap.get? a = some o → o.cls ≠ .type "tuple") :
    SortableO prog w A s a vs fun v u => decide ((k v).cps.toList < (k u).cps.toList) := by
  intro h' keep
  have hp' : ∀ v ∈ vs, IsNP h' v (k v) := fun v hm => (hp v hm).keeps fun b o e c => keep b o (fun z => by subst z; exact ha o e c) e
  obtain ⟨fs, h1, h2, h3⟩ := np_firsts hp'
  refine ⟨tuples' true, fun Q E hq => ?_, np_cmp hp' hu⟩
  refine PySem.W.kat_kind (T := .type "str") h1 (by omega) (fun f hm => ?_) (by rfl) ?_
  · obtain ⟨x, t, rfl⟩ := h3 f hm
    exact PySem.W.Looks.now
  · have e : (Value.type "str" != Value.type "tuple") = true := by first | decide +kernel | rfl | decide
    rw [e]
    exact hq
end
end FjS
namespace Fj
open PySem PySem.Spec PyProof.Rows L2
/-- texts in order -/
def SrtdS (ys : List Str) : Prop := ys.Pairwise (fun x y => ¬ y.cps.toList < x.cps.toList)
/-- sorted(d), d a dict of text keys -/
def rSortDA : List V → Hp → VK → Prop := fun xs H Q => ∃ (a : Addr) (kvs : List (Key × V)) (ks : List Str), xs = [.ref a] ∧ Rd H a (.dK kvs) ∧ kvs.map (·.1) = ks.map Sum.inr ∧
  ∀ ys p, ys.Perm ks → SrtdS ys → H p = none → Q (.ref p) (upd H p (.lst (ys.map V.str)))
/-- sorted(xs), xs a list of tuples (text, object), the texts unlike -/
def rSortNP (K : PySem.W.Frag) : List V → Hp → VK → Prop := fun vs H Q => ∃ (a : Addr) (xs : List V) (k : V → Str), vs = [V.ref a] ∧ SqL K H a xs ∧ (∀ x ∈ xs, ∃ t l, x = V.ref t ∧ SqT K H t [.str (k x), .ref l]) ∧
  (∀ x ∈ xs, ∀ y ∈ xs, k x = k y → x = y) ∧
  ∀ ys p, ys.Perm xs → SrtdS (ys.map k) → H p = none → Q (.ref p) (upd H p (.lst ys))
section
variable {X : Cx}
theorem cl_sortDA (hcalm : X.calm = true) : CallR X (.builtin "sorted") rSortDA := by
  intro pins s σ H xs us Q I r q
  obtain ⟨a, kvs, ks, ex, hd, hks, q⟩ := q
  subst ex
  obtain ⟨u, eu, rx⟩ := vals1 r
  subst eu
  cases rx
  obtain ⟨z, lo, vs, rel, dd⟩ := dk_rd I.hok hd
  obtain ⟨ep, hat⟩ := dd.dictAt
  have hkeys : vs.map (·.1) = ks.map Sum.inr := rel.keys.symm.trans hks
  have hl : vs.length = ks.length := by
    have e := congrArg List.length hkeys
    rw [List.length_map, List.length_map] at e
    exact e
  have h16 : vs.length ≤ sizeLine := by
    have e := congrArg List.length hks
    rw [List.length_map, List.length_map] at e
    rw [hl, ← e]
    exact z
  refine Calls.call_function_entry PyProof.Rows.kind_sorted PyProof.Rows.plain_sorted PyProof.Rows.entry_sorted (PyProof.Rows.args_sorted1 _) ?_
  unfold Builtin.«sorted»
  refine wpAny_bind (m := checkCount "sorted" 1 1 _) (wpAny_pure ?_)
  refine wpAny_bind (PySem.W.kdu_collect (A := X.A.in1) (PySem.W.kdl_dict (knd := mixKind X.prog X.w) (kvs := vs) (ep := ep) lo) (I.ok.hd hcalm) hat h16 fun h' tk acc hk hacc => ?_)
  have hal : acc.toList.length = ks.length := by rw [Array.length_toList, hacc.1, hl]
  have hS : StrsAre acc.toList ks := strs_at hal fun j v e => by
    obtain ⟨k, x, e1, e2⟩ := hacc.2 j v (by rw [← Array.getElem?_toList]; exact e)
    have e3 : (vs.map (·.1))[j]? = some k := by rw [List.getElem?_map, e1]; all_goals rfl
    rw [hkeys, List.getElem?_map] at e3
    cases e4 : ks[j]? with
    | none => rw [e4] at e3; cases e3
    | some y =>
      rw [e4] at e3
      have e5 : Sum.inr y = k := Option.some.inj e3
      subst e5
      obtain ⟨t, ev⟩ := Value.isStrOf_shape (x := y) (v := v) e2
      exact ⟨y, t, rfl, ev⟩
  have I1 : Inv X pins σ H { s with heap := h', toks := tk } := I.kept hk
  refine wpAny_bind (wpAny_newList ?_ (by rw [hal, ← hl]; exact h16))
  have hoL : (h'.push (seqObj "list" acc.toList.toArray 0)).get? h'.objs.size = some (seqObj "list" acc.toList.toArray 0) := Heap.get?_push_size _ rfl
  show wpAny _ _ _ _ _ { s with heap := h'.push (seqObj "list" acc.toList.toArray 0), toks := tk }
  refine wpAny_bind (wpAny_holding (wpAny_call_entry PyProof.Rows.slot_list_sort ⟨_, hoL, rfl⟩ PyProof.Rows.entry_list_sort
    (SrtO.list_sort_ord (FjS.swo_key FjS.sv) (s := { s with heap := h'.push (seqObj "list" acc.toList.toArray 0), toks := tk }) hoL (by rw [hal, ← hl]; exact h16) (fun h2 => FjS.strs_sortable hS h2) fun out hs hb => ⟨_, rfl, ?_⟩)
    (PyProof.Rows.args_list_sort _)))
  obtain ⟨g1, g2, g3⟩ := FjS.strs_out hS hs hb
  obtain ⟨e', he'⟩ := PyProof.Rows.sortedHeap_at (vs := acc.toList) (out := out.toArray) hoL
  have hlen : ((out.map FjS.sOf).map V.str).length ≤ sizeLine := by
    rw [List.length_map, g2.length_eq, ← hl]
    exact h16
  refine wpAny_pure ⟨_, rfl, .ref h'.objs.size, upd H h'.objs.size (.lst ((out.map FjS.sOf).map V.str)), I1.laid (t' := tk) (fun b u e => ?_) (Nat.le_refl _)
    (show ObjOk X.prog X.w _ _ _ (.lst ((out.map FjS.sOf).map V.str)) from ⟨hlen, out, e', vals_of_strs g1, he'⟩), rfl, q _ _ g2 g3 (I1.hok.fresh (Nat.le_refl _))⟩
  have hb : b < h'.objs.size := Heap.lt_size e
  rw [PyProof.Rows.sortedHeap_old (Nat.ne_of_lt hb) (by rw [size_push']; exact Nat.lt_succ_of_lt hb)]
  exact Heap.get?_push_of_some _ e
theorem cl_sortNP : CallR X (.builtin "sorted") (rSortNP X.K) := by
  intro pins s σ H vs us Q I r h
  obtain ⟨a, xs, k, rfl, hs, hx, hu, q⟩ := h
  obtain ⟨its, rv, hl, hz⟩ := I.list hs
  obtain ⟨u, rfl, ru⟩ := vals1 r
  obtain rfl : u = Value.ref a := ru
  obtain ⟨e1, e2⟩ := refs_back rv fun x m => by
    obtain ⟨t, _, e, _⟩ := hx x m
    exact ⟨t, e⟩
  have hin : ∀ v ∈ its, backV v ∈ xs := fun v hv => by rw [e1]; exact List.mem_map.mpr ⟨_, hv, rfl⟩
  have hp : ∀ v ∈ its, FjS.IsNP s.heap v (k (backV v)) := fun v hv => by
    have hm := hin v hv
    obtain ⟨t, rfl⟩ := e2 v hv
    obtain ⟨t', l, e, ht⟩ := hx _ hm
    cases e
    obtain ⟨its2, r2, ⟨o, ho, hc, n, hd⟩, _⟩ := I.tuple ht
    obtain ⟨u1, u2, rfl, ri, rj⟩ := vals2 r2
    obtain ⟨t1, rfl⟩ := ri
    cases rj
    exact ⟨t, o, t1, l, n, rfl, ho, hc, hd⟩
  have hu' : ∀ v ∈ its, ∀ u ∈ its, k (backV v) = k (backV u) → v = u := fun v hv u hw e => by
    have z := hu _ (hin v hv) _ (hin u hw) e
    obtain ⟨b, rfl⟩ := e2 v hv
    obtain ⟨c, rfl⟩ := e2 u hw
    have z' : V.ref b = V.ref c := z
    cases z'
    rfl
  refine SrtO.sorted_ord (FjS.swo_key fun v => (k (backV v)).cps.toList) hl.isList (by rw [← rv.length]; exact hz) (fun h2 h₁ a' ha kk => ?_) fun out h1 h2 => ?_
  · refine FjS.np_sortable (s := { s with heap := h₁ }) (by omega) (fun v hm => (hp v hm).keeps fun b o e _ => (kk b o e).2) hu' fun o e => ?_
    have e' : some o = some (seqObj "list" its.toArray 0) := e.symm.trans ha
    cases e'
    intro c
    exact absurd (Value.type.inj c) (by decide)
  · have h3 : ∀ u ∈ out, ∃ a, u = Value.ref a := fun u hu => e2 u (h2.perm.mem_iff.mp hu)
    obtain ⟨ep, he'⟩ := PyProof.Rows.sortedAll_at s.heap its out.toArray
    have hperm : (out.map backV).Perm xs := by
      rw [e1]
      exact h2.perm.map backV
    refine ⟨.ref _, upd H (s.heap.objs.size + 1) (.lst (out.map backV)), I.laid (t' := s.toks) (fun _ _ => PyProof.Rows.sortedAll_old) (Nat.le_succ _) ⟨?_, out, ep, vals_back h3, he'⟩, rfl, q _ _ hperm ?_ (I.hok.fresh (Nat.le_succ _))⟩
    · rw [hperm.length_eq]
      exact hz
    · unfold SrtdS
      rw [List.map_map]
      exact List.pairwise_map.mpr (h1.imp fun {x y} h => of_decide_eq_false h)
end
end Fj
set_option maxHeartbeats 4000000
namespace Fj
open PySem PySem.Spec PyProof.Rows L2
abbrev spart_name : Stmt := top 59
abbrev Npart_name : List Str := ["part"]
theorem scpart_name : FnScope Npart_name ["part"] (defScope spart_name) := ⟨rfl, rfl, rfl, by decide +kernel, rfl, by decide +kernel, by decide +kernel⟩
section
variable {prog : Program} {w : World} {A : Around} {E : Value → Shared → Prop} {s : Shared} {K : PySem.W.Frag}
theorem ldP {M : Model} {s : Shared} {A : Around} {E : Value → Shared → Prop} {env : Env} {m : Str → Option Value} {x : Str} {pos : Pos} {v : Value} {Q : Value → Shared → Prop} (hn : s.heap.Ns env.locals m) (hv : m x = some v) (h : Q v s)
    (hk : env.scope.kind = .function := by rfl) (hl : env.kindOf x = some .local := by rfl) (hd : (x == ("__debug__" : Str)) = false := by decide) : wpAny M A (eval (.Name x pos) env) Q E s := wpAny_Name (wpAny_loadName_local hk hl hn hv h) hd
/-- part_name(t), the heap kept -/
theorem part_name_pure {f : Addr} {fd : FuncData} (F : Fun K "part_name" "part_name" spart_name f fd) (X : K.In s.heap) (hlim : s.heap.NoLimit) (hroom : A.depth < recursionLimit) {a : Addr} {z : Str} {t : Tok} {u : Value} (ht : IsTup s.heap a #[.str z t, u]) :
    wpAny (model prog w) A (call (.ref f) [.ref a]) (PySem.W.KeyPure (.str z) s) E s := by
  obtain ⟨oc, od, kV, doc, pm, an, cdv, ct, osl, rfl, lk, hcd⟩ := F.ex
  refine wpAny_call (Att.call_fn (binds := [("part", .ref a)]) X hlim lk hcd hroom (BindsTo.of_eq (by first | rfl | with_unfolding_all rfl)) (by first | rfl | decide | with_unfolding_all rfl) (fun s₁ IC => ?_) rfl rfl rfl)
  obtain ⟨h₁, tk₁, rfl⟩ := IC.toInCall.same
  have k : ∀ b o, s.heap.get? b = some o → h₁.get? b = some o := IC.toInCall.keep
  have hn := IC.toInCall.ns
  obtain ⟨o, ho, hc, n, hd⟩ := ht
  have ht1 : IsTup h₁ a #[.str z t, u] := ⟨o, k _ _ ho, hc, n, hd⟩
  show wpAny _ _ (execs _ _) _ _ _
  refine wpAny_execs_cons (wpAny_Return_some (Subscript_ (ldP (v := .ref a) hn (by first | rfl | with_unfolding_all rfl | kernel_rfl) (wpAny_Constant_int ?_))))
  refine subscriptTail_builtinR (x := .str z t) ht1.typeIs slot_tuple_getitem.lookup (getItem_tuple (j := 0) ht1 (by decide) (by decide) (by rfl) (by rfl) ⟨rfl, ?_⟩) rfl
  exact ⟨h₁, _, rfl, k, .str z t⟩
end
/-- sorted(xs, key=part_name), xs a list of tuples (text, a value) -/
def rSortKey (K : PySem.W.Frag) (f : Addr) : List V → List V → Hp → VK → Prop := fun vs zs H Q => ∃ (a : Addr) (xs : List V) (k : V → Str), vs = [V.ref a] ∧ zs = [V.ref f] ∧ SqL K H a xs ∧ (∀ x ∈ xs, ∃ t u, x = V.ref t ∧ SqT K H t [.str (k x), u]) ∧
  ∀ ys p, ys.Perm xs → SrtdS (ys.map k) → H p = none → Q (.ref p) (upd H p (.lst ys))
theorem each_refl {α : Type} {R : α → α → Prop} : ∀ {l : List α}, (∀ x ∈ l, R x x) → PySem.W.EachIs R l l
  | [], _ => .nil
  | x :: l, h => .cons (h x List.mem_cons_self) (each_refl fun y hy => h y (List.mem_cons_of_mem _ hy))
theorem each_eq {α : Type} {P : α → Prop} : ∀ {l m : List α}, PySem.W.EachIs (fun x y => x = y ∧ P x) l m → l = m
  | _, _, .nil => rfl
  | _, _, .cons r t => by rw [r.1, each_eq t]
theorem cl_sortKey {X : Cx} {j : Nat} {f : Addr} {fd : FuncData} (hr : Room j X.A) (F : Fun X.K "part_name" "part_name" spart_name f fd) : CallRK X (.builtin "sorted") [Str.ofString "key"] (rSortKey X.K f) := by
  intro pins s σ H vs zs us ws Q I r rz h
  obtain ⟨a, xs, k, rfl, rfl, hs, hx, q⟩ := h
  obtain rfl := Vals.ref1 r
  obtain ⟨w1, rfl, e1⟩ := vals1 rz
  obtain rfl : w1 = Value.ref f := e1
  obtain ⟨its, rv, hl, hz⟩ := I.list hs
  obtain ⟨e1, e2⟩ := refs_back rv fun x m => by
    obtain ⟨t, _, e, _⟩ := hx x m
    exact ⟨t, e⟩
  have hin : ∀ v ∈ its, backV v ∈ xs := fun v hv => by rw [e1]; exact List.mem_map.mpr ⟨_, hv, rfl⟩
  have hp : ∀ v ∈ its, ∃ b t u, v = Value.ref b ∧ IsTup s.heap b #[.str (k (backV v)) t, u] := fun v hv => by
    have hm := hin v hv
    obtain ⟨t, rfl⟩ := e2 v hv
    obtain ⟨t', u, e, ht⟩ := hx _ hm
    cases e
    obtain ⟨its2, r2, tp, _⟩ := I.tuple ht
    obtain ⟨u1, u2, rfl, ri, rj⟩ := vals2 r2
    obtain ⟨t1, rfl⟩ := ri
    exact ⟨t, t1, u2, rfl, tp⟩
  refine PySem.W.sorted_key_data (b := false) (R := fun v x => v = x ∧ v ∈ its) (bs := its) (fun v => .str (k (backV v))) hl.isList (each_refl fun x hx => ⟨rfl, hx⟩)
    (PySem.W.AllAlike.of fun b b' => rfl) (PySem.W.Sortable.others fun b => ⟨fun z => (nomatch z), fun _ z => (nomatch z)⟩) (by rw [← rv.length]; exact hz) (fun x _ => ?_) (PyProof.Rows.ksk_s1 _ _) (fun _ => PyProof.Rows.ksk_l1 _ _) (fun _ => PyProof.Rows.ksk_t1 _ _) (fun v x hv hx' h tk kk => ?_) (fun out c h' tk kk fr hn hlen ho => ?_)
  · show X.A.units + 2 + 0 < cLine
    have := hr.un
    omega
  · obtain ⟨rfl, hm⟩ := hv
    obtain ⟨b, t, u, rfl, o, ho, hc, n, hd⟩ := hp v hm
    exact part_name_pure F (s := { s with heap := h, toks := tk }) (I.kIn.keeps kk) (I.nolimit.keeps kk) (by have := hr.dp; show X.A.depth < recursionLimit; omega) ⟨o, kk _ _ ho, hc, n, hd⟩
  · have eo := each_eq ho
    subst eo
    rw [PySem.W.dataLe_str] at hn
    have hperm0 := List.mergeSort_perm its (fun a b => decide ((k (backV a)).cps.toList ≤ (k (backV b)).cps.toList))
    have hsrt := List.pairwise_mergeSort (le := fun a b => decide ((k (backV a)).cps.toList ≤ (k (backV b)).cps.toList)) (fun a b c h1 h2 => decide_eq_true (List.le_trans (of_decide_eq_true h1) (of_decide_eq_true h2)))
      (fun a b => by
        rcases List.le_total (k (backV a)).cps.toList (k (backV b)).cps.toList with z | z
        · rw [decide_eq_true z] <;> rfl
        · rw [decide_eq_true z, Bool.or_true]) its
    generalize hout : its.mergeSort (fun a b => decide ((k (backV a)).cps.toList ≤ (k (backV b)).cps.toList)) = out at hn hperm0 hsrt
    have h3 : ∀ u ∈ out, ∃ a, u = Value.ref a := fun u hu => e2 u (hperm0.mem_iff.mp hu)
    have hperm : (out.map backV).Perm xs := by
      rw [e1]
      exact hperm0.map backV
    refine ⟨.ref _, upd H (s.heap.objs.size + 1) (.lst (out.map backV)), I.laid (t' := tk) kk (Nat.le_succ _) ⟨?_, out, c, vals_back h3, hn⟩, rfl, q _ _ hperm ?_ (I.hok.fresh (Nat.le_succ _))⟩
    · rw [hperm.length_eq]
      exact hz
    · unfold SrtdS
      rw [List.map_map]
      exact List.pairwise_map.mpr (hsrt.imp fun {x y} h => List.not_lt.mpr (of_decide_eq_true h))
end Fj
set_option maxHeartbeats 4000000
/-! sum(d.values()) -/
namespace Fj
open PySem PySem.Spec PyProof.Rows L2
theorem preSum_getD : ∀ is : List Int, preSum (fun i => is.getD i 0) is.length = is.sum
  | [] => rfl
  | z :: is => by
    show preSum (fun i => (z :: is).getD i 0) (is.length + 1) = (z :: is).sum
    rw [PySem.W.kdu_shift, List.sum_cons, ← preSum_getD is]
    rfl
/-- sum(o.values()), a dict with int values -/
def tSumVals (td : TE) : TE := fun σ H Q => td σ H fun x H1 => ∃ (a : Addr) (kvs : List (Key × V)) (is : List Int), x = V.ref a ∧ H1 a = some (.dK kvs) ∧ kvs.map (·.2) = is.map V.int ∧ Q (.int is.sum) H1
section
variable {X : Cx} {o : Expr} {p pos apos mpos : Pos} {td : TE}
theorem pe_sumVals (hc : X.calm = true) (hg : Gl X "sum") (hm : X.mg "sum" = none) (hd : PE X o td) (hbase : attributeBase o "values" X.env (eval o X.env) = eval o X.env := by rfl) (hline : (apos.endLine == mpos.line) = true := by rfl)
    (hse : starEach [Expr.Call (.Attribute o "values" apos) [] [] mpos] X.env = [(false, eval (Expr.Call (.Attribute o "values" apos) [] [] mpos) X.env)] := by rfl) :
    PE X (.Call (.Name "sum" p) [.Call (.Attribute o "values" apos) [] [] mpos] [] pos) (tSumVals td) := by
  refine ⟨fun pins s σ H Q I h => ?_⟩
  refine wpAny_Call_Name_kw (ld_blt I hg hm (u := .builtin "sum") (by first | rfl | decide +kernel) ?_ (by first | decide +kernel | decide) (by first | decide +kernel | decide))
  rw [hse]
  refine PySem.callWith_builtin1 (wpAny_Call_method0_late hbase hline (thn (hd.run pins s σ H _ I h) fun v s1 ⟨x, H1, I1, r1, a, kvs, is, ex, ha, hv, q⟩ => ?_))
  subst ex
  obtain rfl : v = Value.ref a := r1
  obtain ⟨_, hsys, vs, rel, dof⟩ := dk_of I1.hok ha
  obtain ⟨ep, dat⟩ := dof.dictAt
  have dat' := dat
  obtain ⟨ob, es, ho, ex, hdat, hko, hpr, hnd⟩ := dat'
  refine ⟨"dict", "dict.values", F.plainAttrs_dict, F.slot_dict_values, F.type_dict_values, ⟨ob, ho, ex.1⟩, fun b e => ?_, Calls.callWith_builtin rfl (PySem.evalArgs_none ?_)⟩
  · cases e
    exact ⟨ob, ho, ex.2.1⟩
  refine call_meetsIn F.slot_dict_values ⟨ob, ho, ex.1⟩ F.entry_dict_values (F.args_dict_values_1 _) (meets_dict_values (mixKind X.prog X.w) a hsys) ⟨⟨vs, dof⟩, ?_⟩
  have k1 : ∀ b u, s1.heap.get? b = some u → (s1.heap.push { cls := .type "dict_values", data := .fields #[.ref a] }).get? b = some u := fun b u e => Heap.get?_push_of_some _ e
  have dat1 : (s1.heap.push { cls := .type "dict_values", data := .fields #[.ref a] }).DictAt (mixKind X.prog X.w) a vs ep := dat.keep k1
  have hlv : vs.length = is.length := by
    have e1 := congrArg List.length hv
    rw [List.length_map, List.length_map] at e1
    rw [← e1]
    exact (KV.length rel).symm
  have hval : ∀ (i : Nat) (v : Value), (∃ k, vs[i]? = some (k, v)) → ∃ t, v = Value.int (is.getD i 0) t := fun i v ⟨k, hk⟩ => by
    obtain ⟨x, h1, h2⟩ := KV.at' rel hk
    have e1 : (kvs.map (·.2))[i]? = some x := by rw [List.getElem?_map, h1] <;> rfl
    rw [hv, List.getElem?_map] at e1
    obtain ⟨j, hj, e2⟩ := Option.map_eq_some_iff.mp e1
    subst e2
    obtain ⟨t, e3⟩ := h2
    refine ⟨t, ?_⟩
    rw [e3, List.getD_eq_getElem?_getD, hj] <;> rfl
  have I2 : Inv X pins σ H1 { s1 with heap := s1.heap.push { cls := .type "dict_values", data := .fields #[.ref a] } } := I1.kept (t' := s1.toks) k1
  have K := PySem.W.kdl_values (knd := mixKind X.prog X.w) (r := s1.heap.objs.size) (d := a) (kvs := vs) (ep := ep)
  obtain ⟨oI, St, hit, W, st⟩ := K.iter X.A.in1 { s1 with heap := s1.heap.push { cls := .type "dict_values", data := .fields #[.ref a] } } (I.ok.hd hc) ⟨⟨_, Heap.get?_push_size _ rfl, rfl, rfl⟩, dat1⟩
  have hlt : a < s1.heap.objs.size := Heap.lt_size ho
  have hsz : (s1.heap.push { cls := .type "dict_values", data := .fields #[.ref a] }).objs.size = s1.heap.objs.size + 1 := Heap.size_push _ _
  refine call_sum_walkAnyS (hit _ _ ⟨_, _, _, _, vs.length, _, _, fun i => is.getD i 0, rfl, W.toS, st, fun b hb => ?_, hval, fun s' t' hm => ?_⟩)
  · show b < ((s1.heap.push _).push _).objs.size
    rw [Heap.size_push, hsz]
    rcases List.mem_cons.mp hb with e | hb
    · have e' : b = (s1.heap.push { cls := .type "dict_values", data := .fields #[.ref a] }).objs.size := e
      rw [e', hsz]
      exact Nat.lt_succ_self _
    · have e' : b = a := List.mem_singleton.mp hb
      rw [e']
      exact Nat.lt_succ_of_lt (Nat.lt_succ_of_lt hlt)
  · have hk : ∀ b u, s1.heap.get? b = some u → s'.heap.get? b = some u := fun b u e => by
      have e1 := k1 b u e
      exact hm.heap b u (fun hI => absurd (Heap.lt_size e1) (by rw [List.mem_singleton.mp hI]; exact Nat.lt_irrefl _)) (Heap.get?_push_of_some _ e1)
    have em := Moved.eq_with hm
    have e0 : preSum (fun i => is.getD i 0) vs.length = is.sum := by rw [hlv]; exact preSum_getD is
    rw [em, e0]
    exact ⟨.int is.sum, H1, I1.kept (h' := s'.heap) (t' := s'.toks) hk, ⟨_, rfl⟩, q⟩
end
end Fj
set_option maxHeartbeats 4000000
/-! own exceptions with fields: PartError.__init__(self, ..); isinstance(e, C), e.f in the suite -/
namespace Fj
open PySem PySem.Spec PyProof.Rows L2
/-- the base of all refusals -/
structure BaseE (K : PySem.W.Frag) (mg : Str → Option Value) (B : Addr) : Prop where
  g : mg "PartError" = some (.ref B)
  rd : PySem.W.readsIn K B (.type "type") = true
  ga : PySem.W.specialIn K (.ref B) "__getattribute__" = some (some (.builtin "type.__getattribute__"))
  at_ : PySem.W.findCls K (.ref B) (.type "type") "__init__" = some (.val (.builtin "ValueError.__init__"))
section
variable {X : Cx} {o e : Expr} {es : List Expr} {to te : TE} {ta : TA} {f : Str} {p p' p1 p2 pos : Pos}
theorem pe_peinit {B : Addr} {pl : Sem Bool} (hg : Gl X "PartError") (T : BaseE X.K X.mg B) (ha : PA X (e :: es) ta)
    (hc : eval (.Call (.Attribute (.Name "PartError" p1) "__init__" p2) (e :: es) [] pos) X.env = (do
      let ov ← eval (.Name "PartError" p1) X.env
      standAt p2.atName
      let (f, first) ← holding [ov] (getMethod ov "__init__" pl)
      callWith pos f first (backTo pos (starEach (e :: es) X.env)) (backToKw pos (keywordEach [] X.env))) := by rfl)
    (he : starEach (e :: es) X.env = (false, eval e X.env) :: starEach es X.env := by rfl) (hpl : (backTo pos (starEach es X.env)).any (·.1) = false := by rfl) :
    PE X (.Call (.Attribute (.Name "PartError" p1) "__init__" p2) (e :: es) [] pos) (tVeI X.K ta) := by
  refine ⟨fun pins s σ H Q I h => ?_⟩
  refine PySem.W.methodCall_KW (ld_glob I hg T.g ?_ (by decide)) hc
  refine PySem.W.method_cls I.kIn T.ga (PySem.W.cls_value I.kIn T.rd T.at_ (by decide +kernel) ?_)
  show wpAny _ _ (callWith pos (Value.builtin "ValueError.__init__") [] (backTo pos (starEach (e :: es) X.env)) []) _ _ _
  refine PyProof.Rows.callWith_method1 (thn (ha.run pos pins _ σ H _ (I.tok _) h) fun us s1 ⟨vs, H1, I1, r1, a, C, ws, ev, hl, T, ea, q⟩ => ?_) he hpl
  subst ev
  cases r1 with
  | @cons _ u0 _ ur ra rw' =>
    obtain rfl : u0 = Value.ref a := ra
    have hlen : ur.length ≤ sizeLine := by
      rw [← Paired.length rw', sizeLine_eq]
      omega
    exact oinit_ok T I1 ea hlen fun s' J => ⟨.non, H1, J, rfl, q⟩
end
/-- isinstance(e, c), e the exception that the suite holds, of the class at D, its dict at dd -/
def rIsED (K : PySem.W.Frag) (cls : Value) (d : Option Addr) (a : Addr) : List V → Hp → VK → Prop := fun xs H Q => ∃ (D dd : Addr) (fs : List (Str × V)) (c : V) (cv : Value) (b : Bool), cls = .ref D ∧ d = some dd ∧ ExcC K D ∧ H dd = some (.xd fs) ∧ xs = [.ref a, c] ∧ ClsV c cv ∧ PySem.W.kitOne K (.ref D) cv = some b ∧ Q (.bl b) H
theorem call_isED {X : Cx} {a : Addr} {cls : Value} {d : Option Addr} {oe : Obj} {pn : List (Addr × Obj)} (hz : Zc cls d oe) (hf : ∃ vs, oe.data = .fields vs) : CallR (X.suite a ((a, oe) :: pn)) (.builtin "isinstance") (rIsED X.K cls d a) := by
  intro pins s σ H xs us Q I r h
  obtain ⟨D, dd, fs, c, cv, b, ec, ed, C, hx, rfl, hcv, e, q⟩ := h
  subst ec ed
  cases r with
  | cons rx rr =>
    cases rr with
    | cons rt rr =>
      cases rr
      cases rx
      have ec := hcv.eq rt
      subst ec
      obtain ⟨hget, _⟩ := I.pin (a, oe) (List.mem_append.mpr (.inl List.mem_cons_self))
      obtain ⟨vs, hv⟩ := hf
      have hxd : ObjOk X.prog X.w H s.heap dd (.xd fs) := I.hok dd _ hx
      obtain ⟨mA, hns, hr⟩ := hxd
      obtain ⟨od, ho, hl⟩ := lookIn_ns hns
      have J : PySem.W.InstAt s.heap a oe D (some od) := ⟨hget, hz.1, by unfold PySem.W.notCls; rw [hv] <;> rfl, by rw [hz.2]; exact ho⟩
      have hcl : (PySem.W.clsIn X.K D).isSome = true := by
        obtain ⟨cd, hc, _⟩ := PySem.W.any_some C.hd
        rw [hc] <;> rfl
      exact PySem.W.kia_one (PySem.W.kitx_exc hcl C.hg C.hk C.hs C.ha C.hn C.ht C.hm) I.kIn J e (fun z => nomatch z) fun tk => ⟨.bl b, H, I.kept (t' := tk) fun _ _ z => z, rfl, q⟩
/-- e.f, e the exception that the suite holds -/
def tByF (K : PySem.W.Frag) (cls : Value) (d : Option Addr) (a : Addr) (f : Str) (te : TE) : TE := fun σ H Q => te σ H fun x H1 => ∃ (D dd : Addr) (fs : List (Str × V)) (v : V), x = .ref a ∧ cls = .ref D ∧ d = some dd ∧ ExcC K D ∧ PySem.W.findIn K (.ref D) f = some none ∧ H1 dd = some (.xd fs) ∧ List.lookup f fs = some v ∧ Q v H1
theorem pe_byF {X : Cx} {a : Addr} {oe : Obj} {cls : Value} {d : Option Addr} {pn : List (Addr × Obj)} {e : Expr} {te : TE} {f : Str} {pos : Pos} (hz : Zc cls d oe) (hf : ∃ vs, oe.data = .fields vs) (he : PE (X.suite a ((a, oe) :: pn)) e te)
    (hb : attributeBase e f X.env (eval e X.env) = eval e X.env := by rfl) :
    PE (X.suite a ((a, oe) :: pn)) (.Attribute e f pos) (tByF X.K cls d a f te) := by
  refine ⟨fun pins s σ H Q I h => ?_⟩
  refine attr_of hb (thn (he.run pins s σ H _ I h) fun u s1 hh => ?_)
  obtain ⟨x, H1, I1, rx, D, dd, fs, v, ex, ec, ed, C, hno, ea, l, q⟩ := hh
  subst ex ec ed
  obtain rfl : u = Value.ref a := rx
  obtain ⟨ha, _⟩ := I1.pin (a, oe) (List.mem_append_left _ List.mem_cons_self)
  obtain ⟨vs, hd⟩ := hf
  have hx : ObjOk X.prog X.w H1 s1.heap dd (.xd fs) := I1.hok dd _ ea
  obtain ⟨mA, hns, hr⟩ := hx
  obtain ⟨od, ho, hl⟩ := lookIn_ns hns
  obtain ⟨u, hu, ru⟩ := RelO.some_of (v := v) (o := mA f) (by rw [← l]; exact hr f)
  have J : PySem.W.InstAt s1.heap a oe D (some od) := ⟨ha, hz.1, by unfold PySem.W.notCls; rw [hd] <;> rfl, by rw [hz.2]; exact ho⟩
  exact HandSPX.exc_get I1.kIn J C.hg C.hk C.hs (PySem.W.findObj_own C.hd hno rfl (by rw [hl, hu])) (handed_of ru) ⟨v, H1, I1.tok _, ru, q⟩
end Fj
set_option maxHeartbeats 4000000
/-! the plain side: rows, parts, programs; how they lie in the heap -/
namespace Fj
open PySem PySem.Spec PyProof.Rows L2

/-- a row as it is told -/
inductive Tr
  | mark (z : Str) (s : Bool)
  | set (b n : Int) | add (b c : Int) | take (b c : Int) | say (b : Int) | ask (b : Int)
  | jump (z : Str) | jumpif (b : Int) (z : Str) | call (z : Str) | back | stop
  | load (b c : Int) (z : Str) | jumpby (b : Int) (z : Str) | alike (b : Int) (y z : Str)
  | numbers (ns : List Int) | table (zs : List Str)
namespace Tr
def kind : Tr → Str
  | mark _ _ => "mark" | set _ _ => "set" | add _ _ => "add" | take _ _ => "take" | say _ => "say" | ask _ => "ask"
  | jump _ => "jump" | jumpif _ _ => "jumpif" | call _ => "call" | back => "back" | stop => "stop"
  | load _ _ _ => "load" | jumpby _ _ => "jumpby" | alike _ _ _ => "alike" | numbers _ => "numbers" | table _ => "table"
def cls : Tr → Str
  | mark _ _ => "MarkRow" | set _ _ => "SetRow" | add _ _ => "AddRow" | take _ _ => "TakeRow" | say _ => "SayRow" | ask _ => "AskRow"
  | jump _ => "JumpRow" | jumpif _ _ => "JumpIfRow" | call _ => "CallRow" | back => "BackRow" | stop => "StopRow"
  | load _ _ _ => "LoadRow" | jumpby _ _ => "JumpByRow" | alike _ _ _ => "AlikeRow" | numbers _ => "NumbersRow" | table _ => "TableRow"
def flat : Tr → List V
  | mark z s => [.str z, .bl s] | set b n => [.int b, .int n] | add b c => [.int b, .int c] | take b c => [.int b, .int c] | say b => [.int b] | ask b => [.int b]
  | jump z => [.str z] | jumpif b z => [.int b, .str z] | call z => [.str z] | back => [] | stop => []
  | load b c z => [.int b, .int c, .str z] | jumpby b z => [.int b, .str z] | alike b y z => [.int b, .str y, .str z] | numbers _ => [] | table _ => []
def vs (r : Tr) : List V := .str r.kind :: r.flat
def items : Tr → Option (List V)
  | numbers ns => some (ns.map V.int) | table zs => some (zs.map V.str) | _ => none
def asked : Tr → List Str
  | jump z => [z] | jumpif _ z => [z] | call z => [z] | load _ _ z => [z] | jumpby _ z => [z] | alike _ y z => [y, z] | table zs => zs | _ => []
def nm : Tr → Bool
  | mark _ _ => false | _ => true
def isData : Tr → Bool
  | numbers _ => true | table _ => true | _ => false
def isNum : Tr → Bool
  | numbers _ => true | _ => false
def isTab : Tr → Bool
  | table _ => true | _ => false
def code (r : Tr) : Bool := r.nm && !r.isData
def goes : Tr → Bool
  | mark _ _ => false | jump _ => false | jumpby _ _ => false | back => false | stop => false | numbers _ => false | table _ => false | _ => true
def wants : Tr → Str
  | jump _ => "code" | jumpif _ _ => "code" | call _ => "code" | load _ _ _ => "numbers" | jumpby _ _ => "table" | alike _ _ _ => "any" | table _ => "code" | _ => ""
/-- is it an aim for r -/
def fit : Tr → Tr → Bool
  | load _ _ _, t => t.isNum | jumpby _ _, t => t.isTab | alike _ _ _, _ => true | _, t => !t.isData
def vd : V → PyData
  | .int i => .int i | .str z => .str z | .bl b => .bool b | _ => .none
def d (r : Tr) : PyData := match r.items with
  | none => .tuple (r.vs.map vd)
  | some ys => .tuple [.str r.kind, .list (ys.map vd)]
def Box (b : Int) : Prop := 0 ≤ b ∧ b < 4
def Pl (n : Int) : Prop := -2147483648 ≤ n ∧ n ≤ 2147483647
def ok : Tr → Prop
  | mark z _ => IsW z | set b n => Box b ∧ Pl n | add b c => Box b ∧ Box c | take b c => Box b ∧ Box c | say b => Box b | ask b => Box b
  | jump z => IsW z | jumpif b z => Box b ∧ IsW z | call z => IsW z | back => True | stop => True
  | load b c z => Box b ∧ Box c ∧ IsW z | jumpby b z => Box b ∧ IsW z | alike b y z => Box b ∧ IsW y ∧ IsW z
  | numbers ns => 1 ≤ ns.length ∧ ns.length ≤ 60 ∧ ∀ n ∈ ns, Pl n
  | table zs => 1 ≤ zs.length ∧ zs.length ≤ 60 ∧ ∀ z ∈ zs, IsW z
end Tr
abbrev Rows := List Tr
abbrev Prg := List (Str × Rows)
def bareR (rows : Rows) : Rows := rows.filter Tr.nm
def bareP (P : Prg) : Prg := P.map fun p => (p.1, bareR p.2)
def partD (p : Str × Rows) : PyData := .tuple [.str p.1, .list (p.2.map Tr.d)]
def progD (P : Prg) : PyData := .list (P.map partD)
/-- what follows the row at i -/
def behind (rows : Rows) (i : Nat) : Option Tr := (bareR (rows.drop (i + 1))).head?
def endsW (rows : Rows) (i : Nat) : Bool := match rows[i]? with
  | none => true
  | some (.mark _ _) => (behind rows i).isSome
  | some r => !r.goes || (match behind rows i with | some t => t.code | none => false)
structure Ent where
  name : Str
  strong : Bool
  part : Str
  k : Nat
/-- the marks of a part's rows; k rows stand before -/
def ents (part : Str) : Nat → Rows → List Ent
  | _, [] => []
  | k, .mark z s :: t => ⟨z, s, part, k⟩ :: ents part k t
  | k, r :: t => ents part (k + 1) t
def entsP (P : Prg) : List Ent := P.flatMap fun p => ents p.1 0 p.2
def namesP (P : Prg) : List Str := (entsP P).map Ent.name
/-- rows of one part are well -/
structure GoodR (rows : Rows) : Prop where
  ok : ∀ r ∈ rows, r.ok
  lo : 1 ≤ (bareR rows).length
  hi : rows.length ≤ 60
  hm : (rows.filter fun r => !r.nm).length ≤ 30
  hb : (bareR rows).length ≤ 30
  e : ∀ i, i < rows.length → endsW rows i = true
structure Good (P : Prg) : Prop where
  lo : 1 ≤ P.length
  hi : P.length ≤ 4
  nd : (P.map Prod.fst).Nodup
  pw : ∀ p ∈ P, IsW p.1
  rows : ∀ p ∈ P, GoodR p.2
  mks : (namesP P).Nodup
/-- the row that stands at a name -/
def atE (P : Prg) (e : Ent) : Option Tr := (P.find? fun p => decide (p.1 = e.part)).bind fun p => (bareR p.2)[e.k]?
def lkE (P : Prg) (z : Str) : Option Ent := (entsP P).find? fun e => decide (e.name = z)
/-- what is due -/
structure Due where
  lack : Bool
  name : Str
  part : Str
  k : Nat
def dueZ (P : Prg) (r : Tr) (part : Str) (k : Nat) (z : Str) : Option Due := match lkE P z with
  | none => some ⟨true, z, part, k⟩
  | some e => match atE P e with
    | some t => if r.fit t then none else some ⟨false, z, part, k⟩
    | none => none
def dueR (P : Prg) (part : Str) (k : Nat) (r : Tr) : Option Due := r.asked.findSome? (dueZ P r part k)
def dueRows (P : Prg) (part : Str) : Nat → Rows → Option Due
  | _, [] => none
  | k, r :: t => (dueR P part k r).or (dueRows P part (k + 1) t)
def dueP (P : Prg) : Option Due := P.findSome? fun p => dueRows P p.1 0 (bareR p.2)
def Due.d (u : Due) : PyData := .tuple [.str (if u.lack then "lacking" else "aim"), .str u.name, .str u.part, .int u.k]
def dueD : Option Due → PyData
  | none => .none
  | some u => u.d

/-! ### how they lie -/
section
variable (W : Addr → Prop) (K : PySem.W.Frag) (H : Hp)
def TupV (t : Addr) (r : Tr) : Prop := match r.items with
  | none => SqT K H t r.vs
  | some ys => ∃ l, SqT K H t [.str r.kind, .ref l] ∧ H l = some (.lst ys) ∧ W l
def RowV (v : V) (r : Tr) : Prop := ∃ t, v = .ref t ∧ TupV W K H t r
def PartV (v : V) (p : Str × Rows) : Prop := ∃ t l xs, v = .ref t ∧ H t = some (.tup [.str p.1, .ref l]) ∧ H l = some (.lst xs) ∧ W l ∧ Paired (RowV W K H) xs p.2
def ProgV (v : V) (P : Prg) : Prop := ∃ l xs, v = .ref l ∧ H l = some (.lst xs) ∧ W l ∧ Paired (PartV W K H) xs P
/-- the class of a name -/
def CA (mg : Str → Option Value) (x : Str) : Addr := match mg x with
  | some (.ref a) => a
  | _ => 0
/-- a row's object -/
def ObjV (mg : Str → Option Value) (v : V) (r : Tr) : Prop := ∃ o dx t, v = .ref o ∧ H o = some (.ins (CA mg r.cls) dx [("told", .ref t)]) ∧ TupV W K H t r
/-- a part with the objects of its rows -/
def PartO (mg : Str → Option Value) (v : V) (p : Str × Rows) : Prop := ∃ t l xs, v = .ref t ∧ SqT K H t [.str p.1, .ref l] ∧ H l = some (.lst xs) ∧ W l ∧ Paired (ObjV W K H mg) xs p.2
end
section
variable {W W' : Addr → Prop} {K : PySem.W.Frag} {H H' : Hp} {mg : Str → Option Value}
theorem TupV.keep {t : Addr} {r : Tr} (k : Keeps W W' H H') (h : TupV W K H t r) : TupV W' K H' t r := by
  unfold TupV at h ⊢
  split at h
  · exact SqT.keep k h
  · obtain ⟨l, a, b, c⟩ := h
    have q := k.l _ _ ⟨_, .inl rfl⟩ c b
    exact ⟨l, SqT.keep k a, q.1, q.2⟩
theorem RowV.keep {v : V} {r : Tr} (k : Keeps W W' H H') (h : RowV W K H v r) : RowV W' K H' v r := by
  obtain ⟨t, e, h⟩ := h
  exact ⟨t, e, h.keep k⟩
theorem PartV.keep {v : V} {p : Str × Rows} (k : Keeps W W' H H') (h : PartV W K H v p) : PartV W' K H' v p := by
  obtain ⟨t, l, xs, e, h, a, b, c⟩ := h
  have q := k.l _ _ ⟨_, .inl rfl⟩ b a
  exact ⟨t, l, xs, e, k.t _ _ ⟨_, .inl rfl⟩ h, q.1, q.2, pImp c fun _ _ z => z.keep k⟩
theorem ProgV.keep {v : V} {P : Prg} (k : Keeps W W' H H') (h : ProgV W K H v P) : ProgV W' K H' v P := by
  obtain ⟨l, xs, e, a, b, c⟩ := h
  have q := k.l _ _ ⟨_, .inl rfl⟩ b a
  exact ⟨l, xs, e, q.1, q.2, pImp c fun _ _ z => z.keep k⟩
/-- .. and instances -/
structure KeepsI (W W' : Addr → Prop) (H H' : Hp) : Prop extends Keeps W W' H H' where
  i : ∀ a C dx fs, H a = some (.ins C dx fs) → H' a = some (.ins C dx fs)
theorem ObjV.keep {v : V} {r : Tr} (k : KeepsI W W' H H') (h : ObjV W K H mg v r) : ObjV W' K H' mg v r := by
  obtain ⟨o, dx, t, e, a, b⟩ := h
  exact ⟨o, dx, t, e, k.i _ _ _ _ a, b.keep k.toKeeps⟩
theorem PartO.keep {v : V} {p : Str × Rows} (k : KeepsI W W' H H') (h : PartO W K H mg v p) : PartO W' K H' mg v p := by
  obtain ⟨t, l, xs, e, h, a, b, c⟩ := h
  have q := k.l _ _ ⟨_, .inl rfl⟩ b a
  exact ⟨t, l, xs, e, SqT.keep k.toKeeps h, q.1, q.2, pImp c fun _ _ z => z.keep k⟩
theorem KeepsI.same (e : Same H H') (w : ∀ a, W a → W' a) : KeepsI W W' H H' := ⟨.same e w, fun a _ _ _ h => e _ _ h⟩
theorem KeepsI.but {D : Addr} {acc : List V} (e : But D H H') (hD : H D = some (.lst acc)) (w : ∀ a, W a → W' a ∧ a ≠ D) : KeepsI W W' H H' :=
  ⟨.but e hD w, fun a C dx fs h => e a _ (fun q => by rw [q, hD] at h; cases h) h⟩
/-- the dict at D changes -/
theorem KeepsI.butD {D : Addr} {kvs : List (Key × V)} (e : But D H H') (hD : H D = some (.dK kvs)) (w : ∀ a, W a → W' a) : KeepsI W W' H H' :=
  ⟨⟨fun a o z wa h => ⟨e a o (fun q => by
      obtain ⟨xs, z⟩ := z
      rw [q, hD] at h
      have h := Option.some.inj h
      rcases z with z | ⟨u, z⟩ <;> (rw [z] at h; cases h)) h, w a wa⟩,
    fun a o z h => e a o (fun q => by
      obtain ⟨xs, z⟩ := z
      rw [q, hD] at h
      have h := Option.some.inj h
      rcases z with z | ⟨u, z⟩ <;> (rw [z] at h; cases h)) h⟩,
   fun a C dx fs h => e a _ (fun q => by rw [q, hD] at h; cases h) h⟩
theorem dw_vd {v : V} (h : flatV v = true ∨ True) (g : (∃ i, v = .int i) ∨ (∃ z, v = .str z) ∨ ∃ b, v = .bl b) : DW W K H v (Tr.vd v) := by
  rcases g with ⟨i, rfl⟩ | ⟨z, rfl⟩ | ⟨b, rfl⟩
  · exact .int i
  · exact .str z
  · exact .bl b
def Pv (v : V) : Prop := (∃ i, v = .int i) ∨ (∃ z, v = .str z) ∨ ∃ b, v = .bl b
theorem dws_vd : ∀ {vs : List V}, (∀ v ∈ vs, Pv v) → DWs W K H vs (vs.map Tr.vd)
  | [], _ => .nil
  | v :: vs, h => .cons (dw_vd (.inr trivial) (h v List.mem_cons_self)) (dws_vd fun u m => h u (List.mem_cons_of_mem _ m))
theorem Tr.pv_flat (r : Tr) : ∀ v ∈ r.vs, Pv v := by
  intro v m
  have hi : ∀ i : Int, Pv (.int i) := fun i => .inl ⟨i, rfl⟩
  have hs : ∀ z : Str, Pv (.str z) := fun z => .inr (.inl ⟨z, rfl⟩)
  have hb : ∀ b : Bool, Pv (.bl b) := fun b => .inr (.inr ⟨b, rfl⟩)
  cases r <;> simp only [Tr.vs, Tr.flat, List.mem_cons, List.not_mem_nil, or_false] at m
  all_goals (rcases m with rfl | rfl | rfl | rfl) <;> first | exact hs _ | exact hi _ | exact hb _
theorem Tr.pv_items {r : Tr} {ys : List V} (h : r.items = some ys) : ∀ v ∈ ys, (∃ i, v = .int i) ∨ ∃ z, v = .str z := by
  intro v m
  cases r <;> simp only [Tr.items] at h <;> (try cases h)
  · obtain ⟨i, _, rfl⟩ := List.mem_map.mp m
    exact .inl ⟨i, rfl⟩
  · obtain ⟨i, _, rfl⟩ := List.mem_map.mp m
    exact .inr ⟨i, rfl⟩
theorem RowV.dw {v : V} {r : Tr} (h : RowV W K H v r) : DW W K H v r.d := by
  obtain ⟨t, rfl, h⟩ := h
  unfold TupV at h
  unfold Tr.d
  split at h
  · rename_i e
    exact .tup h (dws_vd r.pv_flat)
  · rename_i ys e
    obtain ⟨l, a, b, c⟩ := h
    exact .tup a (.cons (.str _) (.cons (.lst (.of b c) (dws_vd fun v m => (Tr.pv_items e v m).elim (fun z => .inl z) fun z => .inr (.inl z))) .nil))
theorem dws_of_paired {α : Type} {F : V → α → Prop} {enc : α → PyData} (f : ∀ v a, F v a → DW W K H v (enc a)) : ∀ {xs : List V} {as : List α}, Paired F xs as → DWs W K H xs (as.map enc)
  | _, _, .nil => .nil
  | _, _, .cons r t => .cons (f _ _ r) (dws_of_paired f t)
theorem PartV.dw {v : V} {p : Str × Rows} (h : PartV W K H v p) : DW W K H v (partD p) := by
  obtain ⟨t, l, xs, rfl, h, a, b, c⟩ := h
  exact .tup (.of h) (.cons (.str _) (.cons (.lst (.of a b) (dws_of_paired (fun _ _ z => z.dw) c)) .nil))
theorem ProgV.dw {v : V} {P : Prg} (h : ProgV W K H v P) : DW W K H v (progD P) := by
  obtain ⟨l, xs, rfl, a, b, c⟩ := h
  exact .lst (.of a b) (dws_of_paired (fun _ _ z => z.dw) c)
end
end Fj
set_option maxHeartbeats 4000000
/-! the row classes: __init__, words, asked, wants, goes_on -/
namespace Fj
open PySem PySem.Spec PyProof.Rows L2
open C8 (Met Mak InsC pe_mt0 pe_mk)
abbrev sRow___init : Stmt := inClass (top 21) 0
abbrev NRow___init : List Str := ["self", "told"]
theorem scRow___init : FnScope NRow___init ["self", "told"] (defScope sRow___init) := ⟨rfl, rfl, rfl, by decide +kernel, rfl, by decide +kernel, by decide +kernel⟩
abbrev sRow_words : Stmt := inClass (top 21) 1
abbrev NRow_words : List Str := ["self"]
theorem scRow_words : FnScope NRow_words ["self"] (defScope sRow_words) := ⟨rfl, rfl, rfl, by decide +kernel, rfl, by decide +kernel, by decide +kernel⟩
abbrev sRow_asked : Stmt := inClass (top 21) 2
abbrev NRow_asked : List Str := ["self"]
theorem scRow_asked : FnScope NRow_asked ["self"] (defScope sRow_asked) := ⟨rfl, rfl, rfl, by decide +kernel, rfl, by decide +kernel, by decide +kernel⟩
abbrev sRow_wants : Stmt := inClass (top 21) 3
abbrev NRow_wants : List Str := ["self"]
theorem scRow_wants : FnScope NRow_wants ["self"] (defScope sRow_wants) := ⟨rfl, rfl, rfl, by decide +kernel, rfl, by decide +kernel, by decide +kernel⟩
abbrev sRow_goes_on : Stmt := inClass (top 21) 4
abbrev NRow_goes_on : List Str := ["self"]
theorem scRow_goes_on : FnScope NRow_goes_on ["self"] (defScope sRow_goes_on) := ⟨rfl, rfl, rfl, by decide +kernel, rfl, by decide +kernel, by decide +kernel⟩
abbrev sDataRow_words : Stmt := inClass (top 38) 0
abbrev NDataRow_words : List Str := ["self"]
theorem scDataRow_words : FnScope NDataRow_words ["self"] (defScope sDataRow_words) := ⟨rfl, rfl, rfl, by decide +kernel, rfl, by decide +kernel, by decide +kernel⟩
abbrev sAimRow_asked : Stmt := inClass (top 29) 0
abbrev NAimRow_asked : List Str := ["self"]
theorem scAimRow_asked : FnScope NAimRow_asked ["self"] (defScope sAimRow_asked) := ⟨rfl, rfl, rfl, by decide +kernel, rfl, by decide +kernel, by decide +kernel⟩
abbrev sAlikeRow_asked : Stmt := inClass (top 35) 0
abbrev NAlikeRow_asked : List Str := ["self"]
theorem scAlikeRow_asked : FnScope NAlikeRow_asked ["self"] (defScope sAlikeRow_asked) := ⟨rfl, rfl, rfl, by decide +kernel, rfl, by decide +kernel, by decide +kernel⟩
abbrev sTableRow_asked : Stmt := inClass (top 40) 0
abbrev NTableRow_asked : List Str := ["self"]
theorem scTableRow_asked : FnScope NTableRow_asked ["self"] (defScope sTableRow_asked) := ⟨rfl, rfl, rfl, by decide +kernel, rfl, by decide +kernel, by decide +kernel⟩
abbrev sAimRow_wants : Stmt := inClass (top 29) 1
abbrev NAimRow_wants : List Str := ["self"]
theorem scAimRow_wants : FnScope NAimRow_wants ["self"] (defScope sAimRow_wants) := ⟨rfl, rfl, rfl, by decide +kernel, rfl, by decide +kernel, by decide +kernel⟩
abbrev sLoadRow_wants : Stmt := inClass (top 33) 0
abbrev NLoadRow_wants : List Str := ["self"]
theorem scLoadRow_wants : FnScope NLoadRow_wants ["self"] (defScope sLoadRow_wants) := ⟨rfl, rfl, rfl, by decide +kernel, rfl, by decide +kernel, by decide +kernel⟩
abbrev sJumpByRow_wants : Stmt := inClass (top 34) 1
abbrev NJumpByRow_wants : List Str := ["self"]
theorem scJumpByRow_wants : FnScope NJumpByRow_wants ["self"] (defScope sJumpByRow_wants) := ⟨rfl, rfl, rfl, by decide +kernel, rfl, by decide +kernel, by decide +kernel⟩
abbrev sAlikeRow_wants : Stmt := inClass (top 35) 1
abbrev NAlikeRow_wants : List Str := ["self"]
theorem scAlikeRow_wants : FnScope NAlikeRow_wants ["self"] (defScope sAlikeRow_wants) := ⟨rfl, rfl, rfl, by decide +kernel, rfl, by decide +kernel, by decide +kernel⟩
abbrev sTableRow_wants : Stmt := inClass (top 40) 1
abbrev NTableRow_wants : List Str := ["self"]
theorem scTableRow_wants : FnScope NTableRow_wants ["self"] (defScope sTableRow_wants) := ⟨rfl, rfl, rfl, by decide +kernel, rfl, by decide +kernel, by decide +kernel⟩
abbrev sCodeRow_goes_on : Stmt := inClass (top 23) 0
abbrev NCodeRow_goes_on : List Str := ["self"]
theorem scCodeRow_goes_on : FnScope NCodeRow_goes_on ["self"] (defScope sCodeRow_goes_on) := ⟨rfl, rfl, rfl, by decide +kernel, rfl, by decide +kernel, by decide +kernel⟩
abbrev sJumpRow_goes_on : Stmt := inClass (top 30) 0
abbrev NJumpRow_goes_on : List Str := ["self"]
theorem scJumpRow_goes_on : FnScope NJumpRow_goes_on ["self"] (defScope sJumpRow_goes_on) := ⟨rfl, rfl, rfl, by decide +kernel, rfl, by decide +kernel, by decide +kernel⟩
abbrev sJumpByRow_goes_on : Stmt := inClass (top 34) 0
abbrev NJumpByRow_goes_on : List Str := ["self"]
theorem scJumpByRow_goes_on : FnScope NJumpByRow_goes_on ["self"] (defScope sJumpByRow_goes_on) := ⟨rfl, rfl, rfl, by decide +kernel, rfl, by decide +kernel, by decide +kernel⟩
abbrev sBackRow_goes_on : Stmt := inClass (top 36) 0
abbrev NBackRow_goes_on : List Str := ["self"]
theorem scBackRow_goes_on : FnScope NBackRow_goes_on ["self"] (defScope sBackRow_goes_on) := ⟨rfl, rfl, rfl, by decide +kernel, rfl, by decide +kernel, by decide +kernel⟩
abbrev sStopRow_goes_on : Stmt := inClass (top 37) 0
abbrev NStopRow_goes_on : List Str := ["self"]
theorem scStopRow_goes_on : FnScope NStopRow_goes_on ["self"] (defScope sStopRow_goes_on) := ⟨rfl, rfl, rfl, by decide +kernel, rfl, by decide +kernel, by decide +kernel⟩
def qWords (r : Tr) : Str × Stmt := if r.isData then ("DataRow.words", sDataRow_words) else ("Row.words", sRow_words)
def qAsked : Tr → Str × Stmt
  | .jump _ => ("AimRow.asked", sAimRow_asked) | .jumpif _ _ => ("AimRow.asked", sAimRow_asked) | .call _ => ("AimRow.asked", sAimRow_asked) | .load _ _ _ => ("AimRow.asked", sAimRow_asked) | .jumpby _ _ => ("AimRow.asked", sAimRow_asked)
  | .alike _ _ _ => ("AlikeRow.asked", sAlikeRow_asked) | .table _ => ("TableRow.asked", sTableRow_asked) | _ => ("Row.asked", sRow_asked)
def qWants : Tr → Str × Stmt
  | .jump _ => ("AimRow.wants", sAimRow_wants) | .jumpif _ _ => ("AimRow.wants", sAimRow_wants) | .call _ => ("AimRow.wants", sAimRow_wants) | .load _ _ _ => ("LoadRow.wants", sLoadRow_wants) | .jumpby _ _ => ("JumpByRow.wants", sJumpByRow_wants)
  | .alike _ _ _ => ("AlikeRow.wants", sAlikeRow_wants) | .table _ => ("TableRow.wants", sTableRow_wants) | _ => ("Row.wants", sRow_wants)
def qGoes : Tr → Str × Stmt
  | .jump _ => ("JumpRow.goes_on", sJumpRow_goes_on) | .jumpby _ _ => ("JumpByRow.goes_on", sJumpByRow_goes_on) | .back => ("BackRow.goes_on", sBackRow_goes_on) | .stop => ("StopRow.goes_on", sStopRow_goes_on)
  | .mark _ _ => ("Row.goes_on", sRow_goes_on) | .numbers _ => ("Row.goes_on", sRow_goes_on) | .table _ => ("Row.goes_on", sRow_goes_on) | _ => ("CodeRow.goes_on", sCodeRow_goes_on)
def MethAt (K : PySem.W.Frag) (mg : Str → Option Value) (C m : Str) (q : Str × Stmt) (ps : List Str) : Prop := ∃ f fd, Meth K (CA mg C) m f ∧ Fun K m q.1 q.2 f fd ∧ Binds K fd ps []
/-- the row classes as the top has left them -/
structure Clss (K : PySem.W.Frag) (mg : Str → Option Value) : Prop where
  mgx : ∀ r : Tr, mg r.cls = some (.ref (CA mg r.cls))
  ins : ∀ r : Tr, InsC K (CA mg r.cls)
  na : ∀ r : Tr, NoAttr K (CA mg r.cls) "told"
  qm : ∀ r : Tr, PySem.W.kitOne K (.ref (CA mg r.cls)) (.ref (CA mg "MarkRow")) = some (!r.nm)
  qc : ∀ r : Tr, PySem.W.kitOne K (.ref (CA mg r.cls)) (.ref (CA mg "CodeRow")) = some r.code
  qn : ∀ r : Tr, PySem.W.kitOne K (.ref (CA mg r.cls)) (.ref (CA mg "NumbersRow")) = some r.isNum
  qt : ∀ r : Tr, PySem.W.kitOne K (.ref (CA mg r.cls)) (.ref (CA mg "TableRow")) = some r.isTab
  qe : ∀ r : Tr, PySem.W.findIn K (.ref (CA mg r.cls)) "__eq__" = some (some (.builtin "object.__eq__"))
  g_MarkRow : mg "MarkRow" = some (.ref (CA mg "MarkRow"))
  g_CodeRow : mg "CodeRow" = some (.ref (CA mg "CodeRow"))
  g_NumbersRow : mg "NumbersRow" = some (.ref (CA mg "NumbersRow"))
  g_TableRow : mg "TableRow" = some (.ref (CA mg "TableRow"))
  mkr : ∀ r : Tr, ∃ f fd, Mk K (CA mg r.cls) f ∧ Fun K "__init__" "Row.__init__" sRow___init f fd ∧ Binds K fd ["self", "told"] []
  words : ∀ r : Tr, MethAt K mg r.cls "words" (qWords r) ["self"]
  asked : ∀ r : Tr, MethAt K mg r.cls "asked" (qAsked r) ["self"]
  wants : ∀ r : Tr, MethAt K mg r.cls "wants" (qWants r) ["self"]
  goes : ∀ r : Tr, MethAt K mg r.cls "goes_on" (qGoes r) ["self"]
section
variable {P : Program} {w : World} {K : PySem.W.Frag} {mg : Str → Option Value} {base : Heap}
theorem meth_mk {C m : Str} {q : Str × Stmt} {N ps : List Str} {k : Nat} {sp : Sp} (M : MethAt K mg C m q ps) (c : Cls K (CA mg C)) (S : FnScope N ps (defScope q.2)) (len : ∀ vs H Q E, sp vs H Q E → vs.length = ps.length)
    (hbody : ∀ (f : Addr) (cdv : Value) (A : Around) (outer : List Env) (s : Shared) (H : Hp) (vs : List V) (Q : VK) (E : XK), Room k (A.deeper (envOfC q.1 (defScope q.2) s.heap.objs.size f cdv)) → sp vs H Q E →
      ∃ t, PSs (cxOf CX0 P w K mg base N q.1 (defScope q.2) f cdv A outer s H E).nox (defBody q.2) t ∧ t { nx := fun _ H' => Q .non H', rt := Q } (start N vs) H) : Met P w K mg base (k + 1) (CA mg C) m sp [] := by
  obtain ⟨f, fd, me, F, hb⟩ := M
  exact ⟨f, fd, ps, [], c, me, F.ok S len fun cdv A outer s H vs Q E hr h => hbody f cdv A outer s H vs Q E hr h, hb, .nil⟩
def spWords (K : PySem.W.Frag) (mg : Str → Option Value) (r : Tr) : Sp := fun vs H Q _ => ∃ v W, vs = [v] ∧ ObjV W K H mg v r ∧ ∀ t H', Same H H' → TupV (fun a => H a = none) K H' t r → Q (.ref t) H'
def spAsked (K : PySem.W.Frag) (mg : Str → Option Value) (r : Tr) : Sp := fun vs H Q _ => ∃ v W, vs = [v] ∧ ObjV W K H mg v r ∧ ∀ p, H p = none → ∀ H', Same H H' → H' p = some (.lst (r.asked.map V.str)) → Q (.ref p) H'
def spWants (K : PySem.W.Frag) (mg : Str → Option Value) (r : Tr) : Sp := fun vs H Q _ => ∃ v W, vs = [v] ∧ ObjV W K H mg v r ∧ Q (.str r.wants) H
def spGoes (K : PySem.W.Frag) (mg : Str → Option Value) (r : Tr) : Sp := fun vs H Q _ => ∃ v W, vs = [v] ∧ ObjV W K H mg v r ∧ Q (.bl r.goes) H
def spInit (mg : Str → Option Value) (c : Str) : Sp := fun vs H Q _ => ∃ a dx t, vs = [.ref a, .ref t] ∧ H a = some (.ins (CA mg c) dx []) ∧ Q .non (upd H a (.ins (CA mg c) dx [("told", .ref t)]))
theorem go_fld {ta : TE} {σ : L2.St} {H : Hp} {Q : VK} {f : Str} (q : ta σ H fun x H1 => ∃ a C dx fs v, x = .ref a ∧ H1 a = some (.ins C dx fs) ∧ Cls K C ∧ NoAttr K C f ∧ fs.lookup f = some v ∧ Q v H1) : tFld K ta f σ H Q := q
theorem ok_init (T : Clss K mg) (r : Tr) : Mak P w K mg base 1 r.cls (CA mg r.cls) (spInit mg r.cls) [] := by
  obtain ⟨f, fd, M, F, hb⟩ := T.mkr r
  refine ⟨f, fd, ["self", "told"], [], M, F.ok scRow___init (fun vs H Q E h => ?_) (fun cdv A outer s H vs Q E hr h => ?_), T.mgx r, hb, .nil⟩
  · obtain ⟨a, dx, t, rfl, _⟩ := h
    rfl
  · obtain ⟨a, dx, t, rfl, ha, q⟩ := h
    have nd := scRow___init.nd
    refine ⟨_, (pss_one (ps_fld (pv 0) (pv 1) (by rfl))), ?_⟩
    show sFld _ _ _ _ _ _ _
    unfold sFld
    walk_at "g"
    exact ⟨a, _, dx, [], rfl, ha, (T.ins r).cl, T.na r, by decide, q⟩
theorem ok_words (T : Clss K mg) (X : Txt K mg) (r : Tr) : Met P w K mg base 1 (CA mg r.cls) "words" (spWords K mg r) [] := by
  have M := T.words r
  by_cases hd : r.isData = true
  · have e : qWords r = (Str.ofString "DataRow.words", sDataRow_words) := by unfold qWords; rw [if_pos hd]
    rw [e] at M
    refine meth_mk M (T.ins r).cl scDataRow_words (fun vs H Q E h => ?_) (fun f cdv A outer s H vs Q E hr h => ?_)
    · obtain ⟨v, W, rfl, _⟩ := h
      rfl
    · obtain ⟨v, W, rfl, ⟨o, dx, t, rfl, ho, ht⟩, q⟩ := h
      have T' := T
      have T := X
      have nd := scDataRow_words.nd
      refine ⟨_, (pss_one (ps_ret (pe_tup (pa_cons (pe_ix (ixtK (K := K) rfl) (pe_fld (pv 0) rfl) pe_int (fun _ _ => rfl)) (pa_cons (pe_callTy (listK (K := K) rfl) (by rfl) T.n_list (by decide +kernel) (pa_cons (pe_ix (ixtK (K := K) rfl) (pe_fld (pv 0) rfl) pe_int (fun _ _ => rfl)) pa_nil)) pa_nil))))), ?_⟩
      have T := T'
      obtain ⟨ys, ey⟩ : ∃ ys, r.items = some ys := by cases r <;> simp [Tr.isData] at hd <;> exact ⟨_, rfl⟩
      unfold TupV at ht
      rw [ey] at ht
      obtain ⟨l, ht, hl, _⟩ := ht
      walk_at "g"
      refine go_fld ?_
      walk_at "g"
      refine ⟨o, _, dx, _, .ref t, rfl, ho, (T.ins r).cl, T.na r, rfl, ?_⟩
      walk_at "g"
      walk_at "g"
      refine go_fld ?_
      walk_at "g"
      refine ⟨o, _, dx, _, .ref t, rfl, ho, (T.ins r).cl, T.na r, rfl, ?_⟩
      walk_at "g"
      walk_at "g"
      refine go_list (.inl (.of hl)) fun l' hl' => ?_
      walk_at "g"
      refine ⟨sz_of (by simp), fun p hp => ?_⟩
      have s1 : Same H (upd H l' (.lst ys)) := Same.new hl'
      have s2 : Same (upd H l' (.lst ys)) (upd (upd H l' (.lst ys)) p (.tup [.str r.kind, .ref l'])) := Same.new hp
      refine q _ _ (s1.trans s2) ?_
      unfold TupV
      rw [ey]
      exact ⟨l', .of upd_same, s2 _ _ upd_same, hl'⟩
  · have hd : r.isData = false := Bool.not_eq_true _ ▸ hd
    have e : qWords r = (Str.ofString "Row.words", sRow_words) := by unfold qWords; rw [if_neg (by rw [hd]; decide)]
    rw [e] at M
    refine meth_mk M (T.ins r).cl scRow_words (fun vs H Q E h => ?_) (fun f cdv A outer s H vs Q E hr h => ?_)
    · obtain ⟨v, W, rfl, _⟩ := h
      rfl
    · obtain ⟨v, W, rfl, ⟨o, dx, t, rfl, ho, ht⟩, q⟩ := h
      have nd := scRow_words.nd
      refine ⟨_, (pss_one (ps_ret (pe_fld (pv 0) rfl))), ?_⟩
      walk_at "g"
      refine go_fld ?_
      walk_at "g"
      refine ⟨o, _, dx, _, .ref t, rfl, ho, (T.ins r).cl, T.na r, rfl, q _ _ (Same.refl _) ?_⟩
      have ey : r.items = none := by cases r <;> simp [Tr.isData] at hd <;> rfl
      unfold TupV at ht ⊢
      rw [ey] at ht ⊢
      exact ht
theorem ok_wants (T : Clss K mg) (X : Txt K mg) (r : Tr) : Met P w K mg base 1 (CA mg r.cls) "wants" (spWants K mg r) [] := by
  have M := T.wants r
  cases r
  case jump | jumpif | call =>
    refine meth_mk (q := ("AimRow.wants", sAimRow_wants)) M (T.ins _).cl scAimRow_wants (fun vs H Q E h => ?_) (fun f cdv A outer s H vs Q E hr h => ?_)
    · obtain ⟨v, W, rfl, _⟩ := h
      rfl
    · obtain ⟨v, W, rfl, _, q⟩ := h
      exact ⟨_, (pss_one (ps_ret pe_str)), q⟩
  case load =>
    refine meth_mk (q := ("LoadRow.wants", sLoadRow_wants)) M (T.ins _).cl scLoadRow_wants (fun vs H Q E h => ?_) (fun f cdv A outer s H vs Q E hr h => ?_)
    · obtain ⟨v, W, rfl, _⟩ := h
      rfl
    · obtain ⟨v, W, rfl, _, q⟩ := h
      exact ⟨_, (pss_one (ps_ret pe_str)), q⟩
  case jumpby =>
    refine meth_mk (q := ("JumpByRow.wants", sJumpByRow_wants)) M (T.ins _).cl scJumpByRow_wants (fun vs H Q E h => ?_) (fun f cdv A outer s H vs Q E hr h => ?_)
    · obtain ⟨v, W, rfl, _⟩ := h
      rfl
    · obtain ⟨v, W, rfl, _, q⟩ := h
      exact ⟨_, (pss_one (ps_ret pe_str)), q⟩
  case alike =>
    refine meth_mk (q := ("AlikeRow.wants", sAlikeRow_wants)) M (T.ins _).cl scAlikeRow_wants (fun vs H Q E h => ?_) (fun f cdv A outer s H vs Q E hr h => ?_)
    · obtain ⟨v, W, rfl, _⟩ := h
      rfl
    · obtain ⟨v, W, rfl, _, q⟩ := h
      exact ⟨_, (pss_one (ps_ret pe_str)), q⟩
  case table =>
    refine meth_mk (q := ("TableRow.wants", sTableRow_wants)) M (T.ins _).cl scTableRow_wants (fun vs H Q E h => ?_) (fun f cdv A outer s H vs Q E hr h => ?_)
    · obtain ⟨v, W, rfl, _⟩ := h
      rfl
    · obtain ⟨v, W, rfl, _, q⟩ := h
      exact ⟨_, (pss_one (ps_ret pe_str)), q⟩
  all_goals
    refine meth_mk (q := ("Row.wants", sRow_wants)) M (T.ins _).cl scRow_wants (fun vs H Q E h => ?_) (fun f cdv A outer s H vs Q E hr h => ?_)
    · obtain ⟨v, W, rfl, _⟩ := h
      rfl
    · obtain ⟨v, W, rfl, _, q⟩ := h
      exact ⟨_, (pss_one (ps_ret pe_str)), q⟩
theorem ok_goes (T : Clss K mg) (X : Txt K mg) (r : Tr) : Met P w K mg base 1 (CA mg r.cls) "goes_on" (spGoes K mg r) [] := by
  have M := T.goes r
  cases r
  case jump =>
    refine meth_mk (q := ("JumpRow.goes_on", sJumpRow_goes_on)) M (T.ins _).cl scJumpRow_goes_on (fun vs H Q E h => ?_) (fun f cdv A outer s H vs Q E hr h => ?_)
    · obtain ⟨v, W, rfl, _⟩ := h
      rfl
    · obtain ⟨v, W, rfl, _, q⟩ := h
      exact ⟨_, (pss_one (ps_ret pe_bl)), q⟩
  case jumpby =>
    refine meth_mk (q := ("JumpByRow.goes_on", sJumpByRow_goes_on)) M (T.ins _).cl scJumpByRow_goes_on (fun vs H Q E h => ?_) (fun f cdv A outer s H vs Q E hr h => ?_)
    · obtain ⟨v, W, rfl, _⟩ := h
      rfl
    · obtain ⟨v, W, rfl, _, q⟩ := h
      exact ⟨_, (pss_one (ps_ret pe_bl)), q⟩
  case back =>
    refine meth_mk (q := ("BackRow.goes_on", sBackRow_goes_on)) M (T.ins _).cl scBackRow_goes_on (fun vs H Q E h => ?_) (fun f cdv A outer s H vs Q E hr h => ?_)
    · obtain ⟨v, W, rfl, _⟩ := h
      rfl
    · obtain ⟨v, W, rfl, _, q⟩ := h
      exact ⟨_, (pss_one (ps_ret pe_bl)), q⟩
  case stop =>
    refine meth_mk (q := ("StopRow.goes_on", sStopRow_goes_on)) M (T.ins _).cl scStopRow_goes_on (fun vs H Q E h => ?_) (fun f cdv A outer s H vs Q E hr h => ?_)
    · obtain ⟨v, W, rfl, _⟩ := h
      rfl
    · obtain ⟨v, W, rfl, _, q⟩ := h
      exact ⟨_, (pss_one (ps_ret pe_bl)), q⟩
  case mark | numbers | table =>
    refine meth_mk (q := ("Row.goes_on", sRow_goes_on)) M (T.ins _).cl scRow_goes_on (fun vs H Q E h => ?_) (fun f cdv A outer s H vs Q E hr h => ?_)
    · obtain ⟨v, W, rfl, _⟩ := h
      rfl
    · obtain ⟨v, W, rfl, _, q⟩ := h
      exact ⟨_, (pss_one (ps_ret pe_bl)), q⟩
  all_goals
    refine meth_mk (q := ("CodeRow.goes_on", sCodeRow_goes_on)) M (T.ins _).cl scCodeRow_goes_on (fun vs H Q E h => ?_) (fun f cdv A outer s H vs Q E hr h => ?_)
    · obtain ⟨v, W, rfl, _⟩ := h
      rfl
    · obtain ⟨v, W, rfl, _, q⟩ := h
      exact ⟨_, (pss_one (ps_ret pe_bl)), q⟩
/-- the last of a told aim row -/
theorem ask_last {r : Tr} {z : Str} (T : Clss K mg) (M : MethAt K mg r.cls "asked" ("AimRow.asked", sAimRow_asked) ["self"]) (hi : r.items = none) (ha : r.asked = [z]) (hl : atI r.vs (-1) = some (.str z)) : Met P w K mg base 1 (CA mg r.cls) "asked" (spAsked K mg r) [] := by
  refine meth_mk M (T.ins r).cl scAimRow_asked (fun vs H Q E h => ?_) (fun f cdv A outer s H vs Q E hr h => ?_)
  · obtain ⟨v, W, rfl, _⟩ := h
    rfl
  · obtain ⟨v, W, rfl, ⟨o, dx, t, rfl, ho, ht⟩, q⟩ := h
    have nd := scAimRow_asked.nd
    refine ⟨_, (pss_one (ps_ret (pe_lst (pa_cons (pe_ix (ixtK (K := K) rfl) (pe_fld (pv 0) rfl) (pe_un un_neg pe_int) (fun _ _ => rfl)) pa_nil)))), ?_⟩
    unfold TupV at ht
    rw [hi] at ht
    walk_at "g"
    refine go_fld ?_
    walk_at "g"
    refine ⟨o, _, dx, _, .ref t, rfl, ho, (T.ins r).cl, T.na r, rfl, ?_⟩
    walk_at "g"
    refine go_ixT (v := .str z) ht hl ?_
    walk_at "g"
    rw [ha] at q
    exact ⟨sz_of (by simp), fun p hp => q p hp _ (Same.new hp) upd_same⟩
theorem ok_asked (T : Clss K mg) (X : Txt K mg) (r : Tr) : Met P w K mg base 1 (CA mg r.cls) "asked" (spAsked K mg r) [] := by
  have M := T.asked r
  cases r
  case jump => exact ask_last T M rfl rfl rfl
  case jumpif => exact ask_last T M rfl rfl rfl
  case call => exact ask_last T M rfl rfl rfl
  case load => exact ask_last T M rfl rfl rfl
  case jumpby => exact ask_last T M rfl rfl rfl
  case alike b y z =>
    refine meth_mk (q := ("AlikeRow.asked", sAlikeRow_asked)) M (T.ins _).cl scAlikeRow_asked (fun vs H Q E h => ?_) (fun f cdv A outer s H vs Q E hr h => ?_)
    · obtain ⟨v, W, rfl, _⟩ := h
      rfl
    · obtain ⟨v, W, rfl, ⟨o, dx, t, rfl, ho, ht⟩, q⟩ := h
      have T' := T
      have T := X
      have nd := scAlikeRow_asked.nd
      refine ⟨_, (pss_one (ps_ret (pe_callTy (listK (K := K) rfl) (by rfl) T.n_list (by decide +kernel) (pa_cons (pe_slice (sltK (K := K) rfl) (pe_fld (pv 0) rfl) (po_some pe_int) po_none) pa_nil)))), ?_⟩
      have ht : SqT K H t [.str "alike", .int b, .str y, .str z] := ht
      walk_at "g"
      refine go_fld ?_
      walk_at "g"
      refine ⟨o, _, dx, _, .ref t, rfl, ho, (T'.ins (.alike b y z)).cl, T'.na (.alike b y z), rfl, ?_⟩
      walk_at "g"
      refine ⟨t, _, rfl, ht, (by show ¬ (HT.sIx 4 0 (some 2) = 0 ∧ HT.sIx 4 4 none = 4); decide +kernel), fun p hp => ?_⟩
      walk_at "g"
      refine go_list (.inr (.of upd_same)) fun l hl => ?_
      have hn : H l = none := by
        by_cases e : l = p
        · rw [e]; exact hp
        · rw [upd_ne e] at hl; exact hl
      exact q l hn _ ((Same.new hp).trans (Same.new hl)) upd_same
  case table zs =>
    refine meth_mk (q := ("TableRow.asked", sTableRow_asked)) M (T.ins _).cl scTableRow_asked (fun vs H Q E h => ?_) (fun f cdv A outer s H vs Q E hr h => ?_)
    · obtain ⟨v, W, rfl, _⟩ := h
      rfl
    · obtain ⟨v, W, rfl, ⟨o, dx, t, rfl, ho, ht⟩, q⟩ := h
      have T' := T
      have T := X
      have nd := scTableRow_asked.nd
      refine ⟨_, (pss_one (ps_ret (pe_callTy (listK (K := K) rfl) (by rfl) T.n_list (by decide +kernel) (pa_cons (pe_ix (ixtK (K := K) rfl) (pe_fld (pv 0) rfl) pe_int (fun _ _ => rfl)) pa_nil)))), ?_⟩
      obtain ⟨l, ht, hl, _⟩ : ∃ l, SqT K H t [.str "table", .ref l] ∧ H l = some (.lst (zs.map V.str)) ∧ W l := ht
      walk_at "g"
      refine go_fld ?_
      walk_at "g"
      refine ⟨o, _, dx, _, .ref t, rfl, ho, (T'.ins (.table zs)).cl, T'.na (.table zs), rfl, ?_⟩
      walk_at "g"
      walk_at "g"
      exact go_list (.inl (.of hl)) fun l hl => q l hl _ (Same.new hl) upd_same
  all_goals
    refine meth_mk (q := ("Row.asked", sRow_asked)) M (T.ins _).cl scRow_asked (fun vs H Q E h => ?_) (fun f cdv A outer s H vs Q E hr h => ?_)
    · obtain ⟨v, W, rfl, _⟩ := h
      rfl
    · obtain ⟨v, W, rfl, _, q⟩ := h
      refine ⟨_, (pss_one (ps_ret (pe_lst pa_nil))), ?_⟩
      walk_at "g"
      exact ⟨by decide, fun p hp => q p hp _ (Same.new hp) upd_same⟩
end
end Fj
set_option maxHeartbeats 0
/-! the head: what the top leaves -/
namespace Fj
open PySem PySem.Spec PyProof.Rows L2
def nm0 : List PySem.Str := ["_wall", "PartError", "BadParts", "BadRow", "NoEnd", "Twice", "Lacking", "WrongAim", "SMALL", "MOST_LETTERS", "is_word", "BOXES", "LEAST", "GREATEST", "MOST_DATA", "MOST_KEPT", "is_box", "is_plain", "Row", "MarkRow", "CodeRow", "SetRow", "AddRow", "TakeRow", "SayRow", "AskRow", "AimRow", "JumpRow", "JumpIfRow", "CallRow"]
def nm1 : List PySem.Str := ["LoadRow", "JumpByRow", "AlikeRow", "BackRow", "StopRow", "DataRow", "NumbersRow", "TableRow", "with_boxes", "with_aim", "with_list", "row_of", "MOST_PARTS", "MOST_OF_PART", "MOST_ROWS", "is_marked", "count_marks", "is_part", "checked_form", "next_behind", "ends_well", "looked_at", "bare", "marks_in", "part_name", "standing_in", "is_wanted", "checked_aims", "let_by", "bound"]
def nm2 : List PySem.Str := ["_law_cell_at", "_law_mixed", "_law_parts", "_law_kinds", "_law_goes_on", "_law_skeleton", "_law_name", "_law_number", "_law_filled", "_law_gone", "_law_no_code", "_law_marked_names", "_law_program", "_law_exchanged", "_law_spoilt", "_law_asked", "_law_wants", "_law_stood", "_law_due", "_law_told", "_law_copied", "_law_bare", "_law_right"]
def nms : List PySem.Str := nm0 ++ nm1 ++ nm2
def d_Lacking___init__ : He.DefD := ⟨("Lacking", some "__init__"), "__init__", "Lacking.__init__", defArgs (inClass (top 7) 0), defBody (inClass (top 7) 0), defScope (inClass (top 7) 0), [], []⟩
def d_WrongAim___init__ : He.DefD := ⟨("WrongAim", some "__init__"), "__init__", "WrongAim.__init__", defArgs (inClass (top 8) 0), defBody (inClass (top 8) 0), defScope (inClass (top 8) 0), [], []⟩
def d_is_word : He.DefD := ⟨("is_word", none), "is_word", "is_word", defArgs (top 12), defBody (top 12), defScope (top 12), [], []⟩
def d_is_box : He.DefD := ⟨("is_box", none), "is_box", "is_box", defArgs (top 19), defBody (top 19), defScope (top 19), [], []⟩
def d_is_plain : He.DefD := ⟨("is_plain", none), "is_plain", "is_plain", defArgs (top 20), defBody (top 20), defScope (top 20), [], []⟩
def d_Row___init__ : He.DefD := ⟨("Row", some "__init__"), "__init__", "Row.__init__", defArgs (inClass (top 21) 0), defBody (inClass (top 21) 0), defScope (inClass (top 21) 0), [], []⟩
def d_Row_words : He.DefD := ⟨("Row", some "words"), "words", "Row.words", defArgs (inClass (top 21) 1), defBody (inClass (top 21) 1), defScope (inClass (top 21) 1), [], []⟩
def d_Row_asked : He.DefD := ⟨("Row", some "asked"), "asked", "Row.asked", defArgs (inClass (top 21) 2), defBody (inClass (top 21) 2), defScope (inClass (top 21) 2), [], []⟩
def d_Row_wants : He.DefD := ⟨("Row", some "wants"), "wants", "Row.wants", defArgs (inClass (top 21) 3), defBody (inClass (top 21) 3), defScope (inClass (top 21) 3), [], []⟩
def d_Row_goes_on : He.DefD := ⟨("Row", some "goes_on"), "goes_on", "Row.goes_on", defArgs (inClass (top 21) 4), defBody (inClass (top 21) 4), defScope (inClass (top 21) 4), [], []⟩
def d_CodeRow_goes_on : He.DefD := ⟨("CodeRow", some "goes_on"), "goes_on", "CodeRow.goes_on", defArgs (inClass (top 23) 0), defBody (inClass (top 23) 0), defScope (inClass (top 23) 0), [], []⟩
def d_AimRow_asked : He.DefD := ⟨("AimRow", some "asked"), "asked", "AimRow.asked", defArgs (inClass (top 29) 0), defBody (inClass (top 29) 0), defScope (inClass (top 29) 0), [], []⟩
def d_AimRow_wants : He.DefD := ⟨("AimRow", some "wants"), "wants", "AimRow.wants", defArgs (inClass (top 29) 1), defBody (inClass (top 29) 1), defScope (inClass (top 29) 1), [], []⟩
def d_JumpRow_goes_on : He.DefD := ⟨("JumpRow", some "goes_on"), "goes_on", "JumpRow.goes_on", defArgs (inClass (top 30) 0), defBody (inClass (top 30) 0), defScope (inClass (top 30) 0), [], []⟩
def d_LoadRow_wants : He.DefD := ⟨("LoadRow", some "wants"), "wants", "LoadRow.wants", defArgs (inClass (top 33) 0), defBody (inClass (top 33) 0), defScope (inClass (top 33) 0), [], []⟩
def d_JumpByRow_goes_on : He.DefD := ⟨("JumpByRow", some "goes_on"), "goes_on", "JumpByRow.goes_on", defArgs (inClass (top 34) 0), defBody (inClass (top 34) 0), defScope (inClass (top 34) 0), [], []⟩
def d_JumpByRow_wants : He.DefD := ⟨("JumpByRow", some "wants"), "wants", "JumpByRow.wants", defArgs (inClass (top 34) 1), defBody (inClass (top 34) 1), defScope (inClass (top 34) 1), [], []⟩
def d_AlikeRow_asked : He.DefD := ⟨("AlikeRow", some "asked"), "asked", "AlikeRow.asked", defArgs (inClass (top 35) 0), defBody (inClass (top 35) 0), defScope (inClass (top 35) 0), [], []⟩
def d_AlikeRow_wants : He.DefD := ⟨("AlikeRow", some "wants"), "wants", "AlikeRow.wants", defArgs (inClass (top 35) 1), defBody (inClass (top 35) 1), defScope (inClass (top 35) 1), [], []⟩
def d_BackRow_goes_on : He.DefD := ⟨("BackRow", some "goes_on"), "goes_on", "BackRow.goes_on", defArgs (inClass (top 36) 0), defBody (inClass (top 36) 0), defScope (inClass (top 36) 0), [], []⟩
def d_StopRow_goes_on : He.DefD := ⟨("StopRow", some "goes_on"), "goes_on", "StopRow.goes_on", defArgs (inClass (top 37) 0), defBody (inClass (top 37) 0), defScope (inClass (top 37) 0), [], []⟩
def d_DataRow_words : He.DefD := ⟨("DataRow", some "words"), "words", "DataRow.words", defArgs (inClass (top 38) 0), defBody (inClass (top 38) 0), defScope (inClass (top 38) 0), [], []⟩
def d_TableRow_asked : He.DefD := ⟨("TableRow", some "asked"), "asked", "TableRow.asked", defArgs (inClass (top 40) 0), defBody (inClass (top 40) 0), defScope (inClass (top 40) 0), [], []⟩
def d_TableRow_wants : He.DefD := ⟨("TableRow", some "wants"), "wants", "TableRow.wants", defArgs (inClass (top 40) 1), defBody (inClass (top 40) 1), defScope (inClass (top 40) 1), [], []⟩
def d_with_boxes : He.DefD := ⟨("with_boxes", none), "with_boxes", "with_boxes", defArgs (top 41), defBody (top 41), defScope (top 41), [], []⟩
def d_with_aim : He.DefD := ⟨("with_aim", none), "with_aim", "with_aim", defArgs (top 42), defBody (top 42), defScope (top 42), [], []⟩
def d_with_list : He.DefD := ⟨("with_list", none), "with_list", "with_list", defArgs (top 43), defBody (top 43), defScope (top 43), [], []⟩
def d_row_of : He.DefD := ⟨("row_of", none), "row_of", "row_of", defArgs (top 44), defBody (top 44), defScope (top 44), [], []⟩
def d_is_marked : He.DefD := ⟨("is_marked", none), "is_marked", "is_marked", defArgs (top 49), defBody (top 49), defScope (top 49), [], []⟩
def d_count_marks : He.DefD := ⟨("count_marks", none), "count_marks", "count_marks", defArgs (top 50), defBody (top 50), defScope (top 50), [], []⟩
def d_is_part : He.DefD := ⟨("is_part", none), "is_part", "is_part", defArgs (top 51), defBody (top 51), defScope (top 51), [], []⟩
def d_checked_form : He.DefD := ⟨("checked_form", none), "checked_form", "checked_form", defArgs (top 52), defBody (top 52), defScope (top 52), [], []⟩
def d_next_behind : He.DefD := ⟨("next_behind", none), "next_behind", "next_behind", defArgs (top 53), defBody (top 53), defScope (top 53), [], []⟩
def d_ends_well : He.DefD := ⟨("ends_well", none), "ends_well", "ends_well", defArgs (top 54), defBody (top 54), defScope (top 54), [], []⟩
def d_looked_at : He.DefD := ⟨("looked_at", none), "looked_at", "looked_at", defArgs (top 55), defBody (top 55), defScope (top 55), [], []⟩
def d_bare : He.DefD := ⟨("bare", none), "bare", "bare", defArgs (top 57), defBody (top 57), defScope (top 57), [], []⟩
def d_marks_in : He.DefD := ⟨("marks_in", none), "marks_in", "marks_in", defArgs (top 58), defBody (top 58), defScope (top 58), [], []⟩
def d_part_name : He.DefD := ⟨("part_name", none), "part_name", "part_name", defArgs (top 59), defBody (top 59), defScope (top 59), [], []⟩
def d_standing_in : He.DefD := ⟨("standing_in", none), "standing_in", "standing_in", defArgs (top 60), defBody (top 60), defScope (top 60), [], []⟩
def d_is_wanted : He.DefD := ⟨("is_wanted", none), "is_wanted", "is_wanted", defArgs (top 61), defBody (top 61), defScope (top 61), [], []⟩
def d_checked_aims : He.DefD := ⟨("checked_aims", none), "checked_aims", "checked_aims", defArgs (top 62), defBody (top 62), defScope (top 62), [], []⟩
def d_let_by : He.DefD := ⟨("let_by", none), "let_by", "let_by", defArgs (top 63), defBody (top 63), defScope (top 63), [], []⟩
def d_bound : He.DefD := ⟨("bound", none), "bound", "bound", defArgs (top 64), defBody (top 64), defScope (top 64), [], []⟩
def d__law_cell_at : He.DefD := ⟨("_law_cell_at", none), "_law_cell_at", "_law_cell_at", defArgs (top 66), defBody (top 66), defScope (top 66), [], []⟩
def d__law_mixed : He.DefD := ⟨("_law_mixed", none), "_law_mixed", "_law_mixed", defArgs (top 67), defBody (top 67), defScope (top 67), [], []⟩
def d__law_parts : He.DefD := ⟨("_law_parts", none), "_law_parts", "_law_parts", defArgs (top 68), defBody (top 68), defScope (top 68), [], []⟩
def d__law_kinds : He.DefD := ⟨("_law_kinds", none), "_law_kinds", "_law_kinds", defArgs (top 69), defBody (top 69), defScope (top 69), [], []⟩
def d__law_goes_on : He.DefD := ⟨("_law_goes_on", none), "_law_goes_on", "_law_goes_on", defArgs (top 70), defBody (top 70), defScope (top 70), [], []⟩
def d__law_skeleton : He.DefD := ⟨("_law_skeleton", none), "_law_skeleton", "_law_skeleton", defArgs (top 71), defBody (top 71), defScope (top 71), [], []⟩
def d__law_name : He.DefD := ⟨("_law_name", none), "_law_name", "_law_name", defArgs (top 72), defBody (top 72), defScope (top 72), [], []⟩
def d__law_number : He.DefD := ⟨("_law_number", none), "_law_number", "_law_number", defArgs (top 73), defBody (top 73), defScope (top 73), [], []⟩
def d__law_filled : He.DefD := ⟨("_law_filled", none), "_law_filled", "_law_filled", defArgs (top 74), defBody (top 74), defScope (top 74), [], []⟩
def d__law_gone : He.DefD := ⟨("_law_gone", none), "_law_gone", "_law_gone", defArgs (top 75), defBody (top 75), defScope (top 75), [], []⟩
def d__law_no_code : He.DefD := ⟨("_law_no_code", none), "_law_no_code", "_law_no_code", defArgs (top 76), defBody (top 76), defScope (top 76), [], []⟩
def d__law_marked_names : He.DefD := ⟨("_law_marked_names", none), "_law_marked_names", "_law_marked_names", defArgs (top 77), defBody (top 77), defScope (top 77), [], []⟩
def d__law_program : He.DefD := ⟨("_law_program", none), "_law_program", "_law_program", defArgs (top 78), defBody (top 78), defScope (top 78), [], []⟩
def d__law_exchanged : He.DefD := ⟨("_law_exchanged", none), "_law_exchanged", "_law_exchanged", defArgs (top 79), defBody (top 79), defScope (top 79), [], []⟩
def d__law_spoilt : He.DefD := ⟨("_law_spoilt", none), "_law_spoilt", "_law_spoilt", defArgs (top 80), defBody (top 80), defScope (top 80), [], []⟩
def d__law_asked : He.DefD := ⟨("_law_asked", none), "_law_asked", "_law_asked", defArgs (top 81), defBody (top 81), defScope (top 81), [], []⟩
def d__law_wants : He.DefD := ⟨("_law_wants", none), "_law_wants", "_law_wants", defArgs (top 82), defBody (top 82), defScope (top 82), [], []⟩
def d__law_stood : He.DefD := ⟨("_law_stood", none), "_law_stood", "_law_stood", defArgs (top 83), defBody (top 83), defScope (top 83), [], []⟩
def d__law_due : He.DefD := ⟨("_law_due", none), "_law_due", "_law_due", defArgs (top 84), defBody (top 84), defScope (top 84), [], []⟩
def d__law_told : He.DefD := ⟨("_law_told", none), "_law_told", "_law_told", defArgs (top 85), defBody (top 85), defScope (top 85), [], []⟩
def d__law_copied : He.DefD := ⟨("_law_copied", none), "_law_copied", "_law_copied", defArgs (top 86), defBody (top 86), defScope (top 86), [], []⟩
def d__law_bare : He.DefD := ⟨("_law_bare", none), "_law_bare", "_law_bare", defArgs (top 87), defBody (top 87), defScope (top 87), [], []⟩
def d__law_right : He.DefD := ⟨("_law_right", none), "_law_right", "_law_right", defArgs (top 88), defBody (top 88), defScope (top 88), [], []⟩
def d_law : He.DefD := ⟨("law", none), "law", "law", defArgs (top 89), defBody (top 89), defScope (top 89), [], []⟩
def fnL0 : List He.DefD := [d_Lacking___init__, d_WrongAim___init__, d_is_word, d_is_box, d_is_plain, d_Row___init__, d_Row_words, d_Row_asked, d_Row_wants, d_Row_goes_on, d_CodeRow_goes_on, d_AimRow_asked]
def fnL1 : List He.DefD := [d_AimRow_wants, d_JumpRow_goes_on, d_LoadRow_wants, d_JumpByRow_goes_on, d_JumpByRow_wants, d_AlikeRow_asked, d_AlikeRow_wants, d_BackRow_goes_on, d_StopRow_goes_on, d_DataRow_words, d_TableRow_asked, d_TableRow_wants]
def fnL2 : List He.DefD := [d_with_boxes, d_with_aim, d_with_list, d_row_of, d_is_marked, d_count_marks, d_is_part, d_checked_form, d_next_behind, d_ends_well, d_looked_at, d_bare]
def fnL3 : List He.DefD := [d_marks_in, d_part_name, d_standing_in, d_is_wanted, d_checked_aims, d_let_by, d_bound, d__law_cell_at, d__law_mixed, d__law_parts, d__law_kinds, d__law_goes_on]
def fnL4 : List He.DefD := [d__law_skeleton, d__law_name, d__law_number, d__law_filled, d__law_gone, d__law_no_code, d__law_marked_names, d__law_program, d__law_exchanged, d__law_spoilt, d__law_asked, d__law_wants]
def fnL5 : List He.DefD := [d__law_stood, d__law_due, d__law_told, d__law_copied, d__law_bare, d__law_right, d_law]
def fnL : List He.DefD := fnL0 ++ fnL1 ++ fnL2 ++ fnL3 ++ fnL4 ++ fnL5
def faA0 : List He.Fa := [.glo "is_word", .glo "is_box", .glo "is_plain", .glo "with_boxes", .glo "with_aim", .glo "with_list", .glo "row_of", .glo "is_marked", .glo "count_marks", .glo "is_part", .glo "checked_form", .glo "next_behind", .glo "ends_well", .glo "looked_at", .glo "bare", .glo "marks_in", .glo "part_name", .glo "standing_in", .glo "is_wanted", .glo "checked_aims"]
def faA1 : List He.Fa := [.glo "let_by", .glo "bound", .glo "_law_cell_at", .glo "_law_mixed", .glo "_law_parts", .glo "_law_kinds", .glo "_law_goes_on", .glo "_law_skeleton", .glo "_law_name", .glo "_law_number", .glo "_law_filled", .glo "_law_gone", .glo "_law_no_code", .glo "_law_marked_names", .glo "_law_program", .glo "_law_exchanged", .glo "_law_spoilt", .glo "_law_asked", .glo "_law_wants", .glo "_law_stood"]
def faA2 : List He.Fa := [.glo "_law_due", .glo "_law_told", .glo "_law_copied", .glo "_law_bare", .glo "_law_right", .glo "law", .free "len", .free "isinstance", .free "all", .free "sum", .free "sorted", .free "range", .free "enumerate", .free "dict", .free "list", .free "str", .free "int", .free "bool", .free "tuple", .int "MOST_LETTERS" (8)]
def faA3 : List He.Fa := [.int "BOXES" (4), .int "LEAST" (-2147483648), .int "GREATEST" (2147483647), .int "MOST_DATA" (60), .int "MOST_PARTS" (12), .int "MOST_OF_PART" (60), .int "MOST_ROWS" (200), .str "SMALL" "abcdefghijklmnopqrstuvwxyz"]
def faA : List He.Fa := faA0 ++ faA1 ++ faA2 ++ faA3
def faB0 : List He.Fa := [.glo "MarkRow", .glo "SetRow", .glo "AddRow", .glo "TakeRow", .glo "SayRow", .glo "AskRow", .glo "JumpRow", .glo "JumpIfRow", .glo "CallRow", .glo "BackRow", .glo "StopRow", .glo "LoadRow", .glo "JumpByRow", .glo "AlikeRow", .glo "NumbersRow", .glo "TableRow", .glo "CodeRow", .glo "PartError", .glo "Lacking", .glo "WrongAim"]
def faB1 : List He.Fa := [.glo "Twice", .glo "NoEnd", .cls "MarkRow", .cls "SetRow", .cls "AddRow", .cls "TakeRow", .cls "SayRow", .cls "AskRow", .cls "JumpRow", .cls "JumpIfRow", .cls "CallRow", .cls "BackRow", .cls "StopRow", .cls "LoadRow", .cls "JumpByRow", .cls "AlikeRow", .cls "NumbersRow", .cls "TableRow", .noat "MarkRow" "told", .noat "SetRow" "told"]
def faB2 : List He.Fa := [.noat "AddRow" "told", .noat "TakeRow" "told", .noat "SayRow" "told", .noat "AskRow" "told", .noat "JumpRow" "told", .noat "JumpIfRow" "told", .noat "CallRow" "told", .noat "BackRow" "told", .noat "StopRow" "told", .noat "LoadRow" "told", .noat "JumpByRow" "told", .noat "AlikeRow" "told", .noat "NumbersRow" "told", .noat "TableRow" "told", .mkr "MarkRow", .mkr "SetRow", .mkr "AddRow", .mkr "TakeRow", .mkr "SayRow", .mkr "AskRow"]
def faB3 : List He.Fa := [.mkr "JumpRow", .mkr "JumpIfRow", .mkr "CallRow", .mkr "BackRow", .mkr "StopRow", .mkr "LoadRow", .mkr "JumpByRow", .mkr "AlikeRow", .mkr "NumbersRow", .mkr "TableRow"]
def faB : List He.Fa := faB0 ++ faB1 ++ faB2 ++ faB3
def faC0 : List He.Fa := [.meth "MarkRow" "words", .meth "MarkRow" "asked", .meth "MarkRow" "wants", .meth "MarkRow" "goes_on", .meth "SetRow" "words", .meth "SetRow" "asked", .meth "SetRow" "wants", .meth "SetRow" "goes_on", .meth "AddRow" "words", .meth "AddRow" "asked", .meth "AddRow" "wants", .meth "AddRow" "goes_on", .meth "TakeRow" "words", .meth "TakeRow" "asked", .meth "TakeRow" "wants", .meth "TakeRow" "goes_on", .meth "SayRow" "words", .meth "SayRow" "asked", .meth "SayRow" "wants", .meth "SayRow" "goes_on"]
def faC1 : List He.Fa := [.meth "AskRow" "words", .meth "AskRow" "asked", .meth "AskRow" "wants", .meth "AskRow" "goes_on", .meth "JumpRow" "words", .meth "JumpRow" "asked", .meth "JumpRow" "wants", .meth "JumpRow" "goes_on", .meth "JumpIfRow" "words", .meth "JumpIfRow" "asked", .meth "JumpIfRow" "wants", .meth "JumpIfRow" "goes_on", .meth "CallRow" "words", .meth "CallRow" "asked", .meth "CallRow" "wants", .meth "CallRow" "goes_on", .meth "BackRow" "words", .meth "BackRow" "asked", .meth "BackRow" "wants", .meth "BackRow" "goes_on"]
def faC2 : List He.Fa := [.meth "StopRow" "words", .meth "StopRow" "asked", .meth "StopRow" "wants", .meth "StopRow" "goes_on", .meth "LoadRow" "words", .meth "LoadRow" "asked", .meth "LoadRow" "wants", .meth "LoadRow" "goes_on", .meth "JumpByRow" "words", .meth "JumpByRow" "asked", .meth "JumpByRow" "wants", .meth "JumpByRow" "goes_on", .meth "AlikeRow" "words", .meth "AlikeRow" "asked", .meth "AlikeRow" "wants", .meth "AlikeRow" "goes_on", .meth "NumbersRow" "words", .meth "NumbersRow" "asked", .meth "NumbersRow" "wants", .meth "NumbersRow" "goes_on"]
def faC3 : List He.Fa := [.meth "TableRow" "words", .meth "TableRow" "asked", .meth "TableRow" "wants", .meth "TableRow" "goes_on"]
def faC : List He.Fa := faC0 ++ faC1 ++ faC2 ++ faC3
def faL : List He.Fa := faA ++ (faB ++ faC)

def oneB (a : Option Bool) (b : Bool) : Bool := match a with
  | some c => c == b
  | none => false
theorem oneB_ok {a : Option Bool} {b : Bool} (h : oneB a b = true) : a = some b := by
  unfold oneB at h
  split at h
  · rw [beq_iff_eq.mp h]
  · cases h
def owns (q : Str × Stmt) (cs : List (Str × Str)) : Str := (cs.lookup q.1).getD ""
def ownL : List (Str × Str) := [("DataRow.words", "DataRow"), ("Row.words", "Row"), ("AimRow.asked", "AimRow"), ("AlikeRow.asked", "AlikeRow"), ("TableRow.asked", "TableRow"), ("Row.asked", "Row"), ("AimRow.wants", "AimRow"), ("LoadRow.wants", "LoadRow"), ("JumpByRow.wants", "JumpByRow"), ("AlikeRow.wants", "AlikeRow"), ("TableRow.wants", "TableRow"), ("Row.wants", "Row"), ("JumpRow.goes_on", "JumpRow"), ("JumpByRow.goes_on", "JumpByRow"), ("BackRow.goes_on", "BackRow"), ("StopRow.goes_on", "StopRow"), ("Row.goes_on", "Row"), ("CodeRow.goes_on", "CodeRow")]
def sameM (K : PySem.W.Frag) (x m o : Str) : Bool := He.ma K (He.ga K x) m == He.ma K (He.ga K o) m
def rowB (K : PySem.W.Frag) (r : Tr) : Bool :=
  He.eqO (PySem.W.findIn K (.ref (He.ga K r.cls)) "__class__") (some (some (.builtin "object.__class__"))) &&
  (oneB (PySem.W.mroIn K (He.ga K r.cls) (.type "object")) true &&
  (He.eqO (PySem.W.findIn K (.ref (He.ga K r.cls)) "__eq__") (some (some (.builtin "object.__eq__"))) &&
  (oneB (PySem.W.kitOne K (.ref (He.ga K r.cls)) (.ref (He.ga K r.cls))) true &&
  (oneB (PySem.W.kitOne K (.ref (He.ga K r.cls)) (.ref (He.ga K "MarkRow"))) (!r.nm) &&
  (oneB (PySem.W.kitOne K (.ref (He.ga K r.cls)) (.ref (He.ga K "CodeRow"))) r.code &&
  (oneB (PySem.W.kitOne K (.ref (He.ga K r.cls)) (.ref (He.ga K "NumbersRow"))) r.isNum &&
  (oneB (PySem.W.kitOne K (.ref (He.ga K r.cls)) (.ref (He.ga K "TableRow"))) r.isTab &&
  (sameM K r.cls "__init__" "Row" && (sameM K r.cls "words" (owns (qWords r) ownL) && (sameM K r.cls "asked" (owns (qAsked r) ownL) && (sameM K r.cls "wants" (owns (qWants r) ownL) && sameM K r.cls "goes_on" (owns (qGoes r) ownL))))))))))))
def reps : List Tr := [.mark "" true, .set 0 0, .add 0 0, .take 0 0, .say 0, .ask 0, .jump "", .jumpif 0 "", .call "", .back, .stop, .load 0 0 "", .jumpby 0 "", .alike 0 "" "", .numbers [], .table []]
def comB (K : PySem.W.Frag) : Bool := He.eqO (PySem.W.specialIn K (.builtin "object.__class__") "__get__") (some (some (.builtin "getset_descriptor.__get__"))) && oneB (PySem.W.takesIn K (.builtin "object.__class__")) true
def baseB (K : PySem.W.Frag) : Bool := PySem.W.readsIn K (He.ga K "PartError") (.type "type") && (He.eqO (PySem.W.specialIn K (.ref (He.ga K "PartError")) "__getattribute__") (some (some (.builtin "type.__getattribute__"))) &&
  (match PySem.W.findCls K (.ref (He.ga K "PartError")) (.type "type") "__init__" with
  | some (.val (.builtin n)) => n == "ValueError.__init__"
  | _ => false))
def excB (K : PySem.W.Frag) (C : Addr) : Bool := match K.lookup C with
  | some ⟨.type "type", _, .cls cd, sl⟩ => (match cd.mro, sl.toList with
    | .ref C' :: bm, [_, _, _, _, some (.builtin n), _] => C' == C && (n == "ValueError.__new__" && (!cd.hasDel && (cd.hasDict && PySem.HandSPX.refsVE bm)))
    | _, _ => false)
  | _ => false
def typB (K : PySem.W.Frag) (v : Value) (n : String) : Bool := match PySem.W.typeIn K v with
  | some (.type t) => t == n
  | _ => false
def errB (K : PySem.W.Frag) (x : Str) (l : Bool) : Bool :=
  excB K (He.ga K x) && (He.eqO (PySem.W.findIn K (.ref (He.ga K x)) "__setattr__") (some (some (.builtin "object.__setattr__"))) &&
  (oneB (PySem.W.subIn K (.ref (He.ga K x)) (.type "BaseException")) true && (typB K (.ref (He.ga K x)) "type" && (PySem.W.keepIn K (.ref (He.ga K x)) &&
  (He.eqO (PySem.W.findIn K (.ref (He.ga K x)) "__init__") (some (some (.ref (He.ma K (He.ga K x) "__init__")))) && (typB K (.ref (He.ma K (He.ga K x) "__init__")) "function" &&
  (He.eqO (PySem.W.findIn K (.ref (He.ga K x)) "name") (some none) && (He.eqO (PySem.W.findIn K (.ref (He.ga K x)) "part") (some none) && (He.eqO (PySem.W.findIn K (.ref (He.ga K x)) "row") (some none) &&
  (He.eqO (PySem.W.findIn K (.ref (He.ga K x)) "__getattribute__") (some (some (.builtin "BaseException.__getattribute__"))) && (He.eqO (PySem.W.findIn K (.ref (He.ga K x)) "__getattr__") (some none) &&
  (PySem.W.hasDictIn K (He.ga K x) && (He.eqO (PySem.W.findIn K (.ref (He.ga K x)) "__class__") (some (some (.builtin "object.__class__"))) && (oneB (PySem.W.mroIn K (He.ga K x) (.type "object")) true &&
  (oneB (PySem.W.exmOne K (.ref (He.ga K x)) (.ref (He.ga K "PartError"))) true &&
  (oneB (PySem.W.kitOne K (.ref (He.ga K x)) (.ref (He.ga K "Lacking"))) l && (oneB (PySem.W.kitOne K (.ref (He.ga K x)) (.ref (He.ga K "WrongAim"))) (!l) && (oneB (PySem.W.kitOne K (.ref (He.ga K x)) (.ref (He.ga K "Twice"))) false && oneB (PySem.W.kitOne K (.ref (He.ga K x)) (.ref (He.ga K "NoEnd"))) false))))))))))))))))))
def exL (K : PySem.W.Frag) : Bool := comB K && (baseB K && (errB K "Lacking" true && (errB K "WrongAim" false && reps.all (rowB K))))

abbrev R0 : PySem.W.OpenRow := PySem.W.OpenLaw.row PySem.Challenge.rw_farjump_k18_aims
/-- what is looked at: what the module's names reach, and the interpreter's own store -/
def asW (g : Addr → Option Obj) : List Addr := PySem.cStatics :: He.asD g 4
def obK (K : PySem.W.Frag) : Bool × (Bool × List He.FnW) := ((faL.all fun f => f.ok K) && exL K, (fnL.all (fun d => d.ok K), fnL.map fun d => He.fnW K d.at_))
def vK : Bool × (Bool × List He.FnW) := (true, (true, fnL.map He.DefD.val))
def hk : PySem.W.Hook where
  α := Bool × (Bool × List He.FnW)
  obs := fun s => obK (He.frT s.heap.get? (asW s.heap.get?))
  val := fun _ => vK
  says := fun _ h => ∃ K : PySem.W.Frag, K.In h ∧ obK K = vK
  of := fun _ _ e => ⟨_, He.frT_in, e⟩
  keeps := fun _ _ _ ⟨K, hK, c⟩ k => ⟨K, PySem.W.Frag.In.keeps hK k, c⟩
def ob (s : PySem.W.SharedT) : Bool × (Bool × List He.FnW) := obK (He.frT (HandSHeadRun.getT s) (asW (HandSHeadRun.getT s)))
theorem ob_eq (s : PySem.W.SharedT) : ob s = hk.obs s.abs := by
  have e : HandSHeadRun.getT s = s.abs.heap.get? := funext (HandSHeadRun.getT_eq s)
  unfold ob
  rw [e]
  rfl
end Fj
set_option maxHeartbeats 0
namespace Fj
open PySem PySem.Spec PyProof.Rows L2
noncomputable abbrev XX (w : World) (os : OsState) := HandSHeadRun.endF (HandSHeadRun.stepQ (HandSHeadRun.denQ HandSHeadRun.tabQ) R0.prog w) 12000 R0.prog w os
def KK (s : PySem.W.SharedT) : PySem.W.Frag := He.frT (HandSHeadRun.getT s) (asW (HandSHeadRun.getT s))
def fnA : List He.DefD := fnL0 ++ fnL1 ++ fnL2
def fnB : List He.DefD := fnL3 ++ fnL4 ++ fnL5
theorem p1 (w : World) (os : OsState) : (XX w os).map (fun s => faA.all fun f => f.ok (KK s)) = some true := by kernel_rfl
theorem p5 (w : World) (os : OsState) : (XX w os).map (fun s => (faB ++ faC).all fun f => f.ok (KK s)) = some true := by kernel_rfl
theorem p2 (w : World) (os : OsState) : (XX w os).map (fun s => exL (KK s)) = some true := by kernel_rfl
theorem p3 (w : World) (os : OsState) : (XX w os).map (fun s => (fnA.all (fun d => d.ok (KK s)), fnA.map fun d => He.fnW (KK s) d.at_)) = some (true, fnA.map He.DefD.val) := by kernel_rfl
theorem p4 (w : World) (os : OsState) : (XX w os).map (fun s => (fnB.all (fun d => d.ok (KK s)), fnB.map fun d => He.fnW (KK s) d.at_)) = some (true, fnB.map He.DefD.val) := by kernel_rfl
theorem p0 (w : World) : HandSHeadRun.RunEq R0 (PySem.W.view R0.prog [89]) PySem.W.Hook.none (fun _ => PySem.W.Hook.none.val w) 12000 nms w := by
  intro os
  kernel_rfl
theorem map_at {α β : Type} {o : Option α} {s : α} {f : α → β} {v : β} (h : o.map f = some v) (e : o = some s) : f s = v := by
  rw [e] at h
  exact Option.some.inj h
theorem run (w : World) : HandSHeadRun.RunEq R0 (PySem.W.view R0.prog [89]) hk ob 12000 nms w := by
  intro os
  have h0 := p0 w os
  obtain ⟨s, hs, e0⟩ := Option.map_eq_some_iff.mp h0
  have hs : XX w os = some s := hs
  have e1 := map_at (p1 w os) hs
  have e5 := map_at (p5 w os) hs
  have e2 := map_at (p2 w os) hs
  have e3 := map_at (p3 w os) hs
  have e4 := map_at (p4 w os) hs
  have eo : ob s = vK := by
    show obK (KK s) = vK
    have ef : fnL = fnA ++ fnB := by
      unfold fnL fnA fnB
      simp only [List.append_assoc]
    have el : (faL.all fun f => f.ok (KK s)) = true := by
      unfold faL
      rw [List.all_append, e1, e5]
      rfl
    unfold obK vK
    rw [el, e2, ef, List.all_append, List.map_append, List.map_append]
    have a3 := (Prod.mk.inj e3).1
    have b3 := (Prod.mk.inj e3).2
    have a4 := (Prod.mk.inj e4).1
    have b4 := (Prod.mk.inj e4).2
    rw [a3, b3, a4, b4]
    rfl
  show (XX w os).map _ = _
  rw [hs]
  have g1 := (Prod.mk.inj e0).1
  have g2 := (Prod.mk.inj (Prod.mk.inj e0).2).1
  refine congrArg some ?_
  exact Prod.ext g1 (Prod.ext g2 eo)
end Fj
namespace Fj
open PySem PySem.W PySem.Calls PyProof.Rows
theorem prom : (OpenLaw.row PySem.Challenge.rw_farjump_k18_aims).toRowW.promised := by w_witness2
theorem frame (hc : WalkO (view (OpenLaw.row PySem.Challenge.rw_farjump_k18_aims).prog [89]) Fj.nms (XL (view (OpenLaw.row PySem.Challenge.rw_farjump_k18_aims).prog [89]) []) Fj.hk.says (OpenLaw.row PySem.Challenge.rw_farjump_k18_aims).toRowW (HandSHeadRun.topDef (OpenLaw.row PySem.Challenge.rw_farjump_k18_aims).prog 89) [] fun f vs => PySem.call f vs) : PySem.Challenge.rw_farjump_k18_aims.Holds := by
  w_on; o_law
  exact HandSHeadRun.head_any (r := OpenLaw.row PySem.Challenge.rw_farjump_k18_aims) (q := view (OpenLaw.row PySem.Challenge.rw_farjump_k18_aims).prog [89]) (H := Fj.hk) (ob := Fj.ob) (M := 12000) (loose := Fj.nms) (d := HandSHeadRun.topDef (OpenLaw.row PySem.Challenge.rw_farjump_k18_aims).prog 89) (kwd := []) Fj.ob_eq
    (by kernel_rfl) (fun s => by kernel_rfl) Fj.run (by kernel_rfl) (by kernel_rfl) (by kernel_rfl) (by rfl) (by first | assumption | decide +kernel) (by decide +kernel) ⟨rfl, rfl, rfl, rfl, rfl, by decide +kernel⟩ Fj.prom hc
end Fj
set_option maxHeartbeats 4000000
/-! more steps -/
namespace Fj
open PySem PySem.Spec PyProof.Rows L2
open C8 (Met Mak InsC pe_mt0 pe_mk)
section
variable {P : Program} {w : World} {K : PySem.W.Frag} {mg : Str → Option Value} {base : Heap}
variable {σ : L2.St} {H : Hp} {Q : VK} {x y v : V} {i j : Int} {te : TE} {tl : TA} {E : XK} {a : Addr} {xs : List V}
theorem go_box {b : Int} (h : Tr.Box b) (q : Q (.bl true) H) : spIsBox ([.int b] ++ []) H Q E := ⟨b, rfl, h.1, h.2, q⟩
theorem go_plain {b : Int} (h : Tr.Pl b) (q : Q (.bl true) H) : spIsPlain ([.int b] ++ []) H Q E := ⟨b, rfl, h.1, h.2, q⟩
theorem go_word {z : Str} (h : IsW z) (q : ∀ H', Same H H' → Q (.bl true) H') : spIsWord ([.str z] ++ []) H Q E := ⟨z, rfl, h, q⟩
theorem kit_bool_bool : PySem.W.kitOne K (.type "bool") (.type "bool") = some true := kit_ty (by decide +kernel)
theorem kit_tup_tup : PySem.W.kitOne K (.type "tuple") (.type "tuple") = some true := kit_ty (by decide +kernel)
theorem kit_lst_lst : PySem.W.kitOne K (.type "list") (.type "list") = some true := kit_ty (by decide +kernel)
theorem ty_tup (h : SqT K H a xs) : TyX K H (.ref a) (.type "tuple") := by
  rcases h with (h | ⟨o, h⟩) | ⟨o, its, n, h, c, _⟩
  · exact .base (.tup h)
  · exact .fTuple h
  · exact .kTuple h c
theorem ty_lst (h : SqL K H a xs) : TyX K H (.ref a) (.type "list") := by
  rcases h with (h | ⟨o, h⟩) | ⟨o, its, n, h, c, _⟩
  · exact .base (.lst h)
  · exact .base (.frz h)
  · exact .kList h c
theorem go_isiSS {z : Str} (q : Q (.bl true) H) : rIsi K [.str z, .ty "str"] H Q := go_isi (.ty "str") (.base (.str _)) kit_str_str q
theorem go_isiII (q : Q (.bl true) H) : rIsi K [.int i, .ty "int"] H Q := go_isi (.ty "int") (.base (.int _)) kit_int_int q
theorem go_isiIB (q : Q (.bl false) H) : rIsi K [.int i, .ty "bool"] H Q := go_isi (.ty "bool") (.base (.int _)) kit_int_bool q
theorem go_isiBB {b : Bool} (q : Q (.bl true) H) : rIsi K [.bl b, .ty "bool"] H Q := go_isi (.ty "bool") (.base (.bl _)) kit_bool_bool q
theorem go_isiTT (h : SqT K H a xs) (q : Q (.bl true) H) : rIsi K [.ref a, .ty "tuple"] H Q := go_isi (.ty "tuple") (ty_tup h) kit_tup_tup q
theorem go_isiLL (h : SqL K H a xs) (q : Q (.bl true) H) : rIsi K [.ref a, .ty "list"] H Q := go_isi (.ty "list") (ty_lst h) kit_lst_lst q
theorem go_isiOM {r : Tr} {W : Addr → Prop} (T : Clss K mg) (h : ObjV W K H mg v r) (q : Q (.bl (!r.nm)) H) : rIsi K [v, .ref (CA mg "MarkRow")] H Q := by
  obtain ⟨o, dx, t, rfl, ho, _⟩ := h
  have c := T.ins r
  exact go_isi (.own _) (.base (.ins ho c.cl c.ha c.hn c.htk c.hm)) (T.qm r) q
theorem go_isiOC {r : Tr} {W : Addr → Prop} (T : Clss K mg) (h : ObjV W K H mg v r) (q : Q (.bl r.code) H) : rIsi K [v, .ref (CA mg "CodeRow")] H Q := by
  obtain ⟨o, dx, t, rfl, ho, _⟩ := h
  have c := T.ins r
  exact go_isi (.own _) (.base (.ins ho c.cl c.ha c.hn c.htk c.hm)) (T.qc r) q
theorem go_isiON {r : Tr} {W : Addr → Prop} (T : Clss K mg) (h : ObjV W K H mg v r) (q : Q (.bl r.isNum) H) : rIsi K [v, .ref (CA mg "NumbersRow")] H Q := by
  obtain ⟨o, dx, t, rfl, ho, _⟩ := h
  have c := T.ins r
  exact go_isi (.own _) (.base (.ins ho c.cl c.ha c.hn c.htk c.hm)) (T.qn r) q
theorem go_isiOT {r : Tr} {W : Addr → Prop} (T : Clss K mg) (h : ObjV W K H mg v r) (q : Q (.bl r.isTab) H) : rIsi K [v, .ref (CA mg "TableRow")] H Q := by
  obtain ⟨o, dx, t, rfl, ho, _⟩ := h
  have c := T.ins r
  exact go_isi (.own _) (.base (.ins ho c.cl c.ha c.hn c.htk c.hm)) (T.qt r) q
theorem kit_non_x {C : Addr} (h : PySem.W.kitOne K (.type "NoneType") (.ref C) = some false) (q : Q (.bl false) H) : rIsi K [.non, .ref C] H Q := go_isi (.own _) (.base .non) h q
/-- C(t) -/
theorem go_mkr {C : Addr} {sp : Sp} (q : tl σ H fun vs H1 => ∀ x dx, H1 x = none → H1 dx = none → dx ≠ x → sp (.ref x :: (vs ++ [])) (upd (upd H1 dx (.own x)) x (.ins C dx [])) (fun v H2 => v = .non ∧ Q (.ref x) H2) E) : tMake C sp [] E tl σ H Q := q
theorem TupV.any {W W' : Addr → Prop} {t : Addr} {r : Tr} (hi : r.items = none) (h : TupV W K H t r) : TupV W' K H t r := by
  unfold TupV at h ⊢
  rw [hi] at h ⊢
  exact h
theorem same_none {H H' : Hp} {a : Addr} (s : Same H H') (h : H' a = none) : H a = none := by
  cases e : H a with
  | none => rfl
  | some o => rw [s _ _ e] at h; cases h
theorem mk_obj {W : Addr → Prop} {t : Addr} {r : Tr} (h : TupV W K H t r) (q : ∀ v H', Same H H' → ObjV W K H' mg v r → Q v H') : ∀ x dx, H x = none → H dx = none → dx ≠ x →
    spInit mg r.cls (.ref x :: ([.ref t] ++ [])) (upd (upd H dx (.own x)) x (.ins (CA mg r.cls) dx [])) (fun v H2 => v = .non ∧ Q (.ref x) H2) E := by
  intro x dx hx hdx ne
  refine ⟨x, dx, t, rfl, upd_same, rfl, ?_⟩
  rw [upd_upd]
  have s1 : Same H (upd H dx (.own x)) := Same.new hdx
  have s : Same H (upd (upd H dx (.own x)) x (.ins (CA mg r.cls) dx [("told", .ref t)])) := s1.mut hx
  exact q _ _ s ⟨x, dx, t, rfl, upd_same, h.keep (.same s fun _ z => z)⟩
theorem M_MarkRow (T : Clss K mg) : Mak P w K mg base 1 "MarkRow" (CA mg "MarkRow") (spInit mg "MarkRow") [] := ok_init T (.mark "" true)
theorem M_SetRow (T : Clss K mg) : Mak P w K mg base 1 "SetRow" (CA mg "SetRow") (spInit mg "SetRow") [] := ok_init T (.set 0 0)
theorem M_AddRow (T : Clss K mg) : Mak P w K mg base 1 "AddRow" (CA mg "AddRow") (spInit mg "AddRow") [] := ok_init T (.add 0 0)
theorem M_TakeRow (T : Clss K mg) : Mak P w K mg base 1 "TakeRow" (CA mg "TakeRow") (spInit mg "TakeRow") [] := ok_init T (.take 0 0)
theorem M_SayRow (T : Clss K mg) : Mak P w K mg base 1 "SayRow" (CA mg "SayRow") (spInit mg "SayRow") [] := ok_init T (.say 0)
theorem M_AskRow (T : Clss K mg) : Mak P w K mg base 1 "AskRow" (CA mg "AskRow") (spInit mg "AskRow") [] := ok_init T (.ask 0)
theorem M_JumpRow (T : Clss K mg) : Mak P w K mg base 1 "JumpRow" (CA mg "JumpRow") (spInit mg "JumpRow") [] := ok_init T (.jump "")
theorem M_JumpIfRow (T : Clss K mg) : Mak P w K mg base 1 "JumpIfRow" (CA mg "JumpIfRow") (spInit mg "JumpIfRow") [] := ok_init T (.jumpif 0 "")
theorem M_CallRow (T : Clss K mg) : Mak P w K mg base 1 "CallRow" (CA mg "CallRow") (spInit mg "CallRow") [] := ok_init T (.call "")
theorem M_BackRow (T : Clss K mg) : Mak P w K mg base 1 "BackRow" (CA mg "BackRow") (spInit mg "BackRow") [] := ok_init T .back
theorem M_StopRow (T : Clss K mg) : Mak P w K mg base 1 "StopRow" (CA mg "StopRow") (spInit mg "StopRow") [] := ok_init T .stop
theorem M_LoadRow (T : Clss K mg) : Mak P w K mg base 1 "LoadRow" (CA mg "LoadRow") (spInit mg "LoadRow") [] := ok_init T (.load 0 0 "")
theorem M_JumpByRow (T : Clss K mg) : Mak P w K mg base 1 "JumpByRow" (CA mg "JumpByRow") (spInit mg "JumpByRow") [] := ok_init T (.jumpby 0 "")
theorem M_AlikeRow (T : Clss K mg) : Mak P w K mg base 1 "AlikeRow" (CA mg "AlikeRow") (spInit mg "AlikeRow") [] := ok_init T (.alike 0 "" "")
theorem M_NumbersRow (T : Clss K mg) : Mak P w K mg base 1 "NumbersRow" (CA mg "NumbersRow") (spInit mg "NumbersRow") [] := ok_init T (.numbers [])
theorem M_TableRow (T : Clss K mg) : Mak P w K mg base 1 "TableRow" (CA mg "TableRow") (spInit mg "TableRow") [] := ok_init T (.table [])
/-- lists that stand are not D -/
theorem TupV.fresh {t : Addr} {r : Tr} {D : Addr} {W : Addr → Prop} (hD : H D = none) (h : TupV W K H t r) : TupV (fun a => W a ∧ a ≠ D) K H t r := by
  unfold TupV at h ⊢
  split at h
  · exact h
  · obtain ⟨l, a, b, c⟩ := h
    exact ⟨l, a, b, c, ne_of_none b hD⟩
theorem RowV.fresh {v : V} {r : Tr} {D : Addr} {W : Addr → Prop} (hD : H D = none) (h : RowV W K H v r) : RowV (fun a => W a ∧ a ≠ D) K H v r := by
  obtain ⟨t, e, h⟩ := h
  exact ⟨t, e, h.fresh hD⟩
theorem ObjV.fresh {v : V} {r : Tr} {D : Addr} {W : Addr → Prop} (hD : H D = none) (h : ObjV W K H mg v r) : ObjV (fun a => W a ∧ a ≠ D) K H mg v r := by
  obtain ⟨o, dx, t, e, a, b⟩ := h
  exact ⟨o, dx, t, e, a, b.fresh hD⟩
theorem PartV.fresh {v : V} {r : Str × Rows} {D : Addr} {W : Addr → Prop} (hD : H D = none) (h : PartV W K H v r) : PartV (fun a => W a ∧ a ≠ D) K H v r := by
  obtain ⟨t, l, xs, e, h, a, b, c⟩ := h
  exact ⟨t, l, xs, e, h, a, ⟨b, ne_of_none a hD⟩, pImp c fun _ _ z => z.fresh hD⟩
theorem PartO.fresh {v : V} {r : Str × Rows} {D : Addr} {W : Addr → Prop} (hD : H D = none) (h : PartO W K H mg v r) : PartO (fun a => W a ∧ a ≠ D) K H mg v r := by
  obtain ⟨t, l, xs, e, h, a, b, c⟩ := h
  exact ⟨t, l, xs, e, h, a, ⟨b, ne_of_none a hD⟩, pImp c fun _ _ z => z.fresh hD⟩
/-- a method of a row's object -/
def tRw (mg : Str → Option Value) (m : Str) (sp : Tr → Sp) (te : TE) : TE := fun σ H Q => ∃ r : Tr, tMeth (CA mg r.cls) m (sp r) [] C8.E0 te tNil σ H Q
theorem pe_rw {X : Cx} {m : Str} {sp : Tr → Sp} {j : Nat} {o : Expr} {ta : TE} {apos pos : Pos} {pl : Sem Bool} (M : ∀ r : Tr, Met X.prog X.w X.K X.mg X.base 1 (CA X.mg r.cls) m (sp r) []) (hr : Room j X.A) (hk : 1 ≤ j) (he : PE X o ta)
    (ht : eval (.Call (.Attribute o m apos) [] [] pos) X.env = (do
      let ov ← eval o X.env
      standAt apos.atName
      let (f, first) ← holding [ov] (getMethod ov m pl)
      callWith pos f first (backTo pos (starEach [] X.env)) (backToKw pos (keywordEach [] X.env))) := by rfl) :
    PE X (.Call (.Attribute o m apos) [] [] pos) (tRw X.mg m sp ta) := pe_any fun r => pe_mt0 (pl := pl) (M r) hr hk he ht
theorem go_rw {m : Str} {sp : Tr → Sp} (r : Tr) (q : te σ H fun x H1 => ∃ a dx fs, x = .ref a ∧ H1 a = some (.ins (CA mg r.cls) dx fs) ∧ fs.lookup m = none ∧ tNil σ H1 fun vs H2 => sp r (x :: (vs ++ [])) H2 Q C8.E0) : tRw mg m sp te σ H Q := ⟨r, q⟩
theorem at_words {r : Tr} {W : Addr → Prop} (h : ObjV W K H mg v r) (q : ∀ t H', Same H H' → TupV (fun a => H a = none) K H' t r → Q (.ref t) H') : ∃ a dx fs, v = .ref a ∧ H a = some (.ins (CA mg r.cls) dx fs) ∧ fs.lookup (Str.ofString "words") = none ∧ tNil σ H fun vs H2 => spWords K mg r (v :: (vs ++ [])) H2 Q E := by
  obtain ⟨o, dx, t, rfl, ho, ht⟩ := h
  exact ⟨o, dx, _, rfl, ho, rfl, _, W, rfl, ⟨o, dx, t, rfl, ho, ht⟩, q⟩
theorem at_asked {r : Tr} {W : Addr → Prop} (h : ObjV W K H mg v r) (q : ∀ p, H p = none → ∀ H', Same H H' → H' p = some (.lst (r.asked.map V.str)) → Q (.ref p) H') : ∃ a dx fs, v = .ref a ∧ H a = some (.ins (CA mg r.cls) dx fs) ∧ fs.lookup (Str.ofString "asked") = none ∧ tNil σ H fun vs H2 => spAsked K mg r (v :: (vs ++ [])) H2 Q E := by
  obtain ⟨o, dx, t, rfl, ho, ht⟩ := h
  exact ⟨o, dx, _, rfl, ho, rfl, _, W, rfl, ⟨o, dx, t, rfl, ho, ht⟩, q⟩
theorem at_wants {r : Tr} {W : Addr → Prop} (h : ObjV W K H mg v r) (q : Q (.str r.wants) H) : ∃ a dx fs, v = .ref a ∧ H a = some (.ins (CA mg r.cls) dx fs) ∧ fs.lookup (Str.ofString "wants") = none ∧ tNil σ H fun vs H2 => spWants K mg r (v :: (vs ++ [])) H2 Q E := by
  obtain ⟨o, dx, t, rfl, ho, ht⟩ := h
  exact ⟨o, dx, _, rfl, ho, rfl, _, W, rfl, ⟨o, dx, t, rfl, ho, ht⟩, q⟩
theorem at_goes {r : Tr} {W : Addr → Prop} (h : ObjV W K H mg v r) (q : Q (.bl r.goes) H) : ∃ a dx fs, v = .ref a ∧ H a = some (.ins (CA mg r.cls) dx fs) ∧ fs.lookup (Str.ofString "goes_on") = none ∧ tNil σ H fun vs H2 => spGoes K mg r (v :: (vs ++ [])) H2 Q E := by
  obtain ⟨o, dx, t, rfl, ho, ht⟩ := h
  exact ⟨o, dx, _, rfl, ho, rfl, _, W, rfl, ⟨o, dx, t, rfl, ho, ht⟩, q⟩
theorem go_iTup {R : It → Hp → Prop} (q : te σ H fun x H1 => ∃ a, x = .ref a ∧ (∃ xs, SqT K H1 a xs) ∧ R (Itt K a) H1) : iTup K te σ H R := q
theorem go_tk {R : It → Hp → Prop} (h : SqT K H a xs) (q : R (Itt K a) H) : ∃ b, V.ref a = .ref b ∧ (∃ xs, SqT K H b xs) ∧ R (Itt K b) H := ⟨a, rfl, ⟨xs, h⟩, q⟩
end
section
variable {K : PySem.W.Frag} {g : TG} {te : TE} {vs : List Nat} {σ : L2.St} {H1 : Hp} {D : Addr} {Qd : Hp → Prop} {a : Addr} {xs : List V}
theorem all_trues {acc : List V} : ∀ {ps : List V}, Paired (fun y (_ : V) => y = V.bl true) acc ps → acc = (ps.map fun _ => true).map V.bl := fun h => by
  rw [List.map_map]
  exact paired_eq h
theorem lc_allT (hx : SqT K H1 a xs) (hz : xs.length ≤ 100000) (hD : H1 D = none)
    (hs : ∀ (i : Nat) x H, xs[i]? = some x → Same H1 H → ∀ (NY : VK), (∀ H4, Same H H4 → NY (.bl true) H4) → g x (wipe σ vs) H fun σ2 H2 => wipe σ2 vs = wipe σ vs ∧ te σ2 H2 NY)
    (hd : ∀ H (bs : List Bool), Same H1 H → H D = some (.lst (bs.map V.bl)) → bs.all id = true → Qd H) :
    ∃ W : Nat → Nat → Hp → Prop, (∃ m, W 0 m (upd H1 D (.lst []))) ∧ ∀ i m H, W i m H →
      ((Itt K a).stop i H ∧ Qd H) ∨ ((Itt K a).go i H ∧ ∃ Nx : Hp → Prop, (∀ H', Nx H' → ∃ m', m' < m ∧ W (i + 1) m' H') ∧ ∀ x H', (Itt K a).yld i H x H' → g x (wipe σ vs) H' fun σ2 H2 => wipe σ2 vs = wipe σ vs ∧ tYes σ2 H2 fun b H3 =>
        if b = true then te σ2 H3 fun y H4 => ∃ acc, H4 D = some (.lst acc) ∧ acc.length < sizeLine ∧ Nx (upd H4 D (.lst (acc ++ [y]))) else Nx H3) := by
  refine lc_gen (Itt K a) xs (fun _ => true) (fun y _ _ => y = .bl true) (fun _ _ _ _ _ _ _ r => r) hz hD (fun i H h s => ⟨xs, xs[i], s.tup hx, by simp [h]⟩) (fun H s => ⟨xs, s.tup hx, Nat.le_refl _⟩) ?_ ?_
  · intro i x p H H' hp s y NY NN ny nn
    obtain ⟨e0, y⟩ := y
    subst e0
    have e := y xs (s.tup hx)
    rw [e] at hp
    cases hp
    exact hs i x _ e s NY fun H4 s4 => ny _ _ rfl s4 rfl
  · intro H acc s ha hp
    have e := all_trues hp
    rw [List.filter_eq_self.mpr (fun _ _ => rfl)] at e
    rw [e] at ha
    exact hd H _ s ha (by simp)
theorem lc_allL (hx : SqL K H1 a xs) (hz : xs.length ≤ 100000) (hD : H1 D = none)
    (hs : ∀ (i : Nat) x H, xs[i]? = some x → Same H1 H → ∀ (NY : VK), (∀ H4, Same H H4 → NY (.bl true) H4) → g x (wipe σ vs) H fun σ2 H2 => wipe σ2 vs = wipe σ vs ∧ te σ2 H2 NY)
    (hd : ∀ H (bs : List Bool), Same H1 H → H D = some (.lst (bs.map V.bl)) → bs.all id = true → Qd H) :
    ∃ W : Nat → Nat → Hp → Prop, (∃ m, W 0 m (upd H1 D (.lst []))) ∧ ∀ i m H, W i m H →
      ((Itl K a).stop i H ∧ Qd H) ∨ ((Itl K a).go i H ∧ ∃ Nx : Hp → Prop, (∀ H', Nx H' → ∃ m', m' < m ∧ W (i + 1) m' H') ∧ ∀ x H', (Itl K a).yld i H x H' → g x (wipe σ vs) H' fun σ2 H2 => wipe σ2 vs = wipe σ vs ∧ tYes σ2 H2 fun b H3 =>
        if b = true then te σ2 H3 fun y H4 => ∃ acc, H4 D = some (.lst acc) ∧ acc.length < sizeLine ∧ Nx (upd H4 D (.lst (acc ++ [y]))) else Nx H3) := by
  refine lc_genL xs (fun _ => true) (fun y _ _ => y = .bl true) (fun _ _ _ _ _ _ _ r => r) hx rfl hz hD ?_ ?_
  · intro i x p H hx1 hp s _ NY NN ny nn
    exact hs i x _ hx1 s NY fun H4 s4 => ny _ _ rfl s4 rfl
  · intro H acc s ha hp
    have e := all_trues hp
    rw [List.filter_eq_self.mpr (fun _ _ => rfl)] at e
    rw [e] at ha
    exact hd H _ s ha (by simp)
end
end Fj
local macro_rules | `(tactic| walk_at "hb") => `(tactic| first | rfl | (simp only [decide_eq_true_eq, decide_eq_false_iff_not, Bool.not_eq_true', Bool.not_eq_false', Bool.not_eq_true, Bool.not_eq_false]; omega) | decide +kernel)
local macro_rules | `(tactic| walk_at "h1") => `(tactic| first
  | ((with_reducible refine' Fj.go_var ?h ?_); (case h => exact rfl))
  | with_reducible refine Fj.go_c ?_
  | with_reducible refine Fj.go_op ?_
  | with_reducible refine Fj.go_un ?_
  | with_reducible refine Fj.go_I0 ?_
  | with_reducible refine Fj.go_U ?_
  | with_reducible refine Fj.go_eqS ?_
  | with_reducible refine Fj.go_eqI ?_
  | with_reducible refine Fj.go_neS ?_
  | with_reducible refine Fj.go_neI ?_
  | with_reducible refine Fj.go_test ?_
  | with_reducible refine Fj.go_B ?_
  | with_reducible refine Fj.go_and ?_
  | with_reducible refine Fj.go_or ?_
  | with_reducible refine Fj.go_not ?_
  | with_reducible refine Fj.go_andV ?_
  | with_reducible refine Fj.go_orV ?_
  | with_reducible refine Fj.go_notV ?_
  | with_reducible refine Fj.go_chain ?_
  | with_reducible refine Fj.go_tup ?_
  | with_reducible refine Fj.go_lst ?_
  | with_reducible refine Fj.go_nil ?_
  | with_reducible refine Fj.go_cons ?_
  | with_reducible refine Fj.go_CB ?_
  | with_reducible refine Fj.go_call ?_
  | with_reducible refine Fj.go_sl ?_
  | with_reducible refine Fj.go_part ?_
  | with_reducible refine Fj.go_nopart ?_
  | with_reducible refine Fj.go_bm ?_
  | with_reducible refine Fj.go_bm0 ?_
  | with_reducible refine Fj.go_seq ?_
  | with_reducible refine Fj.go_if ?_
  | with_reducible refine Fj.go_asg ?_
  | with_reducible refine Fj.go_asgG ?_
  | with_reducible refine Fj.go_ret ?_
  | with_reducible refine Fj.go_drop ?_
  | with_reducible refine Fj.go_next ?_
  | with_reducible refine Fj.go_nxMk ?_
  | with_reducible refine Fj.go_rtMk ?_
  | with_reducible refine Fj.go_ctMk ?_
  | with_reducible refine Fj.go_dget ?_
  | with_reducible refine Fj.go_din ?_
  | with_reducible refine Fj.go_dnotin ?_
  | with_reducible refine Fj.go_dput ?_
  | with_reducible refine Fj.go_dnew ?_
  | with_reducible refine Fj.go_for ?_
  | with_reducible refine Fj.go_inSign ?_
  | with_reducible refine Fj.go_notNon ?_
  | with_reducible refine Fj.go_lc ?_
  | with_reducible refine Fj.go_iList ?_
  | with_reducible refine Fj.go_iStr ?_
  | with_reducible refine Fj.go_iEnum ?_
  | with_reducible refine Fj.go_st ?_
  | with_reducible refine Fj.go_yes ?_
  | with_reducible refine Fj.go_name ?_
  | with_reducible refine Fj.go_gCons ?_
  | with_reducible refine Fj.go_gNil ?_
  | ((with_reducible refine' Fj.go_aug ?h ?_); (case h => exact rfl))
  | with_reducible refine Fj.go_ip ?_
  | ((with_reducible refine' Fj.go_gTup ?h ?h2 ?_); (case h => first | assumption | exact L2.SqT.of (by assumption)); (case h2 => rfl))
  | ((with_reducible refine' Fj.go_len ?h ?_); (case h => first | exact .inl (by assumption) | exact .inr (by assumption)))
  | ((with_reducible refine' Fj.go_lk ?h ?_); (case h => assumption))
  | ((with_reducible refine' Fj.go_ek ?h ?_); (case h => assumption))
  | ((with_reducible refine Fj.go_lenT ?h ?_); (case h => omega))
  | ((with_reducible refine' Fj.go_ixT ?h ?h2 ?_); (case h => first | assumption | exact L2.SqT.of (by assumption)); (case h2 => rfl))
  | ((with_reducible refine' Fj.go_box ?h ?_); (case h => assumption))
  | ((with_reducible refine' Fj.go_plain ?h ?_); (case h => assumption))
  | with_reducible refine Fj.go_isiSS ?_
  | with_reducible refine Fj.go_isiII ?_
  | with_reducible refine Fj.go_isiIB ?_
  | with_reducible refine Fj.go_isiBB ?_
  | ((with_reducible refine' Fj.go_isiTT ?h ?_); (case h => first | assumption | exact L2.SqT.of (by assumption)))
  | ((with_reducible refine' Fj.go_isiLL ?h ?_); (case h => first | assumption | exact .of (by assumption)))
  | with_reducible refine Fj.go_mkr ?_
  | with_reducible refine Fj.go_iTup ?_
  | ((with_reducible refine' Fj.go_tk ?h ?_); (case h => assumption))
  | (refine' ⟨_, rfl, ⟨_, ?h⟩, ?_⟩; (case h => first | assumption | exact .of (by assumption)))
  | with_reducible refine Fj.go_rng1 ?_
  | with_reducible refine Fj.go_bl ?_
  | with_reducible refine Fj.go_in ?_
  | (refine Fj.if_yes ?h ?_; (case h => walk_at "hb"))
  | (refine Fj.if_no ?h ?_; (case h => walk_at "hb")))
local macro_rules | `(tactic| walk_at "h") => `(tactic| repeat (walk_at "h1"))
set_option maxHeartbeats 4000000
/-! row_of and its helpers -/
namespace Fj
open PySem PySem.Spec PyProof.Rows L2
open C8 (Met Mak InsC pe_mt0 pe_mk)
section
variable {P : Program} {w : World} {K : PySem.W.Frag} {mg : Str → Option Value} {base : Heap}
def spRow (K : PySem.W.Frag) (mg : Str → Option Value) (f : Tr → Bool) : Sp := fun vs H Q _ => ∃ (t : Addr) (r : Tr), vs = [.ref t] ∧ TupV All K H t r ∧ r.ok ∧ f r = true ∧ ∀ v H', Same H H' → ObjV (fun a => H a = none) K H' mg v r → Q v H'
def inWB : Tr → Bool
  | .add _ _ => true | .take _ _ => true | .say _ => true | .ask _ => true | .back => true | .stop => true | _ => false
def inWA : Tr → Bool
  | .jump _ => true | .jumpif _ _ => true | .call _ => true | .load _ _ _ => true | .jumpby _ _ => true | _ => false
abbrev swith_boxes : Stmt := top 41
abbrev Nwith_boxes : List Str := ["told"]
theorem scwith_boxes : FnScope Nwith_boxes ["told"] (defScope swith_boxes) := ⟨rfl, rfl, rfl, by decide +kernel, rfl, by decide +kernel, by decide +kernel⟩
theorem ok_with_boxes (F : FnAt K mg "with_boxes" swith_boxes ["told"]) (T : Txt K mg) (TC : Clss K mg) (G_is_box : Cal P w K mg base CX0 1 "is_box" ["thing"] spIsBox) : Cal P w K mg base CX0 3 "with_boxes" ["told"] (spRow K mg inWB) := by
  refine cal_mk F scwith_boxes (fun vs H Q E h => ?_) (fun f cdv A outer s H vs Q E hr h => ?_)
  · obtain ⟨t, r, rfl, _⟩ := h
    rfl
  · obtain ⟨t, r, rfl, ht, hk, hf, q⟩ := h
    have nd := scwith_boxes.nd
    refine ⟨_, (pss_cons (ps_if (PW.pt (pw_and (pt_cmpR op_eq (pe_callB (lenK (K := K) rfl) (by rfl) T.n_len (by decide +kernel) (pa_cons (pv 0) pa_nil)) pe_int (nomark _)) (pw_and (pt_val (pe_cal G_is_box hr (by decide) rfl pass0 (pa_cons (pe_ix (ixtK (K := K) rfl) (pv 0) pe_int (fun _ _ => rfl)) pa_nil))) (pw_and1 (pt_val (pe_cal G_is_box hr (by decide) rfl pass0 (pa_cons (pe_ix (ixtK (K := K) rfl) (pv 0) pe_int (fun _ _ => rfl)) pa_nil))))))) (pss_cons (ps_if (pt_cmpR op_eq (pe_ix (ixtK (K := K) rfl) (pv 0) pe_int (fun _ _ => rfl)) pe_str (nomark _)) (pss_one (ps_ret (pe_mk (M_AddRow TC) hr (by decide) rfl (pa_cons (pv 0) pa_nil)))) pss_nil)
      (pss_one (ps_if (pt_cmpR op_eq (pe_ix (ixtK (K := K) rfl) (pv 0) pe_int (fun _ _ => rfl)) pe_str (nomark _)) (pss_one (ps_ret (pe_mk (M_TakeRow TC) hr (by decide) rfl (pa_cons (pv 0) pa_nil)))) pss_nil))) pss_nil)
      (pss_cons (ps_if (PW.pt (pw_and (pt_cmpR op_eq (pe_callB (lenK (K := K) rfl) (by rfl) T.n_len (by decide +kernel) (pa_cons (pv 0) pa_nil)) pe_int (nomark _)) (pw_and1 (pt_val (pe_cal G_is_box hr (by decide) rfl pass0 (pa_cons (pe_ix (ixtK (K := K) rfl) (pv 0) pe_int (fun _ _ => rfl)) pa_nil)))))) (pss_cons (ps_if (pt_cmpR op_eq (pe_ix (ixtK (K := K) rfl) (pv 0) pe_int (fun _ _ => rfl)) pe_str (nomark _)) (pss_one (ps_ret (pe_mk (M_SayRow TC) hr (by decide) rfl (pa_cons (pv 0) pa_nil)))) pss_nil)
      (pss_one (ps_if (pt_cmpR op_eq (pe_ix (ixtK (K := K) rfl) (pv 0) pe_int (fun _ _ => rfl)) pe_str (nomark _)) (pss_one (ps_ret (pe_mk (M_AskRow TC) hr (by decide) rfl (pa_cons (pv 0) pa_nil)))) pss_nil))) pss_nil)
      (pss_cons (ps_if (pt_cmpR (eqdK (K := K) rfl hr.units) (pv 0) (pe_tup (pa_cons pe_str pa_nil)) (nomark _)) (pss_one (ps_ret (pe_mk (M_BackRow TC) hr (by decide) rfl (pa_cons (pv 0) pa_nil)))) pss_nil)
      (pss_cons (ps_if (pt_cmpR (eqdK (K := K) rfl hr.units) (pv 0) (pe_tup (pa_cons pe_str pa_nil)) (nomark _)) (pss_one (ps_ret (pe_mk (M_StopRow TC) hr (by decide) rfl (pa_cons (pv 0) pa_nil)))) pss_nil)
      (pss_one (ps_ret pe_non)))))), ?_⟩
    have ht0 := ht
    cases r <;> (try (cases hf; done)) <;> dsimp only [TupV, Tr.items, Tr.vs, Tr.kind, Tr.flat, Tr.ok] at ht hk
    case add => 
      obtain ⟨h1, h2⟩ := hk
      walk_at "h"
      exact mk_obj (TupV.any rfl ht0) q
    case take => 
      obtain ⟨h1, h2⟩ := hk
      walk_at "h"
      exact mk_obj (TupV.any rfl ht0) q
    case say => 
      walk_at "h"
      exact mk_obj (TupV.any rfl ht0) q
    case ask => 
      walk_at "h"
      exact mk_obj (TupV.any rfl ht0) q
    case back => 
      walk_at "h"
      refine ⟨sz_of (by simp), fun p hp => ?_⟩
      have s1 : Same H (upd H p (.tup [.str "back"])) := Same.new hp
      have ht1 := s1.tup ht
      refine go_eqD (W := All) (W' := All) (d := .tuple [.str "back"]) (e := .tuple [.str "back"]) (.tup ht1 (.cons (.str _) .nil)) (.tup (.of upd_same) (.cons (.str _) .nil)) (by decide +kernel) (by decide +kernel) ?_
      walk_at "h"
      exact mk_obj (r := .back) (TupV.any rfl (ht0.keep (.same s1 fun _ z => z))) fun v H' s => q v H' (s1.trans s)
    case stop => 
      walk_at "h"
      refine ⟨sz_of (by simp), fun p hp => ?_⟩
      have s1 : Same H (upd H p (.tup [.str "back"])) := Same.new hp
      have ht1 := s1.tup ht
      refine go_eqD (W := All) (W' := All) (d := .tuple [.str "stop"]) (e := .tuple [.str "back"]) (.tup ht1 (.cons (.str _) .nil)) (.tup (.of upd_same) (.cons (.str _) .nil)) (by decide +kernel) (by decide +kernel) ?_
      walk_at "h"
      refine ⟨sz_of (by simp), fun p2 hp2 => ?_⟩
      have s2 := s1.trans (Same.new (o := .tup [.str "stop"]) hp2)
      have ht2 := s2.tup ht
      refine go_eqD (W := All) (W' := All) (d := .tuple [.str "stop"]) (e := .tuple [.str "stop"]) (.tup ht2 (.cons (.str _) .nil)) (.tup (.of upd_same) (.cons (.str _) .nil)) (by decide +kernel) (by decide +kernel) ?_
      walk_at "h"
      exact mk_obj (r := .stop) (TupV.any rfl (ht0.keep (.same s2 fun _ z => z))) fun v H' s => q v H' (s2.trans s)
abbrev swith_aim : Stmt := top 42
abbrev Nwith_aim : List Str := ["told", "part"]
theorem scwith_aim : FnScope Nwith_aim ["told"] (defScope swith_aim) := ⟨rfl, rfl, rfl, by decide +kernel, rfl, by decide +kernel, by decide +kernel⟩
theorem ok_with_aim (F : FnAt K mg "with_aim" swith_aim ["told"]) (T : Txt K mg) (TC : Clss K mg) (G_is_box : Cal P w K mg base CX0 1 "is_box" ["thing"] spIsBox) (G_is_word : Cal P w K mg base CX0 1 "is_word" ["thing"] spIsWord) : Cal P w K mg base CX0 3 "with_aim" ["told"] (spRow K mg inWA) := by
  refine cal_mk F scwith_aim (fun vs H Q E h => ?_) (fun f cdv A outer s H vs Q E hr h => ?_)
  · obtain ⟨t, r, rfl, _⟩ := h
    rfl
  · obtain ⟨t, r, rfl, ht, hk, hf, q⟩ := h
    have nd := scwith_aim.nd
    refine ⟨_, (pss_cons (ps_if (PW.pt (pw_or (pt_not (pt_val (pe_cal G_is_word hr (by decide) rfl pass0 (pa_cons (pe_ix (ixtK (K := K) rfl) (pv 0) (pe_un un_neg pe_int) (fun _ _ => rfl)) pa_nil)))) (pw_or1 (pt_not (pt_val (pe_callB (allK (K := K) rfl rfl) (by rfl) T.n_all (by decide +kernel) (pa_cons (pe_lc (own := [("part", 1)]) (g := gName 1) (tt := tYes) (by rfl) nd (pi_tup (pe_slice (sltK (K := K) rfl) (pv 0) (po_some pe_int) (po_some (pe_un un_neg pe_int)))) (blkOk_by (N := Nwith_aim) (sc := (defScope swith_aim)) (by decide +kernel)) (fun _ _ _ _ _ => (pg_name (i := 1) nd rfl (Or.inl rfl))) (fun _ _ _ _ _ => pts_nil) (fun _ _ _ _ _ => (pe_cal G_is_box hr (by decide) rfl pass0 (pa_cons (pv 1) pa_nil)))) pa_nil))))))) (pss_one (ps_ret pe_non)) pss_nil)
      (pss_cons (ps_if (PW.pt (pw_and (pt_cmpR op_eq (pe_ix (ixtK (K := K) rfl) (pv 0) pe_int (fun _ _ => rfl)) pe_str (nomark _)) (pw_and1 (pt_cmpR op_eq (pe_callB (lenK (K := K) rfl) (by rfl) T.n_len (by decide +kernel) (pa_cons (pv 0) pa_nil)) pe_int (nomark _))))) (pss_one (ps_ret (pe_mk (M_JumpRow TC) hr (by decide) rfl (pa_cons (pv 0) pa_nil)))) pss_nil)
      (pss_cons (ps_if (PW.pt (pw_and (pt_cmpR op_eq (pe_ix (ixtK (K := K) rfl) (pv 0) pe_int (fun _ _ => rfl)) pe_str (nomark _)) (pw_and1 (pt_cmpR op_eq (pe_callB (lenK (K := K) rfl) (by rfl) T.n_len (by decide +kernel) (pa_cons (pv 0) pa_nil)) pe_int (nomark _))))) (pss_one (ps_ret (pe_mk (M_CallRow TC) hr (by decide) rfl (pa_cons (pv 0) pa_nil)))) pss_nil)
      (pss_cons (ps_if (PW.pt (pw_and (pt_cmpR op_eq (pe_ix (ixtK (K := K) rfl) (pv 0) pe_int (fun _ _ => rfl)) pe_str (nomark _)) (pw_and1 (pt_cmpR op_eq (pe_callB (lenK (K := K) rfl) (by rfl) T.n_len (by decide +kernel) (pa_cons (pv 0) pa_nil)) pe_int (nomark _))))) (pss_one (ps_ret (pe_mk (M_JumpIfRow TC) hr (by decide) rfl (pa_cons (pv 0) pa_nil)))) pss_nil)
      (pss_cons (ps_if (PW.pt (pw_and (pt_cmpR op_eq (pe_ix (ixtK (K := K) rfl) (pv 0) pe_int (fun _ _ => rfl)) pe_str (nomark _)) (pw_and1 (pt_cmpR op_eq (pe_callB (lenK (K := K) rfl) (by rfl) T.n_len (by decide +kernel) (pa_cons (pv 0) pa_nil)) pe_int (nomark _))))) (pss_one (ps_ret (pe_mk (M_JumpByRow TC) hr (by decide) rfl (pa_cons (pv 0) pa_nil)))) pss_nil)
      (pss_cons (ps_if (PW.pt (pw_and (pt_cmpR op_eq (pe_ix (ixtK (K := K) rfl) (pv 0) pe_int (fun _ _ => rfl)) pe_str (nomark _)) (pw_and1 (pt_cmpR op_eq (pe_callB (lenK (K := K) rfl) (by rfl) T.n_len (by decide +kernel) (pa_cons (pv 0) pa_nil)) pe_int (nomark _))))) (pss_one (ps_ret (pe_mk (M_LoadRow TC) hr (by decide) rfl (pa_cons (pv 0) pa_nil)))) pss_nil)
      (pss_one (ps_ret pe_non)))))))), ?_⟩
    obtain ⟨z, hz, hl, bs, hb, ea⟩ : ∃ z, IsW z ∧ atI r.vs (-1) = some (.str z) ∧ ∃ bs : List Int, (∀ b ∈ bs, Tr.Box b) ∧ cutV r.vs (some 1) (some (-1)) = bs.map V.int := by
      cases r <;> (try (cases hf; done))
      case jump z => exact ⟨z, hk, rfl, [], fun _ m => (nomatch m), rfl⟩
      case jumpif b z => exact ⟨z, hk.2, rfl, [b], fun x m => by rw [List.mem_singleton.mp m]; exact hk.1, rfl⟩
      case call z => exact ⟨z, hk, rfl, [], fun _ m => (nomatch m), rfl⟩
      case load b c z => exact ⟨z, hk.2.2, rfl, [b, c], fun x m => by rcases List.mem_cons.mp m with rfl | m; exact hk.1; rw [List.mem_singleton.mp m]; exact hk.2.1, rfl⟩
      case jumpby b z => exact ⟨z, hk.2, rfl, [b], fun x m => by rw [List.mem_singleton.mp m]; exact hk.1, rfl⟩
    have hi : r.items = none := by cases r <;> (try (cases hf; done)) <;> rfl
    have ht0 := ht
    have hlen : 2 ≤ r.vs.length ∧ r.vs.length ≤ 4 := by cases r <;> (try (cases hf; done)) <;> exact ⟨by simp [Tr.vs, Tr.flat], by simp [Tr.vs, Tr.flat]⟩
    unfold TupV at ht
    rw [hi] at ht
    walk_at "h"
    refine go_ixT ht hl ?_
    walk_at "h"
    refine go_word hz fun H1 s1 => ?_
    walk_at "h"
    have ht1 := s1.tup ht
    refine ⟨t, r.vs, rfl, ht1, ?_, fun p hp => ?_⟩
    · cases r <;> (try (cases hf; done)) <;> first | (show ¬ (HT.sIx 2 0 (some 1) = 0 ∧ HT.sIx 2 2 (some (-1)) = 2); decide +kernel) | (show ¬ (HT.sIx 3 0 (some 1) = 0 ∧ HT.sIx 3 3 (some (-1)) = 3); decide +kernel) | (show ¬ (HT.sIx 4 0 (some 1) = 0 ∧ HT.sIx 4 4 (some (-1)) = 4); decide +kernel)
    rw [ea]
    have s2 : Same H1 (upd H1 p (.tup (bs.map V.int))) := Same.new hp
    refine ⟨p, rfl, ⟨_, .of upd_same⟩, ?_⟩
    intro D hD
    have hbl : bs.length ≤ 4 := by
      have e := congrArg List.length ea
      rw [List.length_map] at e
      have := cutV_length r.vs (some 1) (some (-1))
      omega
    refine lc_allT (xs := bs.map V.int) (.of upd_same) (by rw [List.length_map]; omega) hD ?_ ?_
    · intro i x H2 hx s3 NY ny
      rw [List.getElem?_map] at hx
      obtain ⟨b, hb1, rfl⟩ := Option.map_eq_some_iff.mp hx
      have hbb := hb b (List.mem_of_getElem? hb1)
      walk_at "h"
      refine ⟨rfl, ?_⟩
      walk_at "h"
      exact ny _ (Same.refl _)
    · intro H2 acc s3 hacc hall
      walk_at "h"
      refine go_all (SqL.of hacc) ?_
      rw [hall]
      walk_at "h"
      have s4 := s1.trans (s2.trans s3)
      have ht2 := s4.tup ht
      have q2 : ∀ v H', Same H2 H' → ObjV (fun a => H a = none) K H' mg v r → Q v H' := fun v H' s => q v H' (s4.trans s)
      have ht3 : TupV All K H2 t r := ht0.keep (.same s4 fun _ _ => trivial)
      clear ht q hl ea hr
      cases r <;> (try (cases hf; done)) <;> dsimp only [Tr.items, Tr.vs, Tr.kind, Tr.flat, Tr.ok] at ht2 hk
      case jump => 
        walk_at "h"
        exact mk_obj (TupV.any rfl ht3) q2
      case jumpif => 
        walk_at "h"
        exact mk_obj (TupV.any rfl ht3) q2
      case call => 
        walk_at "h"
        exact mk_obj (TupV.any rfl ht3) q2
      case load => 
        walk_at "h"
        exact mk_obj (TupV.any rfl ht3) q2
      case jumpby => 
        walk_at "h"
        exact mk_obj (TupV.any rfl ht3) q2
end
end Fj
set_option maxHeartbeats 4000000
/-! with_list, row_of -/
namespace Fj
open PySem PySem.Spec PyProof.Rows L2
open C8 (Met Mak InsC pe_mt0 pe_mk)
section
variable {P : Program} {w : World} {K : PySem.W.Frag} {mg : Str → Option Value} {base : Heap}
abbrev swith_list : Stmt := top 43
abbrev Nwith_list : List Str := ["told", "number", "name"]
theorem scwith_list : FnScope Nwith_list ["told"] (defScope swith_list) := ⟨rfl, rfl, rfl, by decide +kernel, rfl, by decide +kernel, by decide +kernel⟩
theorem ok_with_list (F : FnAt K mg "with_list" swith_list ["told"]) (T : Txt K mg) (TC : Clss K mg) (G_is_plain : Cal P w K mg base CX0 1 "is_plain" ["thing"] spIsPlain) (G_is_word : Cal P w K mg base CX0 1 "is_word" ["thing"] spIsWord) : Cal P w K mg base CX0 3 "with_list" ["told"] (spRow K mg Tr.isData) := by
  refine cal_mk F scwith_list (fun vs H Q E h => ?_) (fun f cdv A outer s H vs Q E hr h => ?_)
  · obtain ⟨t, r, rfl, _⟩ := h
    rfl
  · obtain ⟨t, r, rfl, ht, hk, hf, q⟩ := h
    have nd := scwith_list.nd
    refine ⟨_, (pss_cons (ps_if (PW.pt (pw_or (pt_cmpR op_ne (pe_callB (lenK (K := K) rfl) (by rfl) T.n_len (by decide +kernel) (pa_cons (pv 0) pa_nil)) pe_int (nomark _)) (pw_or (pt_not (pt_val (pe_callB (isiK (K := K) rfl) (by rfl) T.n_isinstance (by decide +kernel) (pa_cons (pe_ix (ixtK (K := K) rfl) (pv 0) pe_int (fun _ _ => rfl)) (pa_cons (pe_bltn (v := .ty "list") (by rfl) T.n_list (by decide +kernel) rfl) pa_nil))))) (pw_or1 (pt_not (pt_chain op_le op_le pe_int (pe_callB (lenK (K := K) rfl) (by rfl) T.n_len (by decide +kernel) (pa_cons (pe_ix (ixtK (K := K) rfl) (pv 0) pe_int (fun _ _ => rfl)) pa_nil)) (pe_gc rfl T.c_MOST_DATA))))))) (pss_one (ps_ret pe_non)) pss_nil)
      (pss_cons (ps_if (PW.pt (pw_and (pt_cmpR op_eq (pe_ix (ixtK (K := K) rfl) (pv 0) pe_int (fun _ _ => rfl)) pe_str (nomark _)) (pw_and1 (pt_val (pe_callB (allK (K := K) rfl rfl) (by rfl) T.n_all (by decide +kernel) (pa_cons (pe_lc (own := [("number", 1)]) (g := gName 1) (tt := tYes) (by rfl) nd (pi_list (pe_ix (ixtK (K := K) rfl) (pv 0) pe_int (fun _ _ => rfl))) (blkOk_by (N := Nwith_list) (sc := (defScope swith_list)) (by decide +kernel)) (fun _ _ _ _ _ => (pg_name (i := 1) nd rfl (Or.inl rfl))) (fun _ _ _ _ _ => pts_nil) (fun _ _ _ _ _ => (pe_cal G_is_plain hr (by decide) rfl pass0 (pa_cons (pv 1) pa_nil)))) pa_nil)))))) (pss_one (ps_ret (pe_mk (M_NumbersRow TC) hr (by decide) rfl (pa_cons (pe_tup (pa_cons (pe_ix (ixtK (K := K) rfl) (pv 0) pe_int (fun _ _ => rfl)) (pa_cons (pe_callTy (listK (K := K) rfl) (by rfl) T.n_list (by decide +kernel) (pa_cons (pe_ix (ixtK (K := K) rfl) (pv 0) pe_int (fun _ _ => rfl)) pa_nil)) pa_nil))) pa_nil)))) pss_nil)
      (pss_cons (ps_if (PW.pt (pw_and (pt_cmpR op_eq (pe_ix (ixtK (K := K) rfl) (pv 0) pe_int (fun _ _ => rfl)) pe_str (nomark _)) (pw_and1 (pt_val (pe_callB (allK (K := K) rfl rfl) (by rfl) T.n_all (by decide +kernel) (pa_cons (pe_lc (own := [("name", 2)]) (g := gName 2) (tt := tYes) (by rfl) nd (pi_list (pe_ix (ixtK (K := K) rfl) (pv 0) pe_int (fun _ _ => rfl))) (blkOk_by (N := Nwith_list) (sc := (defScope swith_list)) (by decide +kernel)) (fun _ _ _ _ _ => (pg_name (i := 2) nd rfl (Or.inl rfl))) (fun _ _ _ _ _ => pts_nil) (fun _ _ _ _ _ => (pe_cal G_is_word hr (by decide) rfl pass0 (pa_cons (pv 2) pa_nil)))) pa_nil)))))) (pss_one (ps_ret (pe_mk (M_TableRow TC) hr (by decide) rfl (pa_cons (pe_tup (pa_cons (pe_ix (ixtK (K := K) rfl) (pv 0) pe_int (fun _ _ => rfl)) (pa_cons (pe_callTy (listK (K := K) rfl) (by rfl) T.n_list (by decide +kernel) (pa_cons (pe_ix (ixtK (K := K) rfl) (pv 0) pe_int (fun _ _ => rfl)) pa_nil)) pa_nil))) pa_nil)))) pss_nil)
      (pss_one (ps_ret pe_non))))), ?_⟩
    cases r <;> (try (cases hf; done))
    case numbers ns =>
      obtain ⟨l, ht, hl, _⟩ : ∃ l, SqT K H t [.str "numbers", .ref l] ∧ H l = some (.lst (ns.map V.int)) ∧ All l := ht
      obtain ⟨h1, h2, h3⟩ := hk
      have hll : SqL K H l (ns.map V.int) := .of hl
      have hz : (ns.map V.int).length ≤ 60 := by rw [List.length_map]; exact h2
      have hz1 : 1 ≤ (ns.map V.int).length := by rw [List.length_map]; exact h1
      walk_at "h"
      intro D hD
      refine lc_allL hll (by omega) hD ?_ ?_
      · intro i x H2 hx s3 NY ny
        rw [List.getElem?_map] at hx
        obtain ⟨b, hb1, rfl⟩ := Option.map_eq_some_iff.mp hx
        have hbb := h3 b (List.mem_of_getElem? hb1)
        walk_at "h"
        refine ⟨rfl, ?_⟩
        walk_at "h"
        exact ny _ (Same.refl _)
      · intro H2 acc s3 hacc hall
        walk_at "h"
        refine go_all (SqL.of hacc) ?_
        rw [hall]
        have ht2 := s3.tup ht
        have hl2 := s3.seq hll
        walk_at "h"
        refine go_list (.inl hl2) fun l' hl' => ?_
        walk_at "h"
        refine ⟨sz_of (by simp), fun p hp => ?_⟩
        have s4 := Same.new (o := .tup [V.str "numbers", .ref l']) hp
        have s5 := s3.trans ((Same.new (o := .lst (ns.map V.int)) hl').trans s4)
        exact mk_obj (r := .numbers ns) ⟨l', .of upd_same, s4 _ _ upd_same, same_none s3 hl'⟩ fun v H' s => q v H' (s5.trans s)
    case table ns =>
      obtain ⟨l, ht, hl, _⟩ : ∃ l, SqT K H t [.str "table", .ref l] ∧ H l = some (.lst (ns.map V.str)) ∧ All l := ht
      obtain ⟨h1, h2, h3⟩ := hk
      have hll : SqL K H l (ns.map V.str) := .of hl
      have hz : (ns.map V.str).length ≤ 60 := by rw [List.length_map]; exact h2
      have hz1 : 1 ≤ (ns.map V.str).length := by rw [List.length_map]; exact h1
      walk_at "h"
      intro D hD
      refine lc_allL hll (by omega) hD ?_ ?_
      · intro i x H2 hx s3 NY ny
        rw [List.getElem?_map] at hx
        obtain ⟨b, hb1, rfl⟩ := Option.map_eq_some_iff.mp hx
        have hbb := h3 b (List.mem_of_getElem? hb1)
        walk_at "h"
        refine ⟨rfl, ?_⟩
        walk_at "h"
        exact go_word hbb fun H4 s4 => ny _ s4
      · intro H2 acc s3 hacc hall
        walk_at "h"
        refine go_all (SqL.of hacc) ?_
        rw [hall]
        have ht2 := s3.tup ht
        have hl2 := s3.seq hll
        walk_at "h"
        refine go_list (.inl hl2) fun l' hl' => ?_
        walk_at "h"
        refine ⟨sz_of (by simp), fun p hp => ?_⟩
        have s4 := Same.new (o := .tup [V.str "table", .ref l']) hp
        have s5 := s3.trans ((Same.new (o := .lst (ns.map V.str)) hl').trans s4)
        exact mk_obj (r := .table ns) ⟨l', .of upd_same, s4 _ _ upd_same, same_none s3 hl'⟩ fun v H' s => q v H' (s5.trans s)
/-! shapes -/
theorem lay_all : ∀ {ds : List PyData}, (∀ d ∈ ds, d.canLay0 = true) → PyData.canLayAll0 ds = true
  | [], _ => rfl
  | d :: ds, h => by
    show (d.canLay0 && PyData.canLayAll0 ds) = true
    rw [h d List.mem_cons_self, lay_all fun x m => h x (List.mem_cons_of_mem _ m)]
    rfl
theorem dep_all {n : Nat} : ∀ {ds : List PyData}, (∀ d ∈ ds, d.depth ≤ n) → PyData.depthAll ds ≤ n
  | [], _ => Nat.zero_le _
  | d :: ds, h => by
    show max d.depth (PyData.depthAll ds) ≤ n
    exact Nat.max_le.mpr ⟨h d List.mem_cons_self, dep_all fun x m => h x (List.mem_cons_of_mem _ m)⟩
/-- may be laid, is no deeper than n -/
def Shp (n : Nat) (d : PyData) : Prop := d.canLay0 = true ∧ d.depth ≤ n
theorem Shp.mono {n m : Nat} {d : PyData} (h : Shp n d) (l : n ≤ m) : Shp m d := ⟨h.1, Nat.le_trans h.2 l⟩
theorem Shp.ok {n : Nat} {d : PyData} (h : Shp n d) (l : n ≤ 64) : SeqAt.shaped d = true := by
  unfold SeqAt.shaped
  rw [h.1, decide_eq_true (Nat.le_trans h.2 l)]
  rfl
theorem Shp.tup {n : Nat} {ds : List PyData} (h : ∀ d ∈ ds, Shp n d) : Shp (n + 1) (.tuple ds) := ⟨by rw [PyData.canLay0]; exact lay_all fun d m => (h d m).1, by rw [PyData.depth]; exact Nat.succ_le_succ (dep_all fun d m => (h d m).2)⟩
theorem Shp.lst {n : Nat} {ds : List PyData} (h : ∀ d ∈ ds, Shp n d) : Shp (n + 1) (.list ds) := ⟨by rw [PyData.canLay0]; exact lay_all fun d m => (h d m).1, by rw [PyData.depth]; exact Nat.succ_le_succ (dep_all fun d m => (h d m).2)⟩
theorem shp_str {z : Str} (h : PyData.strOk z = true) : Shp 0 (.str z) := ⟨by rw [PyData.canLay0]; exact h, Nat.le_refl _⟩
theorem shp_int (i : Int) : Shp 0 (.int i) := ⟨rfl, Nat.le_refl _⟩
theorem shp_bool (i : Bool) : Shp 0 (.bool i) := ⟨rfl, Nat.le_refl _⟩
theorem shp_non : Shp 0 .none := ⟨rfl, Nat.le_refl _⟩
theorem IsW.lay {z : Str} (h : IsW z) : PyData.strOk z = true := by
  unfold PyData.strOk
  rw [← Array.all_toList, List.all_eq_true]
  intro c m
  have hs : ∀ c ∈ small.cps.toList, c < 0x110000 := by decide +kernel
  exact decide_eq_true (hs c (h.sg c m))
theorem IsW.shp {z : Str} (h : IsW z) : Shp 0 (.str z) := shp_str h.lay
theorem Tr.kind_shp (r : Tr) : Shp 0 (.str r.kind) := by
  refine shp_str ?_
  cases r <;> (dsimp only [Tr.kind]; decide +kernel)
theorem Tr.shp {r : Tr} (h : r.ok) : Shp 2 r.d := by
  have hk := r.kind_shp
  cases r <;> dsimp only [Tr.ok] at h <;> dsimp only [Tr.d, Tr.items, Tr.vs, Tr.flat, List.map_cons, List.map_nil, Tr.vd]
  case numbers ns =>
    refine Shp.tup fun d m => ?_
    rcases List.mem_cons.mp m with rfl | m
    · exact hk.mono (by decide)
    · rw [List.mem_singleton.mp m]
      refine Shp.lst fun d m => ?_
      rw [List.map_map] at m
      obtain ⟨i, _, rfl⟩ := List.mem_map.mp m
      exact shp_int i
  case table ns =>
    refine Shp.tup fun d m => ?_
    rcases List.mem_cons.mp m with rfl | m
    · exact hk.mono (by decide)
    · rw [List.mem_singleton.mp m]
      refine Shp.lst fun d m => ?_
      rw [List.map_map] at m
      obtain ⟨i, hi, rfl⟩ := List.mem_map.mp m
      exact (h.2.2 i hi).shp
  all_goals
    refine Shp.mono (n := 1) ?_ (by decide)
    apply Shp.tup
    intro d m
    simp only [Tr.vs, Tr.flat, List.map_cons, List.map_nil, Tr.vd, List.mem_cons, List.not_mem_nil, or_false] at m
    rcases m with rfl | rfl | rfl | rfl <;> first | exact hk | exact shp_int _ | exact shp_bool _ | exact (show IsW _ from h).shp | exact h.1.shp | exact h.2.shp | exact h.2.1.shp | exact h.2.2.shp
theorem eq_nil_tup {ds : List PyData} (h : 1 ≤ ds.length) : PyData.eqv (.tuple ds) (.tuple []) = false := by
  cases ds with
  | nil => exact absurd h (by decide)
  | cons d ds => rw [PyData.eqv]; rfl
abbrev srow_of : Stmt := top 44
abbrev Nrow_of : List Str := ["thing"]
theorem scrow_of : FnScope Nrow_of ["thing"] (defScope srow_of) := ⟨rfl, rfl, rfl, by decide +kernel, rfl, by decide +kernel, by decide +kernel⟩
/-- what is asked in front: a tuple, not empty, with a text at its head -/
theorem Tr.d_tup (r : Tr) : ∃ d ds, r.d = .tuple (d :: ds) := by
  cases r <;> exact ⟨_, _, rfl⟩
theorem Tr.hd (r : Tr) {W : Addr → Prop} {H : Hp} {t : Addr} (h : TupV W K H t r) : ∃ xs, SqT K H t (.str r.kind :: xs) := by
  unfold TupV at h
  split at h
  · exact ⟨_, h⟩
  · obtain ⟨l, h, _⟩ := h
    exact ⟨_, h⟩
theorem ok_row_of (F : FnAt K mg "row_of" srow_of ["thing"]) (T : Txt K mg) (TC : Clss K mg) (G_is_box : Cal P w K mg base CX0 1 "is_box" ["thing"] spIsBox) (G_is_plain : Cal P w K mg base CX0 1 "is_plain" ["thing"] spIsPlain) (G_is_word : Cal P w K mg base CX0 1 "is_word" ["thing"] spIsWord)
    (G_with_boxes : Cal P w K mg base CX0 3 "with_boxes" ["told"] (spRow K mg inWB)) (G_with_aim : Cal P w K mg base CX0 3 "with_aim" ["told"] (spRow K mg inWA)) (G_with_list : Cal P w K mg base CX0 3 "with_list" ["told"] (spRow K mg Tr.isData)) : Cal P w K mg base CX0 4 "row_of" ["thing"] (spRow K mg fun _ => true) := by
  refine cal_mk F scrow_of (fun vs H Q E h => ?_) (fun f cdv A outer s H vs Q E hr h => ?_)
  · obtain ⟨t, r, rfl, _⟩ := h
    rfl
  · obtain ⟨t, r, rfl, ht0, hk, hf, q0⟩ := h
    clear hf
    have nd := scrow_of.nd
    refine ⟨_, (pss_cons (ps_if (PW.pt (pw_or (pt_not (pt_val (pe_callB (isiK (K := K) rfl) (by rfl) T.n_isinstance (by decide +kernel) (pa_cons (pv 0) (pa_cons (pe_bltn (v := .ty "tuple") (by rfl) T.n_tuple (by decide +kernel) rfl) pa_nil))))) (pw_or (pt_cmpR (eqdK (K := K) rfl hr.units) (pv 0) (pe_tup pa_nil) (nomark _)) (pw_or1 (pt_not (pt_val (pe_callB (isiK (K := K) rfl) (by rfl) T.n_isinstance (by decide +kernel) (pa_cons (pe_ix (ixtK (K := K) rfl) (pv 0) pe_int (fun _ _ => rfl)) (pa_cons (pe_bltn (v := .ty "str") (by rfl) T.n_str (by decide +kernel) rfl) pa_nil))))))))) (pss_one (ps_ret pe_non)) pss_nil)
      (pss_cons (ps_if (pt_cmpR op_eq (pe_ix (ixtK (K := K) rfl) (pv 0) pe_int (fun _ _ => rfl)) pe_str (nomark _)) (pss_cons (ps_if (PW.pt (pw_and (pt_cmpR op_eq (pe_callB (lenK (K := K) rfl) (by rfl) T.n_len (by decide +kernel) (pa_cons (pv 0) pa_nil)) pe_int (nomark _)) (pw_and (pt_val (pe_cal G_is_word hr (by decide) rfl pass0 (pa_cons (pe_ix (ixtK (K := K) rfl) (pv 0) pe_int (fun _ _ => rfl)) pa_nil))) (pw_and1 (pt_val (pe_callB (isiK (K := K) rfl) (by rfl) T.n_isinstance (by decide +kernel) (pa_cons (pe_ix (ixtK (K := K) rfl) (pv 0) pe_int (fun _ _ => rfl)) (pa_cons (pe_bltn (v := .ty "bool") (by rfl) T.n_bool (by decide +kernel) rfl) pa_nil)))))))) (pss_one (ps_ret (pe_mk (M_MarkRow TC) hr (by decide) rfl (pa_cons (pv 0) pa_nil)))) pss_nil)
      (pss_one (ps_ret pe_non))) pss_nil)
      (pss_cons (ps_if (pt_cmpR op_eq (pe_ix (ixtK (K := K) rfl) (pv 0) pe_int (fun _ _ => rfl)) pe_str (nomark _)) (pss_cons (ps_if (PW.pt (pw_and (pt_cmpR op_eq (pe_callB (lenK (K := K) rfl) (by rfl) T.n_len (by decide +kernel) (pa_cons (pv 0) pa_nil)) pe_int (nomark _)) (pw_and (pt_val (pe_cal G_is_box hr (by decide) rfl pass0 (pa_cons (pe_ix (ixtK (K := K) rfl) (pv 0) pe_int (fun _ _ => rfl)) pa_nil))) (pw_and1 (pt_val (pe_cal G_is_plain hr (by decide) rfl pass0 (pa_cons (pe_ix (ixtK (K := K) rfl) (pv 0) pe_int (fun _ _ => rfl)) pa_nil))))))) (pss_one (ps_ret (pe_mk (M_SetRow TC) hr (by decide) rfl (pa_cons (pv 0) pa_nil)))) pss_nil)
      (pss_one (ps_ret pe_non))) pss_nil)
      (pss_cons (ps_if (pt_cmpR op_eq (pe_ix (ixtK (K := K) rfl) (pv 0) pe_int (fun _ _ => rfl)) pe_str (nomark _)) (pss_cons (ps_if (PW.pt (pw_and (pt_cmpR op_eq (pe_callB (lenK (K := K) rfl) (by rfl) T.n_len (by decide +kernel) (pa_cons (pv 0) pa_nil)) pe_int (nomark _)) (pw_and (pt_val (pe_cal G_is_box hr (by decide) rfl pass0 (pa_cons (pe_ix (ixtK (K := K) rfl) (pv 0) pe_int (fun _ _ => rfl)) pa_nil))) (pw_and (pt_val (pe_cal G_is_word hr (by decide) rfl pass0 (pa_cons (pe_ix (ixtK (K := K) rfl) (pv 0) pe_int (fun _ _ => rfl)) pa_nil))) (pw_and1 (pt_val (pe_cal G_is_word hr (by decide) rfl pass0 (pa_cons (pe_ix (ixtK (K := K) rfl) (pv 0) pe_int (fun _ _ => rfl)) pa_nil)))))))) (pss_one (ps_ret (pe_mk (M_AlikeRow TC) hr (by decide) rfl (pa_cons (pv 0) pa_nil)))) pss_nil)
      (pss_one (ps_ret pe_non))) pss_nil)
      (pss_cons (ps_if (pt_cmpR (inK (K := K) rfl) (pe_ix (ixtK (K := K) rfl) (pv 0) pe_int (fun _ _ => rfl)) (pe_tup (pa_cons pe_str (pa_cons pe_str pa_nil))) (by rfl)) (pss_one (ps_ret (pe_cal G_with_list hr (by decide) rfl pass0 (pa_cons (pv 0) pa_nil)))) pss_nil)
      (pss_cons (ps_if (pt_cmpR (inK (K := K) rfl) (pe_ix (ixtK (K := K) rfl) (pv 0) pe_int (fun _ _ => rfl)) (pe_tup (pa_cons pe_str (pa_cons pe_str (pa_cons pe_str (pa_cons pe_str (pa_cons pe_str pa_nil)))))) (by rfl)) (pss_one (ps_ret (pe_cal G_with_aim hr (by decide) rfl pass0 (pa_cons (pv 0) pa_nil)))) pss_nil)
      (pss_one (ps_ret (pe_cal G_with_boxes hr (by decide) rfl pass0 (pa_cons (pv 0) pa_nil)))))))))), ?_⟩
    obtain ⟨xs, hx⟩ := r.hd ht0
    obtain ⟨d, ds, ed⟩ := r.d_tup
    walk_at "h"
    refine ⟨sz_of (by simp), fun p hp => ?_⟩
    have s1 : Same H (upd H p (.tup [])) := Same.new hp
    have hx1 := s1.tup hx
    have ht1 : TupV All K (upd H p (.tup [])) t r := ht0.keep (.same s1 fun _ _ => trivial)
    refine go_eqD (W := All) (W' := All) (d := r.d) (e := .tuple []) (RowV.dw ⟨t, rfl, ht1⟩) (.tup (.of upd_same) .nil) ((Tr.shp hk).ok (by decide)) (by decide +kernel) ?_
    rw [ed, eq_nil_tup (by simp)]
    walk_at "h"
    have q1 : ∀ v H', Same (upd H p (.tup [])) H' → ObjV (fun a => upd H p (.tup []) a = none) K H' mg v r → Q v H' := fun v H' s o => q0 v H' (s1.trans s) (o.keep (.same (Same.refl _) fun _ z => same_none s1 z))
    generalize upd H p (.tup []) = H1 at *
    clear hx q0 s1 ht0
    cases r <;> dsimp only [Tr.ok] at hk <;> dsimp only [Tr.kind] at hx1
    case mark z b =>
      have ht : SqT K H1 t [.str "mark", .str z, .bl b] := ht1
      walk_at "h"
      refine go_word hk fun H2 s2 => ?_
      walk_at "h"
      have hx2 := s2.tup ht
      walk_at "h"
      exact mk_obj (r := .mark z b) (TupV.any rfl (ht1.keep (.same s2 fun _ z => z))) fun v H' s => q1 v H' (s2.trans s)
    case set b n =>
      have ht : SqT K H1 t [.str "set", .int b, .int n] := ht1
      obtain ⟨h1, h2⟩ := hk
      walk_at "h"
      exact mk_obj (r := .set b n) (TupV.any rfl ht1) q1
    case alike b y z =>
      have ht : SqT K H1 t [.str "alike", .int b, .str y, .str z] := ht1
      obtain ⟨h1, h2, h3⟩ := hk
      walk_at "h"
      refine go_word h2 fun H2 s2 => ?_
      walk_at "h"
      have hx2 := s2.tup ht
      walk_at "h"
      refine go_word h3 fun H3 s3 => ?_
      walk_at "h"
      exact mk_obj (r := .alike b y z) (TupV.any rfl (ht1.keep (.same (s2.trans s3) fun _ z => z))) fun v H' s => q1 v H' ((s2.trans s3).trans s)
    case numbers | table =>
      have ht2 := ht1
      obtain ⟨l, hx1, _⟩ := ht2
      dsimp only [Tr.kind] at hx1
      walk_at "h"
      refine ⟨sz_of (by simp), fun p hp => ?_⟩
      have s2 := Same.new (o := .tup [V.str "numbers", .str "table"]) hp
      refine go_inS (.inr (.of upd_same)) rfl rfl ?_
      walk_at "h"
      exact ⟨t, _, rfl, ht1.keep (.same s2 fun _ _ => trivial), hk, rfl, fun v H' s o => q1 v H' (s2.trans s) (o.keep (.same (Same.refl _) fun _ z => same_none s2 z))⟩
    case jump | jumpif | call | load | jumpby =>
      have hx1 := ht1
      dsimp only [TupV, Tr.items, Tr.vs, Tr.kind, Tr.flat] at hx1
      walk_at "h"
      refine ⟨sz_of (by simp), fun p hp => ?_⟩
      have s2 := Same.new (o := .tup [V.str "numbers", .str "table"]) hp
      refine go_inS (.inr (.of upd_same)) rfl rfl ?_
      have hx2 := s2.tup hx1
      walk_at "h"
      refine ⟨sz_of (by simp), fun p3 hp3 => ?_⟩
      have s3 := s2.trans (Same.new (o := .tup [V.str "jump", .str "call", .str "jumpif", .str "jumpby", .str "load"]) hp3)
      refine go_inS (.inr (.of upd_same)) rfl rfl ?_
      walk_at "h"
      exact ⟨t, _, rfl, ht1.keep (.same s3 fun _ _ => trivial), hk, rfl, fun v H' s o => q1 v H' (s3.trans s) (o.keep (.same (Same.refl _) fun _ z => same_none s3 z))⟩
    all_goals
      have hx1 := ht1
      dsimp only [TupV, Tr.items, Tr.vs, Tr.kind, Tr.flat] at hx1
      walk_at "h"
      refine ⟨sz_of (by simp), fun p hp => ?_⟩
      have s2 := Same.new (o := .tup [V.str "numbers", .str "table"]) hp
      refine go_inS (.inr (.of upd_same)) rfl rfl ?_
      have hx2 := s2.tup hx1
      walk_at "h"
      refine ⟨sz_of (by simp), fun p3 hp3 => ?_⟩
      have s3 := s2.trans (Same.new (o := .tup [V.str "jump", .str "call", .str "jumpif", .str "jumpby", .str "load"]) hp3)
      refine go_inS (.inr (.of upd_same)) rfl rfl ?_
      walk_at "h"
      exact ⟨t, _, rfl, ht1.keep (.same s3 fun _ _ => trivial), hk, rfl, fun v H' s o => q1 v H' (s3.trans s) (o.keep (.same (Same.refl _) fun _ z => same_none s3 z))⟩
end
end Fj
set_option maxHeartbeats 4000000
/-! the parts' and the names' small defs -/
namespace Fj
open PySem PySem.Spec PyProof.Rows L2
open C8 (Met Mak InsC pe_mt0 pe_mk)
section
variable {P : Program} {w : World} {K : PySem.W.Frag} {mg : Str → Option Value} {base : Heap}
theorem PartO.mono {W : Addr → Prop} {H : Hp} {v : V} {p : Str × Rows} (h : PartO W K H mg v p) : PartO All K H mg v p := h.keep (.same (Same.refl H) fun _ _ => trivial)
theorem PartV.mono {W : Addr → Prop} {H : Hp} {v : V} {p : Str × Rows} (h : PartV W K H v p) : PartV All K H v p := h.keep (.same (Same.refl H) fun _ _ => trivial)
theorem ObjV.mono {W : Addr → Prop} {H : Hp} {v : V} {p : Tr} (h : ObjV W K H mg v p) : ObjV All K H mg v p := h.keep (.same (Same.refl H) fun _ _ => trivial)
theorem RowV.mono {W : Addr → Prop} {H : Hp} {v : V} {p : Tr} (h : RowV W K H v p) : RowV All K H v p := h.keep (.same (Same.refl H) fun _ _ => trivial)
theorem PartO.same {W : Addr → Prop} {H H' : Hp} {v : V} {p : Str × Rows} (h : PartO W K H mg v p) (s : Same H H') : PartO W K H' mg v p := h.keep (.same s fun _ z => z)
theorem PartV.same {W : Addr → Prop} {H H' : Hp} {v : V} {p : Str × Rows} (h : PartV W K H v p) (s : Same H H') : PartV W K H' v p := h.keep (.same s fun _ z => z)
theorem ObjV.same {W : Addr → Prop} {H H' : Hp} {v : V} {p : Tr} (h : ObjV W K H mg v p) (s : Same H H') : ObjV W K H' mg v p := h.keep (.same s fun _ z => z)
theorem RowV.same {W : Addr → Prop} {H H' : Hp} {v : V} {p : Tr} (h : RowV W K H v p) (s : Same H H') : RowV W K H' v p := h.keep (.same s fun _ z => z)
theorem ProgV.same {W : Addr → Prop} {H H' : Hp} {v : V} {p : Prg} (h : ProgV W K H v p) (s : Same H H') : ProgV W K H' v p := h.keep (.same s fun _ z => z)
theorem stable_obj {D : Addr} {W : Addr → Prop} : Stable (α := Tr) D (fun y p H => ObjV (fun a => W a ∧ a ≠ D) K H mg y p) := fun y p H H' acc hD b r => r.keep (.but b hD fun a z => ⟨z, z.2⟩)
theorem stable_row {D : Addr} {W : Addr → Prop} : Stable (α := Tr) D (fun y p H => RowV (fun a => W a ∧ a ≠ D) K H y p) := fun y p H H' acc hD b r => r.keep (.but b hD fun a z => ⟨z, z.2⟩)
theorem stable_part {D : Addr} {W : Addr → Prop} : Stable (α := Str × Rows) D (fun y p H => PartV (fun a => W a ∧ a ≠ D) K H y p) := fun y p H H' acc hD b r => r.keep (.but b hD fun a z => ⟨z, z.2⟩)
theorem stable_true {α : Type} {D : Addr} : Stable (α := α) D (fun _ _ _ => True) := fun _ _ _ _ _ _ _ r => r
abbrev sis_marked : Stmt := top 49
abbrev Nis_marked : List Str := ["thing"]
theorem scis_marked : FnScope Nis_marked ["thing"] (defScope sis_marked) := ⟨rfl, rfl, rfl, by decide +kernel, rfl, by decide +kernel, by decide +kernel⟩
def spIsMarked (K : PySem.W.Frag) : Sp := fun vs H Q _ => ∃ (v : V) (r : Tr), vs = [v] ∧ RowV All K H v r ∧ r.ok ∧ ∀ H', Same H H' → Q (.bl (!r.nm)) H'
theorem ok_is_marked (F : FnAt K mg "is_marked" sis_marked ["thing"]) (T : Txt K mg) : Cal P w K mg base CX0 1 "is_marked" ["thing"] (spIsMarked K) := by
  refine cal_mk F scis_marked (fun vs H Q E h => ?_) (fun f cdv A outer s H vs Q E hr h => ?_)
  · obtain ⟨i, r, rfl, _⟩ := h
    rfl
  · obtain ⟨v, r, rfl, ⟨t, rfl, ht0⟩, hk, q⟩ := h
    have nd := scis_marked.nd
    refine ⟨_, (pss_one (ps_ret (pe_and (pe_callB (isiK (K := K) rfl) (by rfl) T.n_isinstance (by decide +kernel) (pa_cons (pv 0) (pa_cons (pe_bltn (v := .ty "tuple") (by rfl) T.n_tuple (by decide +kernel) rfl) pa_nil))) (pe_and (pe_cmpR (nedK (K := K) rfl hr.units) (pv 0) (pe_tup pa_nil) (nomark _)) (pe_one (pe_cmpR op_eq (pe_ix (ixtK (K := K) rfl) (pv 0) pe_int (fun _ _ => rfl)) pe_str (nomark _))))))), ?_⟩
    obtain ⟨xs, hx⟩ := r.hd ht0
    obtain ⟨d, ds, ed⟩ := r.d_tup
    walk_at "h"
    refine ⟨sz_of (by simp), fun p hp => ?_⟩
    have s1 : Same H (upd H p (.tup [])) := Same.new hp
    have hx1 := s1.tup hx
    refine go_neD (W := All) (W' := All) (d := r.d) (e := .tuple []) (RowV.dw ⟨t, rfl, ht0.keep (.same s1 fun _ _ => trivial)⟩) (.tup (.of upd_same) .nil) ((Tr.shp hk).ok (by decide)) (by decide +kernel) ?_
    rw [ed, eq_nil_tup (by simp)]
    walk_at "h"
    refine go_ixT hx1 (v := .str r.kind) (atI_nat (j := 0) rfl) ?_
    walk_at "h"
    have e : decide (V.str r.kind = V.str "mark") = !r.nm := by
      cases r <;> rfl
    rw [e]
    exact q _ s1
abbrev scount_marks : Stmt := top 50
abbrev Ncount_marks : List Str := ["told", "thing"]
theorem sccount_marks : FnScope Ncount_marks ["told"] (defScope scount_marks) := ⟨rfl, rfl, rfl, by decide +kernel, rfl, by decide +kernel, by decide +kernel⟩
def spCount (K : PySem.W.Frag) : Sp := fun vs H Q _ => ∃ (l : Addr) (xs : List V) (rows : Rows), vs = [.ref l] ∧ H l = some (.lst xs) ∧ Paired (RowV All K H) xs rows ∧ (∀ r ∈ rows, r.ok) ∧ rows.length ≤ 100000 ∧ ∀ H', Same H H' → Q (.int (rows.filter fun r => !r.nm).length) H'
theorem ok_count_marks (F : FnAt K mg "count_marks" scount_marks ["told"]) (T : Txt K mg) (G_is_marked : Cal P w K mg base CX0 1 "is_marked" ["thing"] (spIsMarked K)) : Cal P w K mg base CX0 2 "count_marks" ["told"] (spCount K) := by
  refine cal_mk F sccount_marks (fun vs H Q E h => ?_) (fun f cdv A outer s H vs Q E hr h => ?_)
  · obtain ⟨i, xs, r, rfl, _⟩ := h
    rfl
  · obtain ⟨l, xs, rows, rfl, hl, hp, hk, hz, q⟩ := h
    have nd := sccount_marks.nd
    refine ⟨_, (pss_one (ps_ret (pe_callB (lenK (K := K) rfl) (by rfl) T.n_len (by decide +kernel) (pa_cons (pe_lc (own := [("thing", 1)]) (g := gName 1) (by rfl) nd (pi_list (pv 0)) (blkOk_by (N := Ncount_marks) (sc := (defScope scount_marks)) (by decide +kernel)) (fun _ _ _ _ _ => (pg_name (i := 1) nd rfl (Or.inl rfl))) (fun _ _ _ _ _ => (pts_one (pt_val (pe_cal G_is_marked hr (by decide) rfl pass0 (pa_cons (pv 1) pa_nil))))) (fun _ _ _ _ _ => (pv 1))) pa_nil)))), ?_⟩
    have hll : SqL K H l xs := .of hl
    walk_at "h"
    intro D hD
    refine lc_genL rows (fun r => !r.nm) (fun _ _ _ => True) stable_true hll (pLen hp) hz hD ?_ ?_
    · intro i x p H1 hx hp1 s1 _ NY NN ny nn
      obtain ⟨p', e, hr1⟩ := pAt hp hx
      rw [hp1] at e
      cases e
      walk_at "h"
      refine ⟨rfl, ?_⟩
      walk_at "h"
      refine ⟨x, p, rfl, hr1.same s1, hk p (List.mem_of_getElem? hp1), fun H2 s2 => ?_⟩
      walk_at "h"
      refine ite2 (fun hi => ?_) (fun hi => ?_)
      · walk_at "h"
        exact ny _ _ hi s2 trivial
      · exact nn _ (by rw [Bool.not_eq_true] at hi; exact hi) s2
    · intro H1 acc s1 hacc hp1
      walk_at "h"
      refine go_len (.inl (.of hacc)) ?_
      rw [pLen hp1]
      exact q _ s1
abbrev sis_part : Stmt := top 51
abbrev Nis_part : List Str := ["thing"]
theorem scis_part : FnScope Nis_part ["thing"] (defScope sis_part) := ⟨rfl, rfl, rfl, by decide +kernel, rfl, by decide +kernel, by decide +kernel⟩
def spIsPart (K : PySem.W.Frag) : Sp := fun vs H Q _ => ∃ (v : V) (p : Str × Rows), vs = [v] ∧ PartV All K H v p ∧ IsW p.1 ∧ GoodR p.2 ∧ ∀ H', Same H H' → Q (.bl true) H'
theorem filter_len {α : Type} (f : α → Bool) : ∀ l : List α, (l.filter f).length + (l.filter fun x => !f x).length = l.length
  | [] => rfl
  | a :: l => by
    have ih := filter_len f l
    cases h : f a
    · rw [List.filter_cons_of_neg (by simp [h]), List.filter_cons_of_pos (by simp [h]), List.length_cons, List.length_cons]; omega
    · rw [List.filter_cons_of_pos h, List.filter_cons_of_neg (by simp [h]), List.length_cons, List.length_cons]; omega
theorem ok_is_part (F : FnAt K mg "is_part" sis_part ["thing"]) (T : Txt K mg) (G_is_word : Cal P w K mg base CX0 1 "is_word" ["thing"] spIsWord) (G_count_marks : Cal P w K mg base CX0 2 "count_marks" ["told"] (spCount K)) : Cal P w K mg base CX0 3 "is_part" ["thing"] (spIsPart K) := by
  refine cal_mk F scis_part (fun vs H Q E h => ?_) (fun f cdv A outer s H vs Q E hr h => ?_)
  · obtain ⟨i, r, rfl, _⟩ := h
    rfl
  · obtain ⟨v, p, rfl, ⟨t, l, xs, rfl, ht, hl, _, hp⟩, hw, hg, q⟩ := h
    have nd := scis_part.nd
    refine ⟨_, (pss_cons (ps_if (PW.pt (pw_or (pt_not (pt_val (pe_callB (isiK (K := K) rfl) (by rfl) T.n_isinstance (by decide +kernel) (pa_cons (pv 0) (pa_cons (pe_bltn (v := .ty "tuple") (by rfl) T.n_tuple (by decide +kernel) rfl) pa_nil))))) (pw_or (pt_cmpR op_ne (pe_callB (lenK (K := K) rfl) (by rfl) T.n_len (by decide +kernel) (pa_cons (pv 0) pa_nil)) pe_int (nomark _)) (pw_or (pt_not (pt_val (pe_cal G_is_word hr (by decide) rfl pass0 (pa_cons (pe_ix (ixtK (K := K) rfl) (pv 0) pe_int (fun _ _ => rfl)) pa_nil)))) (pw_or1 (pt_not (pt_val (pe_callB (isiK (K := K) rfl) (by rfl) T.n_isinstance (by decide +kernel) (pa_cons (pe_ix (ixtK (K := K) rfl) (pv 0) pe_int (fun _ _ => rfl)) (pa_cons (pe_bltn (v := .ty "list") (by rfl) T.n_list (by decide +kernel) rfl) pa_nil)))))))))) (pss_one (ps_ret pe_bl)) pss_nil)
      (pss_one (ps_ret (pe_chain op_le op_le pe_int (pe_op op_sub (pe_callB (lenK (K := K) rfl) (by rfl) T.n_len (by decide +kernel) (pa_cons (pe_ix (ixtK (K := K) rfl) (pv 0) pe_int (fun _ _ => rfl)) pa_nil)) (pe_cal G_count_marks hr (by decide) rfl pass0 (pa_cons (pe_ix (ixtK (K := K) rfl) (pv 0) pe_int (fun _ _ => rfl)) pa_nil))) (pe_gc rfl T.c_MOST_OF_PART))))), ?_⟩
    have ht : SqT K H t [.str p.1, .ref l] := .of ht
    have hll : SqL K H l xs := .of hl
    have e0 := pLen hp
    have e1 := filter_len Tr.nm p.2
    have e2 := hg.lo
    have e3 := hg.hb
    unfold bareR at e2 e3
    walk_at "h"
    refine go_word hw fun H1 s1 => ?_
    walk_at "h"
    have ht1 := s1.tup ht
    have hl1 := s1.seq hll
    walk_at "h"
    refine ⟨l, xs, p.2, rfl, s1 _ _ hl, pImp hp fun _ _ z => z.same s1, hg.ok, by have := hg.hi; omega, fun H2 s2 => ?_⟩
    walk_at "h"
    have e : decide ((xs.length : Int) - ((p.2.filter fun r => !r.nm).length : Int) ≤ 60) = true := decide_eq_true (by omega)
    rw [e]
    exact q _ (s1.trans s2)
abbrev snext_behind : Stmt := top 53
abbrev Nnext_behind : List Str := ["rows", "at", "row"]
theorem scnext_behind : FnScope Nnext_behind ["rows", "at"] (defScope snext_behind) := ⟨rfl, rfl, rfl, by decide +kernel, rfl, by decide +kernel, by decide +kernel⟩
def OptV (K : PySem.W.Frag) (H : Hp) (mg : Str → Option Value) (v : V) : Option Tr → Prop
  | none => v = .non
  | some r => ObjV All K H mg v r
def spNext (K : PySem.W.Frag) (mg : Str → Option Value) : Sp := fun vs H Q _ => ∃ (l : Addr) (xs : List V) (rows : Rows) (i : Nat), vs = [.ref l, .int i] ∧ H l = some (.lst xs) ∧ Paired (ObjV All K H mg) xs rows ∧ i < rows.length ∧ rows.length ≤ 1000 ∧ ∀ v H', Same H H' → OptV K H' mg v (behind rows i) → Q v H'
theorem cut_from (xs : List V) (i : Nat) : cutV xs (some (i : Int)) none = xs.drop i := by
  unfold cutV
  rw [HT.sIx_nat, HT.sIx_none]
  rcases Nat.le_total i xs.length with h | h
  · rw [Nat.min_eq_left h]
    exact List.take_of_length_le (by rw [List.length_drop]; exact Nat.le_refl _)
  · rw [Nat.min_eq_right h, List.drop_eq_nil_of_le (Nat.le_refl _), List.drop_eq_nil_of_le h]
    exact List.take_nil
theorem cut_to (xs : List V) (i : Nat) : cutV xs none (some (i : Int)) = xs.take i := by
  unfold cutV
  rw [HT.sIx_nat, HT.sIx_none, List.drop_zero, Nat.sub_zero]
  rcases Nat.le_total i xs.length with h | h
  · rw [Nat.min_eq_left h]
  · rw [Nat.min_eq_right h, List.take_of_length_le (Nat.le_refl _), List.take_of_length_le h]
theorem pDrop {α β : Type} {F : α → β → Prop} : ∀ {l : List α} {m : List β} (n : Nat), Paired F l m → Paired F (l.drop n) (m.drop n)
  | _, _, 0, r => r
  | _, _, _ + 1, .nil => .nil
  | _, _, n + 1, .cons r t => pDrop n t
theorem ok_next_behind (F : FnAt K mg "next_behind" snext_behind ["rows", "at"]) (T : Txt K mg) (TC : Clss K mg) : Cal P w K mg base CX0 1 "next_behind" ["rows", "at"] (spNext K mg) := by
  refine cal_mk F scnext_behind (fun vs H Q E h => ?_) (fun f cdv A outer s H vs Q E hr h => ?_)
  · obtain ⟨i, xs, r, at_, rfl, _⟩ := h
    rfl
  · obtain ⟨l, xs, rows, i, rfl, hl, hp, hi, hz, q⟩ := h
    have nd := scnext_behind.nd
    refine ⟨_, (pss_cons (ps_for PassesOwn.never rfl (pi_list (pe_slice (sllK (K := K) rfl) (pv 0) (po_some (pe_op op_add (pv 1) pe_int)) po_none)) (pg_name (i := 2) nd rfl (Or.inl rfl)) (pss_one (ps_if (pt_not (pt_val (pe_callB (isiK (K := K) rfl) (by rfl) T.n_isinstance (by decide +kernel) (pa_cons (pv 2) (pa_cons (pe_glob (v := V.ref (CA mg "MarkRow")) rfl TC.g_MarkRow rfl) pa_nil))))) (pss_one (ps_ret (pv 2))) pss_nil)))
      (pss_one (ps_ret pe_non))), ?_⟩
    have hll : SqL K H l xs := .of hl
    walk_at "h"
    refine go_slL hll fun p hp1 => ?_
    have s1 : Same H (upd H p (.lst (xs.drop (i + 1)))) := Same.new hp1
    have e1 : cutV xs (some ((i : Int) + 1)) none = xs.drop (i + 1) := cut_from xs (i + 1)
    rw [e1]
    refine ⟨p, rfl, ⟨_, .of upd_same⟩, ?_⟩
    have hp2 : Paired (ObjV All K (upd H p (.lst (xs.drop (i + 1)))) mg) (xs.drop (i + 1)) (rows.drop (i + 1)) := pImp (pDrop (i + 1) hp) fun _ _ z => z.same s1
    unfold behind bareR at q
    have q2 : ∀ v H', Same (upd H p (.lst (xs.drop (i + 1)))) H' → OptV K H' mg v ((rows.drop (i + 1)).filter Tr.nm).head? → Q v H' := fun v H' s => q v H' (s1.trans s)
    have hs : upd H p (.lst (xs.drop (i + 1))) p = some (.lst (xs.drop (i + 1))) := upd_same
    generalize rows.drop (i + 1) = ys at *
    generalize xs.drop (i + 1) = us at *
    generalize upd H p (.lst us) = H1 at *
    refine for_list (fun j σ H2 => (∃ u, σ = [some (.ref l), some (.int i), u]) ∧ Same H1 H2 ∧ ∀ t ∈ ys.take j, t.nm = false) ⟨⟨none, rfl⟩, Same.refl _, fun t m => by rw [List.take_zero] at m; cases m⟩ (fun j σ H2 _ h => h.2.1.seq (.of hs)) ?_ ?_
    · rintro j x σ H2 hx ⟨⟨u, rfl⟩, h⟩
      obtain ⟨r, hj, hr1⟩ := pAt hp2 hx
      have hr2 := hr1.same h.1
      walk_at "h"
      refine go_isiOM TC hr2 ?_
      walk_at "h"
      refine ite2 (fun hn => ?_) (fun hn => ?_)
      · walk_at "h"
        refine q2 _ _ h.1 ?_
        have e : (ys.filter Tr.nm).head? = some r := by
          have e3 : ys = ys.take j ++ (r :: ys.drop (j + 1)) := by
            have z := take_snoc hj
            calc ys = ys.take (j + 1) ++ ys.drop (j + 1) := (List.take_append_drop _ _).symm
              _ = _ := by rw [z, List.append_assoc]; rfl
          rw [e3, List.filter_append, List.filter_eq_nil_iff.mpr (fun t m => by rw [h.2 t m]; decide), List.nil_append, List.filter_cons_of_pos (by simpa using hn)]
          rfl
        rw [e]
        exact hr2
      · walk_at "h"
        refine ⟨⟨_, rfl⟩, h.1, fun t m => ?_⟩
        rw [take_snoc hj] at m
        rcases List.mem_append.mp m with m | m
        · exact h.2 t m
        · rw [List.mem_singleton.mp m]
          simpa using hn
    · rintro σ H2 ⟨⟨u, rfl⟩, h⟩
      walk_at "h"
      refine q2 _ _ h.1 ?_
      have e : (ys.filter Tr.nm).head? = none := by
        rw [List.filter_eq_nil_iff.mpr (fun t m => by
          rw [h.2 t (by rw [pLen hp2, List.take_of_length_le (Nat.le_refl _)]; exact m)]; decide)]
        rfl
      rw [e]
      rfl
abbrev sends_well : Stmt := top 54
abbrev Nends_well : List Str := ["rows", "at", "behind"]
theorem scends_well : FnScope Nends_well ["rows", "at"] (defScope sends_well) := ⟨rfl, rfl, rfl, by decide +kernel, rfl, by decide +kernel, by decide +kernel⟩
def spEnds (K : PySem.W.Frag) (mg : Str → Option Value) : Sp := fun vs H Q _ => ∃ (l : Addr) (xs : List V) (rows : Rows) (i : Nat), vs = [.ref l, .int i] ∧ H l = some (.lst xs) ∧ Paired (ObjV All K H mg) xs rows ∧ i < rows.length ∧ rows.length ≤ 1000 ∧ endsW rows i = true ∧ ∀ H', Same H H' → Q (.bl true) H'
theorem atI_of {xs : List V} {i : Nat} {x : V} (h : xs[i]? = some x) : atI xs (i : Int) = some x := atI_nat h
theorem ok_ends_well (F : FnAt K mg "ends_well" sends_well ["rows", "at"]) (T : Txt K mg) (TC : Clss K mg) (G_next_behind : Cal P w K mg base CX0 1 "next_behind" ["rows", "at"] (spNext K mg)) : Cal P w K mg base CX0 2 "ends_well" ["rows", "at"] (spEnds K mg) := by
  refine cal_mk F scends_well (fun vs H Q E h => ?_) (fun f cdv A outer s H vs Q E hr h => ?_)
  · obtain ⟨i, xs, r, at_, rfl, _⟩ := h
    rfl
  · obtain ⟨l, xs, rows, i, rfl, hl, hp, hi, hz, he, q⟩ := h
    have nd := scends_well.nd
    refine ⟨_, (pss_cons (ps_set (i := 2) nd rfl (Or.inl rfl) (pe_cal G_next_behind hr (by decide) rfl pass0 (pa_cons (pv 0) (pa_cons (pv 1) pa_nil))))
      (pss_cons (ps_if (pt_val (pe_callB (isiK (K := K) rfl) (by rfl) T.n_isinstance (by decide +kernel) (pa_cons (pe_ix (ixlK (K := K) rfl) (pv 0) (pv 1) (fun _ _ => rfl)) (pa_cons (pe_glob (v := V.ref (CA mg "MarkRow")) rfl TC.g_MarkRow rfl) pa_nil)))) (pss_one (ps_ret (pe_cmpR op_notNon (pv 2) pe_non (nomark _)))) pss_nil)
      (pss_one (ps_ret (pe_or (pe_not (pe_rw (fun r => ok_goes TC T r) hr (by decide) (pe_ix (ixlK (K := K) rfl) (pv 0) (pv 1) (fun _ _ => rfl)))) (pe_one (pe_callB (isiK (K := K) rfl) (by rfl) T.n_isinstance (by decide +kernel) (pa_cons (pv 2) (pa_cons (pe_glob (v := V.ref (CA mg "CodeRow")) rfl TC.g_CodeRow rfl) pa_nil))))))))), ?_⟩
    obtain ⟨x, hx⟩ : ∃ x, xs[i]? = some x := ⟨_, List.getElem?_eq_getElem (by rw [pLen hp]; exact hi)⟩
    obtain ⟨r, hri, hr1⟩ := pAt hp hx
    unfold endsW at he
    rw [hri] at he
    walk_at "h"
    refine ⟨l, xs, rows, i, rfl, hl, hp, hi, hz, fun b H1 s1 hb => ?_⟩
    have hl1 : SqL K H1 l xs := .of (s1 _ _ hl)
    have hr2 := hr1.same s1
    have q2 : ∀ H', Same H1 H' → Q (.bl true) H' := fun H' s => q H' (s1.trans s)
    walk_at "h"
    refine go_ixL hl1 (atI_of hx) ?_
    walk_at "h"
    refine go_isiOM TC hr2 ?_
    walk_at "h"
    refine ite2 (fun hn => ?_) (fun hn => ?_)
    · walk_at "h"
      cases r <;> (try (cases hn; done))
      case mark z sg =>
        cases ho : behind rows i with
        | none => rw [ho] at he; cases he
        | some t =>
          rw [ho] at hb
          have hb' : ObjV All K H1 mg b t := hb
          obtain ⟨o, _, _, rfl, _⟩ := hb'
          exact q2 _ (Same.refl _)
    · walk_at "h"
      refine go_rw r ?_
      walk_at "h"
      refine go_ixL hl1 (atI_of hx) ?_
      refine at_goes hr2 ?_
      walk_at "h"
      have he2 : (!r.goes || (match behind rows i with | some t => t.code | none => false)) = true := by
        cases r <;> first | exact he | (cases hn (by rfl); done)
      refine ite2 (fun hg => ?_) (fun hg => ?_)
      · exact q2 _ (Same.refl _)
      · have hg' : r.goes = true := by simpa using hg
        rw [hg'] at he2
        cases ho : behind rows i with
        | none => rw [ho] at he2; cases he2
        | some t =>
          rw [ho] at hb he2
          have hb' : ObjV All K H1 mg b t := hb
          have hc : t.code = true := he2
          walk_at "h"
          refine go_isiOC TC hb' ?_
          rw [hc]
          exact q2 _ (Same.refl _)
abbrev sbare : Stmt := top 57
abbrev Nbare : List Str := ["rows", "row"]
theorem scbare : FnScope Nbare ["rows"] (defScope sbare) := ⟨rfl, rfl, rfl, by decide +kernel, rfl, by decide +kernel, by decide +kernel⟩
def spBare (K : PySem.W.Frag) (mg : Str → Option Value) : Sp := fun vs H Q _ => ∃ (l : Addr) (xs : List V) (rows : Rows) (W : Addr → Prop), vs = [.ref l] ∧ H l = some (.lst xs) ∧ Paired (ObjV W K H mg) xs rows ∧ rows.length ≤ 1000 ∧ ∀ p H' ys, H p = none → Same H H' → H' p = some (.lst ys) → Paired (ObjV (fun a => W a ∧ a ≠ p) K H' mg) ys (bareR rows) → Q (.ref p) H'
theorem ok_bare (F : FnAt K mg "bare" sbare ["rows"]) (T : Txt K mg) (TC : Clss K mg) : Cal P w K mg base CX0 1 "bare" ["rows"] (spBare K mg) := by
  refine cal_mk F scbare (fun vs H Q E h => ?_) (fun f cdv A outer s H vs Q E hr h => ?_)
  · obtain ⟨i, xs, r, W, rfl, _⟩ := h
    rfl
  · obtain ⟨l, xs, rows, W, rfl, hl, hp, hz, q⟩ := h
    have nd := scbare.nd
    refine ⟨_, (pss_one (ps_ret (pe_lc (own := [("row", 1)]) (g := gName 1) (by rfl) nd (pi_list (pv 0)) (blkOk_by (N := Nbare) (sc := (defScope sbare)) (by decide +kernel)) (fun _ _ _ _ _ => (pg_name (i := 1) nd rfl (Or.inl rfl))) (fun _ _ _ _ _ => (pts_one (pt_not (pt_val (pe_callB (isiK (K := K) rfl) (by rfl) T.n_isinstance (by decide +kernel) (pa_cons (pv 1) (pa_cons (pe_glob (v := V.ref (CA mg "MarkRow")) rfl TC.g_MarkRow rfl) pa_nil))))))) (fun _ _ _ _ _ => (pv 1))))), ?_⟩
    have hll : SqL K H l xs := .of hl
    walk_at "h"
    intro D hD
    refine lc_genL rows Tr.nm (fun y p H => ObjV (fun a => W a ∧ a ≠ D) K H mg y p) stable_obj hll (pLen hp) (by omega) hD ?_ ?_
    · intro i x p H1 hx hp1 s1 _ NY NN ny nn
      obtain ⟨p', e, hr1⟩ := pAt hp hx
      rw [hp1] at e
      cases e
      have hr2 := (hr1.fresh hD).same s1
      walk_at "h"
      refine ⟨rfl, ?_⟩
      walk_at "h"
      refine go_isiOM TC hr2 ?_
      walk_at "h"
      refine ite2 (fun hi => ?_) (fun hi => ?_)
      · walk_at "h"
        exact ny _ _ (by simpa using hi) (Same.refl _) hr2
      · exact nn _ (by simpa using hi) (Same.refl _)
    · intro H1 acc s1 hacc hp1
      walk_at "h"
      exact q _ _ _ hD s1 hacc hp1
abbrev sis_wanted : Stmt := top 61
abbrev Nis_wanted : List Str := ["row", "wants"]
theorem scis_wanted : FnScope Nis_wanted ["row", "wants"] (defScope sis_wanted) := ⟨rfl, rfl, rfl, by decide +kernel, rfl, by decide +kernel, by decide +kernel⟩
def spWanted (K : PySem.W.Frag) (mg : Str → Option Value) : Sp := fun vs H Q _ => ∃ (v : V) (r t : Tr), vs = [v, .str r.wants] ∧ ObjV All K H mg v t ∧ t.nm = true ∧ r.asked ≠ [] ∧ Q (.bl (r.fit t)) H
theorem ok_is_wanted (F : FnAt K mg "is_wanted" sis_wanted ["row", "wants"]) (T : Txt K mg) (TC : Clss K mg) : Cal P w K mg base CX0 1 "is_wanted" ["row", "wants"] (spWanted K mg) := by
  refine cal_mk F scis_wanted (fun vs H Q E h => ?_) (fun f cdv A outer s H vs Q E hr h => ?_)
  · obtain ⟨i, xs, r, rfl, _⟩ := h
    rfl
  · obtain ⟨v, r, t, rfl, ho, hn, ha, q⟩ := h
    have nd := scis_wanted.nd
    refine ⟨_, (pss_cons (ps_if (pt_cmpR op_eq (pv 1) pe_str (nomark _)) (pss_one (ps_ret (pe_callB (isiK (K := K) rfl) (by rfl) T.n_isinstance (by decide +kernel) (pa_cons (pv 0) (pa_cons (pe_glob (v := V.ref (CA mg "CodeRow")) rfl TC.g_CodeRow rfl) pa_nil))))) pss_nil)
      (pss_cons (ps_if (pt_cmpR op_eq (pv 1) pe_str (nomark _)) (pss_one (ps_ret (pe_callB (isiK (K := K) rfl) (by rfl) T.n_isinstance (by decide +kernel) (pa_cons (pv 0) (pa_cons (pe_glob (v := V.ref (CA mg "NumbersRow")) rfl TC.g_NumbersRow rfl) pa_nil))))) pss_nil)
      (pss_cons (ps_if (pt_cmpR op_eq (pv 1) pe_str (nomark _)) (pss_one (ps_ret (pe_callB (isiK (K := K) rfl) (by rfl) T.n_isinstance (by decide +kernel) (pa_cons (pv 0) (pa_cons (pe_glob (v := V.ref (CA mg "TableRow")) rfl TC.g_TableRow rfl) pa_nil))))) pss_nil)
      (pss_one (ps_ret pe_bl))))), ?_⟩
    have hc : t.code = !t.isData := by unfold Tr.code; rw [hn]; rfl
    cases r <;> (try (exact absurd rfl ha)) <;> dsimp only [Tr.wants, Tr.fit] at q ⊢
    case jump | jumpif | call | table =>
      walk_at "h"
      refine go_isiOC TC ho ?_
      rw [hc]
      exact q
    case load =>
      walk_at "h"
      exact go_isiON TC ho q
    case jumpby =>
      walk_at "h"
      exact go_isiOT TC ho q
    case alike =>
      walk_at "h"
      exact q
end
end Fj
set_option maxHeartbeats 4000000
/-! checked_form, looked_at -/
namespace Fj
open PySem PySem.Spec PyProof.Rows L2
open C8 (Met Mak InsC pe_mt0 pe_mk)
section
variable {P : Program} {w : World} {K : PySem.W.Frag} {mg : Str → Option Value} {base : Heap}
theorem valV_none {kvs : List (Key × V)} {k : Key} (h : ∀ kv ∈ kvs, kv.1 ≠ k) : valV kvs k = none := by
  unfold valV
  rw [List.find?_eq_none.mpr (fun kv m => by simpa using h kv m)]
  rfl
theorem split_at {α : Type} {l : List α} {i : Nat} {p : α} (e : l[i]? = some p) : l = l.take i ++ (p :: l.drop (i + 1)) := by
  have z := take_snoc e
  calc l = l.take (i + 1) ++ l.drop (i + 1) := (List.take_append_drop _ _).symm
    _ = _ := by rw [z, List.append_assoc]; rfl
theorem nodup_take {α β : Type} {f : α → β} {l : List α} {i : Nat} {p : α} (h : (l.map f).Nodup) (e : l[i]? = some p) : ∀ p' ∈ l.take i, f p' ≠ f p := by
  intro p' m e2
  rw [split_at e, List.map_append, List.nodup_append] at h
  exact h.2.2 (f p') (List.mem_map_of_mem m) (f p) (by rw [List.map_cons]; exact List.mem_cons_self) e2
theorem go_sumVals {σ : L2.St} {H : Hp} {Q : VK} {td : TE} (q : td σ H fun x H1 => ∃ (a : Addr) (kvs : List (Key × V)) (is : List Int), x = V.ref a ∧ H1 a = some (.dK kvs) ∧ kvs.map (·.2) = is.map V.int ∧ Q (.int is.sum) H1) : tSumVals td σ H Q := q
abbrev schecked_form : Stmt := top 52
abbrev Nchecked_form : List Str := ["parts", "names", "marks", "name", "told", "part"]
theorem scchecked_form : FnScope Nchecked_form ["parts"] (defScope schecked_form) := ⟨rfl, rfl, rfl, by decide +kernel, rfl, by decide +kernel, by decide +kernel⟩
def spForm (K : PySem.W.Frag) : Sp := fun vs H Q _ => ∃ (v : V) (R : Prg), vs = [v] ∧ ProgV All K H v R ∧ Good R ∧ ∀ H', Same H H' → Q .non H'
theorem ok_checked_form (F : FnAt K mg "checked_form" schecked_form ["parts"]) (T : Txt K mg) (G_is_part : Cal P w K mg base CX0 3 "is_part" ["thing"] (spIsPart K)) (G_count_marks : Cal P w K mg base CX0 2 "count_marks" ["told"] (spCount K)) : Cal P w K mg base CX0 4 "checked_form" ["parts"] (spForm K) := by
  refine cal_mk F scchecked_form (fun vs H Q E h => ?_) (fun f cdv A outer s H vs Q E hr h => ?_)
  · obtain ⟨i, xs, rfl, _⟩ := h
    rfl
  · obtain ⟨v, R, rfl, ⟨l, xs, rfl, hl, _, hp⟩, hg, q⟩ := h
    have hu := hu_of hr
    have nd := scchecked_form.nd
    refine ⟨_, (pss_cons (ps_if (PW.pt (pw_or (pt_not (pt_val (pe_callB (isiK (K := K) rfl) (by rfl) T.n_isinstance (by decide +kernel) (pa_cons (pv 0) (pa_cons (pe_bltn (v := .ty "list") (by rfl) T.n_list (by decide +kernel) rfl) pa_nil))))) (pw_or (pt_not (pt_chain op_le op_le pe_int (pe_callB (lenK (K := K) rfl) (by rfl) T.n_len (by decide +kernel) (pa_cons (pv 0) pa_nil)) (pe_gc rfl T.c_MOST_PARTS))) (pw_or1 (pt_not (pt_val (pe_callB (allK (K := K) rfl rfl) (by rfl) T.n_all (by decide +kernel) (pa_cons (pe_lc (own := [("part", 5)]) (g := gName 5) (tt := tYes) (by rfl) nd (pi_list (pv 0)) (blkOk_by (N := Nchecked_form) (sc := (defScope schecked_form)) (by decide +kernel)) (fun _ _ _ _ _ => (pg_name (i := 5) nd rfl (Or.inl rfl))) (fun _ _ _ _ _ => pts_nil) (fun _ _ _ _ _ => (pe_cal G_is_part hr (by decide) rfl pass0 (pa_cons (pv 5) pa_nil)))) pa_nil)))))))) pss_never pss_nil)
      (pss_cons (ps_set (i := 1) nd rfl (Or.inl rfl) pe_dnewK)
      (pss_cons (ps_set (i := 2) nd rfl (Or.inl rfl) pe_int)
      (pss_cons (ps_for PassesOwn.never rfl (pi_list (pv 0)) (pg_tup rfl (pgs_cons (pg_name (i := 3) nd rfl (Or.inl rfl)) (pgs_cons (pg_name (i := 4) nd rfl (Or.inl rfl)) pgs_nil))) (pss_cons (ps_dput hu (pv 1) (pv 3) (pe_op op_sub (pe_callB (lenK (K := K) rfl) (by rfl) T.n_len (by decide +kernel) (pa_cons (pv 4) pa_nil)) (pe_cal G_count_marks hr (by decide) rfl pass0 (pa_cons (pv 4) pa_nil))) rfl)
      (pss_one (ps_aug (i := 2) nd rfl (Or.inl rfl) (pe_cal G_count_marks hr (by decide) rfl pass0 (pa_cons (pv 4) pa_nil)) ip_add))))
      (pss_one (ps_if (PW.pt (pw_or (pt_cmpR op_lt (pe_callB call_lenD (by rfl) T.n_len (by decide +kernel) (pa_cons (pv 1) pa_nil)) (pe_callB (lenK (K := K) rfl) (by rfl) T.n_len (by decide +kernel) (pa_cons (pv 0) pa_nil)) (nomark _)) (pw_or (pt_cmpR op_gt (pe_sumVals rfl rfl T.n_sum (pv 1)) (pe_gc rfl T.c_MOST_ROWS) (nomark _)) (pw_or1 (pt_cmpR op_gt (pv 2) (pe_gc rfl T.c_MOST_ROWS) (nomark _)))))) pss_never pss_nil)))))), ?_⟩
    have hll : SqL K H l xs := .of hl
    have e0 := pLen hp
    have g1 := hg.lo
    have g2 := hg.hi
    walk_at "h"
    intro D hD
    refine lc_allL hll (by omega) hD ?_ ?_
    · intro i x H1 hx s1 NY ny
      obtain ⟨p, hp1, hv⟩ := pAt hp hx
      have hm := List.mem_of_getElem? hp1
      walk_at "h"
      refine ⟨rfl, ?_⟩
      walk_at "h"
      exact ⟨x, p, rfl, hv.same s1, hg.pw p hm, hg.rows p hm, fun H2 s2 => ny _ s2⟩
    · intro H1 acc s1 hacc hall
      walk_at "h"
      refine go_all (SqL.of hacc) ?_
      rw [hall]
      have hl1 := s1.seq hll
      have hl0 := s1 _ _ hl
      walk_at "h"
      intro D1 hD1
      walk_at "h"
      refine ⟨l, rfl, ⟨_, .of (Same.new hD1 _ _ hl0)⟩, ?_⟩
      refine for_list (xs := xs) (fun i σ H2 => ∃ (m : Int) (a b c : Option V) (kvs : List (Key × V)) (is : List Int), σ = [some (.ref l), some (.ref D1), some (.int m), a, b, c] ∧ Same H1 H2 ∧ H2 D1 = some (.dK kvs) ∧ kvs.map (·.1) = (R.take i).map (fun p => Sum.inr p.1) ∧ kvs.map (·.2) = is.map V.int ∧ is.sum ≤ 30 * i ∧ m ≤ 30 * i)
        ⟨0, none, none, none, [], [], rfl, Same.new hD1, upd_same, rfl, rfl, by decide, by decide⟩ ?_ ?_ ?_
      · rintro i σ H2 _ ⟨m, a, b, c, kvs, is, rfl, s2, _⟩
        exact s2.seq hl1
      · rintro i x σ H2 hx ⟨m, a, b, c, kvs, is, rfl, s2, hd, k1, k2, hs, hm⟩
        obtain ⟨p, hp1, hv⟩ := pAt hp hx
        have hm1 := List.mem_of_getElem? hp1
        have hgr := hg.rows p hm1
        have hv2 := hv.same (s1.trans s2)
        obtain ⟨t, l2, ys, rfl, ht, hl2, _, hr2⟩ := hv2
        have hi : i < R.length := (List.getElem?_eq_some_iff.mp hp1).1
        have f1 := filter_len Tr.nm p.2
        have f2 := hgr.hm
        have f3 := hgr.hb
        have f4 := hgr.hi
        have f5 := pLen hr2
        unfold bareR at f3
        walk_at "h"
        refine go_len (.inl (.of hl2)) ?_
        walk_at "h"
        refine ⟨l2, ys, p.2, rfl, hl2, hr2, hgr.ok, by omega, fun H3 s3 => ?_⟩
        walk_at "h"
        have hd3 := s3 _ _ hd
        have kl : kvs.length = i := by
          have e := congrArg List.length k1
          rw [List.length_map, List.length_map, List.length_take] at e
          omega
        have hnew : valV kvs (.inr p.1) = none := valV_none fun kv mm e => by
          have m1 : kv.1 ∈ kvs.map (·.1) := List.mem_map_of_mem mm
          rw [k1, e] at m1
          obtain ⟨p', m2, e2⟩ := List.mem_map.mp m1
          have e3 : p'.1 = p.1 := Sum.inr.inj e2
          exact nodup_take hg.nd hp1 p' m2 e3
        refine ⟨D1, _, rfl, DPut.k (k := .inr p.1) hd3 (sz_lt (by omega)), ?_⟩
        rw [putK_new _ hnew]
        have s4 : Same H1 (upd H3 D1 (.dK (kvs ++ [(Sum.inr p.1, V.int ((ys.length : Int) - ((p.2.filter fun r => !r.nm).length : Int)))]))) := (s2.trans s3).mut hD1
        walk_at "h"
        have hv4 := hv.same (s1.trans s4)
        have hl4 : upd H3 D1 (.dK (kvs ++ [(Sum.inr p.1, V.int ((ys.length : Int) - ((p.2.filter fun r => !r.nm).length : Int)))])) l2 = some (.lst ys) := by
          rw [upd_ne (fun e => by rw [e, hd] at hl2; cases hl2)]
          exact s3 _ _ hl2
        have k4 : KeepsI All All H3 (upd H3 D1 (.dK (kvs ++ [(Sum.inr p.1, V.int ((ys.length : Int) - ((p.2.filter fun r => !r.nm).length : Int)))]))) := .butD But.upd hd3 fun _ z => z
        refine ⟨l2, ys, p.2, rfl, hl4, pImp hr2 fun _ _ z => (z.same s3).keep k4.toKeeps, hgr.ok, by omega, fun H5 s5 => ?_⟩
        walk_at "h"
        refine ⟨_, _, _, _, _, is ++ [(ys.length : Int) - ((p.2.filter fun r => !r.nm).length : Int)], rfl, s4.trans s5, s5 _ _ upd_same, ?_, ?_, ?_, ?_⟩
        · rw [List.map_append, k1, take_snoc hp1, List.map_append]
          rfl
        · rw [List.map_append, k2, List.map_append]
          rfl
        · rw [List.sum_append, List.sum_cons, List.sum_nil]
          omega
        · show m + ((p.2.filter fun r => !r.nm).length : Int) ≤ 30 * ((i + 1 : Nat) : Int)
          omega
      · rintro σ H2 ⟨m, a, b, c, kvs, is, rfl, s2, hd, k1, k2, hs, hm⟩
        have kl : kvs.length = R.length := by
          have e := congrArg List.length k1
          rw [List.length_map, List.length_map, List.length_take] at e
          omega
        have hl2 := s2.seq hl1
        walk_at "h"
        refine ⟨D1, kvs, rfl, hd, ?_⟩
        walk_at "h"
        refine go_sumVals ?_
        walk_at "h"
        refine ⟨D1, kvs, is, rfl, hd, k2, ?_⟩
        walk_at "h"
        exact q _ (s1.trans s2)
end
end Fj
set_option maxHeartbeats 4000000
/-! looked_at -/
namespace Fj
open PySem PySem.Spec PyProof.Rows L2
open C8 (Met Mak InsC pe_mt0 pe_mk)
section
variable {P : Program} {w : World} {K : PySem.W.Frag} {mg : Str → Option Value} {base : Heap}
theorem go_noneIn {H : Hp} {Q : VK} {p : Addr} {xs : List V} (h : SqL K H p xs) (hn : ∀ z ∈ xs, NoneOr K H z) (ha : xs.any isNon = false) (q : Q (.bl false) H) : rNoneIn K false .non (.ref p) H Q := ⟨p, xs, rfl, rfl, h, hn, by rw [ha]; exact q⟩
theorem objs_none {W : Addr → Prop} {H : Hp} (T : Clss K mg) : ∀ {xs : List V} {rows : Rows}, Paired (ObjV W K H mg) xs rows → (∀ z ∈ xs, NoneOr K H z) ∧ xs.any isNon = false
  | _, _, .nil => ⟨fun _ m => (nomatch m), rfl⟩
  | _, _, .cons (a := v) (b := r) h t => by
    obtain ⟨i1, i2⟩ := objs_none T t
    obtain ⟨o, dx, tt, rfl, ho, _⟩ := h
    refine ⟨fun z m => ?_, by rw [List.any_cons, i2]; rfl⟩
    rcases List.mem_cons.mp m with rfl | m
    · exact .inr ⟨o, _, dx, _, rfl, ho, (T.ins r).hm, T.qe r⟩
    · exact i1 z m
theorem pSnocS {D : Addr} {mg : Str → Option Value} {W : Addr → Prop} {H H' : Hp} {acc : List V} (hD : H D = some (.lst acc)) (b : But D H H') (w : ∀ a, W a → a ≠ D) {xs : List V} {ps : Prg} (h : Paired (PartO W K H mg) xs ps) : Paired (PartO W K H' mg) xs ps :=
  pImp h fun _ _ z => z.keep (.but b hD fun a wa => ⟨wa, w a wa⟩)
abbrev slooked_at : Stmt := top 55
abbrev Nlooked_at : List Str := ["parts", "found", "name", "told", "rows", "at", "thing"]
theorem sclooked_at : FnScope Nlooked_at ["parts"] (defScope slooked_at) := ⟨rfl, rfl, rfl, by decide +kernel, rfl, by decide +kernel, by decide +kernel⟩
def spLooked (K : PySem.W.Frag) (mg : Str → Option Value) : Sp := fun vs H Q _ => ∃ (v : V) (R : Prg), vs = [v] ∧ ProgV All K H v R ∧ Good R ∧ ∀ p H' ys, H p = none → Same H H' → H' p = some (.lst ys) → Paired (PartO (fun a => a ≠ p) K H' mg) ys R → Q (.ref p) H'
theorem ok_looked_at (F : FnAt K mg "looked_at" slooked_at ["parts"]) (T : Txt K mg) (TC : Clss K mg) (G_checked_form : Cal P w K mg base CX0 4 "checked_form" ["parts"] (spForm K)) (G_row_of : Cal P w K mg base CX0 4 "row_of" ["thing"] (spRow K mg fun _ => true)) (G_ends_well : Cal P w K mg base CX0 2 "ends_well" ["rows", "at"] (spEnds K mg)) : Cal P w K mg base CX0 5 "looked_at" ["parts"] (spLooked K mg) := by
  refine cal_mk F sclooked_at (fun vs H Q E h => ?_) (fun f cdv A outer s H vs Q E hr h => ?_)
  · obtain ⟨i, xs, rfl, _⟩ := h
    rfl
  · obtain ⟨v, R, rfl, hv0, hg, q⟩ := h
    have nd := sclooked_at.nd
    refine ⟨_, (pss_cons (ps_expr (pe_cal G_checked_form hr (by decide) rfl pass0 (pa_cons (pv 0) pa_nil)))
      (pss_cons (ps_set (i := 1) nd rfl (Or.inl rfl) (pe_lst pa_nil))
      (pss_cons (ps_for PassesOwn.never rfl (pi_list (pv 0)) (pg_tup rfl (pgs_cons (pg_name (i := 2) nd rfl (Or.inl rfl)) (pgs_cons (pg_name (i := 3) nd rfl (Or.inl rfl)) pgs_nil))) (pss_cons (ps_setLc (i := 4) (own := [("thing", 6)]) (g := gName 6) (tt := tYes) (by rfl) nd rfl rfl (sw_true rfl rfl rfl (by decide +kernel)) (pi_list (pv 3)) (blkOk_by (N := Nlooked_at) (sc := (defScope slooked_at)) (by decide +kernel)) (fun _ _ _ _ _ => (pg_name (i := 6) nd rfl (Or.inl rfl))) (fun _ _ _ _ _ => pts_nil) (fun _ _ _ _ _ => (pe_cal G_row_of hr (by decide) rfl pass0 (pa_cons (pv 6) pa_nil))))
      (pss_cons (ps_if (pt_cmpR (op_noneIn hr.units) pe_non (pv 4) (by rfl)) pss_never pss_nil)
      (pss_one (ps_expr (pe_bm PySem.F.plainAttrs_list PySem.F.slot_list_append PySem.F.type_list_append mt_append (pv 1) (pa_cons (pe_tup (pa_cons (pv 2) (pa_cons (pv 4) pa_nil))) pa_nil)))))))
      (pss_cons (ps_for PassesOwn.never rfl (pi_list (pv 1)) (pg_tup rfl (pgs_cons (pg_name (i := 2) nd rfl (Or.inl rfl)) (pgs_cons (pg_name (i := 4) nd rfl (Or.inl rfl)) pgs_nil))) (pss_one (ps_for PassesOwn.never rfl (pi_range1 (by rfl) T.n_range (pa_cons (pe_callB (lenK (K := K) rfl) (by rfl) T.n_len (by decide +kernel) (pa_cons (pv 4) pa_nil)) pa_nil)) (pg_name (i := 5) nd rfl (Or.inl rfl)) (pss_one (ps_if (pt_not (pt_val (pe_cal G_ends_well hr (by decide) rfl pass0 (pa_cons (pv 4) (pa_cons (pv 5) pa_nil))))) pss_never pss_nil)))))
      (pss_one (ps_ret (pv 1))))))), ?_⟩
    walk_at "h"
    refine ⟨v, R, rfl, hv0, hg, fun H1 s1 => ?_⟩
    obtain ⟨l, xs, rfl, hl, _, hp⟩ := hv0.same s1
    have hll : SqL K H1 l xs := .of hl
    have e0 := pLen hp
    have g2 := hg.hi
    walk_at "h"
    refine ⟨sz_of (by simp), fun D hD => ?_⟩
    walk_at "h"
    refine ⟨l, rfl, ⟨_, .of (Same.new hD _ _ hl)⟩, ?_⟩
    refine for_list (xs := xs) (fun i σ H2 => ∃ (a b c d e : Option V) (acc : List V), σ = [some (.ref l), some (.ref D), a, b, c, d, e] ∧ Same H1 H2 ∧ H2 D = some (.lst acc) ∧ Paired (PartO (fun a => a ≠ D) K H2 mg) acc (R.take i))
      ⟨none, none, none, none, none, [], rfl, Same.new hD, upd_same, .nil⟩ ?_ ?_ ?_
    · rintro i σ H2 _ ⟨a, b, c, d, e, acc, rfl, s2, _⟩
      exact s2.seq hll
    · rintro i x σ H2 hx ⟨a, b, c, d, e, acc, rfl, s2, hd, hacc⟩
      obtain ⟨p, hp1, hv⟩ := pAt hp hx
      have hm1 := List.mem_of_getElem? hp1
      have hgr := hg.rows p hm1
      obtain ⟨t, l2, ys, rfl, ht, hl2, _, hr2⟩ := hv.same s2
      have hi : i < R.length := (List.getElem?_eq_some_iff.mp hp1).1
      have hll2 : SqL K H2 l2 ys := .of hl2
      walk_at "h"
      intro D2 hD2
      refine lc_genL p.2 (fun _ => true) (fun y r H => ObjV (fun a => a ≠ D ∧ a ≠ D2) K H mg y r) stable_obj hll2 (pLen hr2) (by have := hgr.hi; omega) hD2 ?_ ?_
      · intro j x r H3 hx3 hr3 s3 hDD NY NN ny nn
        obtain ⟨r', e4, hv4⟩ := pAt hr2 hx3
        rw [hr3] at e4
        cases e4
        obtain ⟨t4, rfl, ht4⟩ := hv4.same s3
        walk_at "h"
        refine ⟨rfl, ?_⟩
        walk_at "h"
        refine ⟨t4, r, rfl, ht4, hgr.ok r (List.mem_of_getElem? hr3), rfl, fun v H4 s4 ho => ?_⟩
        obtain ⟨acc3, hDD⟩ := hDD
        exact ny _ _ rfl s4 (ho.keep (.same (Same.refl _) fun a ha => ⟨fun ea => (by rw [ea, s3 _ _ hd] at ha; cases ha), fun ea => (by rw [ea, hDD] at ha; cases ha)⟩))
      · intro H3 acc3 s3 hacc3 hp3
        rw [List.filter_eq_self.mpr (fun _ _ => rfl)] at hp3
        have hs3 : SqL K H3 D2 acc3 := .of hacc3
        obtain ⟨n1, n2⟩ := objs_none TC hp3
        walk_at "h"
        refine go_noneIn hs3 n1 n2 ?_
        walk_at "h"
        have hd3 := s3 _ _ hd
        refine ⟨go_tyL (.of hd3), ?_⟩
        walk_at "h"
        refine ⟨sz_of (by simp), fun tp htp => ?_⟩
        have s4 : Same H3 (upd H3 tp (.tup [.str p.1, .ref D2])) := Same.new htp
        have hd4 := s4 _ _ hd3
        have al : acc.length = i := by
          have e5 := pLen hacc
          rw [List.length_take] at e5
          omega
        walk_at "h"
        refine go_append hd4 (sz_lt (by omega)) ?_
        have b5 : But D (upd H3 tp (.tup [.str p.1, .ref D2])) (upd (upd H3 tp (.tup [.str p.1, .ref D2])) D (.lst (acc ++ [.ref tp]))) := But.upd
        have hnew : PartO (fun a => a ≠ D) K (upd H3 tp (.tup [.str p.1, .ref D2])) mg (.ref tp) p := ⟨tp, D2, acc3, rfl, .of upd_same, s4 _ _ hacc3, fun ea => (by rw [ea, hd] at hD2; cases hD2), pImp hp3 fun _ _ z => (z.same s4).keep (.same (Same.refl _) fun _ z => z.1)⟩
        refine ⟨_, _, _, _, _, acc ++ [.ref tp], rfl, ((s2.trans s3).trans s4).mut hD, upd_same, ?_⟩
        rw [take_snoc hp1]
        refine pSnocS hd4 b5 (fun _ z => z) (pSnoc (pImp hacc fun _ _ z => (z.same s3).same s4) hnew)
    · rintro σ H2 ⟨a, b, c, d, e, acc, rfl, s2, hd, hacc⟩
      rw [e0, List.take_of_length_le (Nat.le_refl _)] at hacc
      have hs2 : SqL K H2 D acc := .of hd
      have q2 : ∀ H', Same H2 H' → Q (.ref D) H' := fun H' s => q D H' acc (same_none s1 hD) (s1.trans (s2.trans s)) (s _ _ hd) (pImp hacc fun _ _ z => z.same s)
      walk_at "h"
      refine for_list (xs := acc) (fun i σ H3 => ∃ (a b c d e : Option V), σ = [some (.ref l), some (.ref D), a, b, c, d, e] ∧ Same H2 H3) ⟨_, _, _, _, _, rfl, Same.refl _⟩ ?_ ?_ ?_
      · rintro i σ H3 _ ⟨a, b, c, d, e, rfl, s3⟩
        exact s3.seq hs2
      · rintro i x σ H3 hx ⟨a, b, c, d, e, rfl, s3⟩
        obtain ⟨p, hp1, hv⟩ := pAt hacc hx
        have hgr := hg.rows p (List.mem_of_getElem? hp1)
        obtain ⟨t, l2, ys, rfl, ht, hl2, _, hr2⟩ := (hv.same s3).mono
        have hll2 : SqL K H3 l2 ys := .of hl2
        have e5 := pLen hr2
        have e6 := hgr.hi
        walk_at "h"
        refine ⟨_, rfl, by omega, by omega, ?_⟩
        refine for_range (fun j σ H4 => ∃ (a b d e : Option V), σ = [some (.ref l), some (.ref D), a, b, some (.ref l2), d, e] ∧ Same H3 H4) ⟨_, _, _, _, rfl, Same.refl _⟩ ?_ ?_
        · rintro j σ H4 hj ⟨a, b, d, e, rfl, s4⟩
          rw [Int.zero_add]
          walk_at "h"
          refine ⟨l2, ys, p.2, j, rfl, s4 _ _ hl2, pImp hr2 fun _ _ z => z.same s4, by omega, by omega, hgr.e j (by omega), fun H5 s5 => ?_⟩
          walk_at "h"
          exact ⟨_, _, _, _, rfl, s4.trans s5⟩
        · rintro σ H4 ⟨a, b, d, e, rfl, s4⟩
          walk_at "h"
          exact ⟨_, _, _, _, _, rfl, s3.trans s4⟩
      · rintro σ H3 ⟨a, b, c, d, e, rfl, s3⟩
        walk_at "h"
        exact q2 _ s3
end
end Fj
set_option maxHeartbeats 4000000
/-! marks_in, standing_in -/
namespace Fj
open PySem PySem.Spec PyProof.Rows L2
open C8 (Met Mak InsC pe_mt0 pe_mk)
section
variable {P : Program} {w : World} {K : PySem.W.Frag} {mg : Str → Option Value} {base : Heap}
theorem pPerm {α β : Type} {F : α → β → Prop} {l l' : List α} (h : l'.Perm l) : ∀ {m : List β}, Paired F l m → ∃ m' : List β, m'.Perm m ∧ Paired F l' m' := by
  induction h with
  | nil => intro m p; cases p; exact ⟨[], .nil, .nil⟩
  | cons x _ ih =>
    intro m p
    cases p with
    | cons r t =>
      obtain ⟨m', h1, h2⟩ := ih t
      exact ⟨_ :: m', h1.cons _, .cons r h2⟩
  | swap x y l =>
    intro m p
    cases p with
    | cons r t =>
      cases t with
      | cons r2 t2 => exact ⟨_ :: _ :: _, List.Perm.swap _ _ _, .cons r2 (.cons r t2)⟩
  | trans _ _ ih1 ih2 =>
    intro m p
    obtain ⟨m1, h1, p1⟩ := ih2 p
    obtain ⟨m2, h2, p2⟩ := ih1 p1
    exact ⟨m2, h2.trans h1, p2⟩
/-! marks -/
theorem ents_append (part : Str) : ∀ (k : Nat) (a b : Rows), ents part k (a ++ b) = ents part k a ++ ents part (k + (bareR a).length) b
  | k, [], b => rfl
  | k, r :: a, b => by
    cases r <;> (first
      | (show _ :: ents part k (a ++ b) = _ :: ents part k a ++ ents part (k + (bareR a).length) b
         rw [ents_append part k a b]; rfl)
      | (show ents part (k + 1) (a ++ b) = ents part (k + 1) a ++ ents part (k + ((bareR a).length + 1)) b
         rw [ents_append part (k + 1) a b, Nat.add_assoc, Nat.add_comm 1]))
theorem ents_not {part : Str} {k : Nat} {r : Tr} (h : r.nm = true) : ents part k [r] = [] := by
  cases r <;> first | rfl | cases h
theorem entsP_append (a b : Prg) : entsP (a ++ b) = entsP a ++ entsP b := by
  unfold entsP
  rw [List.flatMap_append]
theorem entsP_perm {a b : Prg} (h : a.Perm b) : (entsP a).Perm (entsP b) := by
  unfold entsP
  exact h.flatMap_right _
theorem go_ckw {σ : L2.St} {H : Hp} {Q : VK} {r : List V → List V → Hp → VK → Prop} {t tk : TA} (q : t σ H fun vs H1 => tk σ H1 fun zs H2 => r vs zs H2 Q) : tCKw r t tk σ H Q := q
theorem go_dsetd {σ : L2.St} {H : Hp} {Q : VK} {td ty tx : TE} (q : td σ H fun x H1 => ∃ a, x = .ref a ∧ IsD H1 a ∧ ty σ H1 fun y H2 => tx σ H2 fun z H3 => ∃ (kvs : List (Key × V)) (k : Key), H3 a = some (.dK kvs) ∧ y = kV k ∧ kvs.length < sizeLine ∧
  (∀ v, valV kvs k = some v → Q v H3) ∧ (valV kvs k = none → Q z (upd H3 a (.dK (putK kvs k z))))) : tDSetd td ty tx σ H Q := q
/-- an entry of the dict of marks, the dict at D -/
def MkF (K : PySem.W.Frag) (H : Hp) (D : Addr) (kv : Key × V) (e : Ent) : Prop := kv.1 = .inr e.name ∧ ∃ l t, kv.2 = .ref l ∧ l ≠ D ∧ H l = some (.lst [.ref t]) ∧ SqT K H t [.bl e.strong, .str e.part, .int e.k]
theorem MkF.same {H H' : Hp} {D : Addr} {kv : Key × V} {e : Ent} (h : MkF K H D kv e) (s : Same H H') : MkF K H' D kv e := by
  obtain ⟨a, l, t, b, n, c, d⟩ := h
  exact ⟨a, l, t, b, n, s _ _ c, s.tup d⟩
theorem MkF.stay {H H' : Hp} {D : Addr} {kv : Key × V} {e : Ent} (h : MkF K H D kv e) (s : ∀ a o, a ≠ D → (∃ y, o = .lst [y]) → H a = some o → H' a = some o) (k : ∀ a o, (∃ xs, o = .tup xs ∨ ∃ u, o = .frz u (.tup xs)) → H a = some o → H' a = some o) : MkF K H' D kv e := by
  obtain ⟨a, l, t, b, n, c, d⟩ := h
  refine ⟨a, l, t, b, n, s _ _ n ⟨_, rfl⟩ c, ?_⟩
  rcases d with (d | ⟨o, d⟩) | d
  · exact .inl (.inl (k _ _ ⟨_, .inl rfl⟩ d))
  · exact .inl (.inr ⟨o, k _ _ ⟨_, .inr ⟨o, rfl⟩⟩ d⟩)
  · exact .inr d
def spMarks (K : PySem.W.Frag) (mg : Str → Option Value) : Sp := fun vs H Q _ => ∃ (l : Addr) (ys : List V) (R : Prg), vs = [.ref l] ∧ H l = some (.lst ys) ∧ Paired (PartO All K H mg) ys R ∧ Good R ∧
  ∀ D H' kvs es, H D = none → Same H H' → H' D = some (.dK kvs) → es.Perm (entsP R) → Paired (MkF K H' D) kvs es → Q (.ref D) H'
theorem new_name {R : Prg} (hn : (namesP R).Nodup) {i j : Nat} {p : Str × Rows} {z : Str} {s : Bool} (hp : R[i]? = some p) (hr : p.2[j]? = some (.mark z s)) : ∀ e ∈ entsP (R.take i) ++ ents p.1 0 (p.2.take j), e.name ≠ z := by
  intro e m en
  unfold namesP at hn
  have e1 : entsP R = (entsP (R.take i) ++ ents p.1 0 (p.2.take j)) ++ (⟨z, s, p.1, 0 + (bareR (p.2.take j)).length⟩ :: (ents p.1 (0 + (bareR (p.2.take j)).length) (p.2.drop (j + 1)) ++ entsP (R.drop (i + 1)))) := by
    conv => lhs; rw [split_at hp, entsP_append]
    show _ ++ (ents p.1 0 p.2 ++ entsP (R.drop (i + 1))) = _
    conv => lhs; rw [split_at hr, ents_append]
    show _ ++ ((_ ++ (_ :: _)) ++ _) = _
    simp only [List.append_assoc, List.cons_append]
  rw [e1, List.map_append, List.nodup_append] at hn
  exact hn.2.2 e.name (List.mem_map_of_mem m) z (by rw [List.map_cons]; exact List.mem_cons_self) en
theorem ents_len (part : Str) : ∀ (k : Nat) (rows : Rows), (ents part k rows).length ≤ rows.length
  | _, [] => Nat.le_refl _
  | k, r :: a => by
    have h1 := ents_len part k a
    have h2 := ents_len part (k + 1) a
    cases r <;> (show List.length _ ≤ a.length + 1) <;> first | exact Nat.succ_le_succ h1 | exact Nat.le_succ_of_le h2
theorem entsP_len : ∀ {R : Prg} {n : Nat}, (∀ p ∈ R, p.2.length ≤ n) → (entsP R).length ≤ n * R.length
  | [], _, _ => Nat.zero_le _
  | p :: R, n, h => by
    have ih := entsP_len (R := R) (n := n) fun q m => h q (List.mem_cons_of_mem _ m)
    show (ents p.1 0 p.2 ++ entsP R).length ≤ n * (R.length + 1)
    rw [List.length_append, Nat.mul_succ]
    have := ents_len p.1 0 p.2
    have := h p List.mem_cons_self
    omega
theorem keys_of {H : Hp} {D : Addr} : ∀ {kvs : List (Key × V)} {es : List Ent}, Paired (MkF K H D) kvs es → kvs.map (·.1) = es.map fun e => Sum.inr e.name
  | _, _, .nil => rfl
  | _, _, .cons r t => by rw [List.map_cons, List.map_cons, r.1, keys_of t]
theorem Good.perm {R R' : Prg} (h : R'.Perm R) (g : Good R) : Good R' :=
  ⟨by rw [h.length_eq]; exact g.lo, by rw [h.length_eq]; exact g.hi, (h.map _).nodup_iff.mpr g.nd, fun p m => g.pw p (h.mem_iff.mp m), fun p m => g.rows p (h.mem_iff.mp m), ((entsP_perm h).map _).nodup_iff.mpr g.mks⟩
abbrev smarks_in : Stmt := top 58
abbrev Nmarks_in : List Str := ["looked", "found", "part", "rows", "k", "row", "kind", "name", "strong"]
theorem scmarks_in : FnScope Nmarks_in ["looked"] (defScope smarks_in) := ⟨rfl, rfl, rfl, by decide +kernel, rfl, by decide +kernel, by decide +kernel⟩
theorem ok_marks_in (F : FnAt K mg "marks_in" smarks_in ["looked"]) (T : Txt K mg) (TC : Clss K mg) (Fp : FnAt K mg "part_name" spart_name ["part"]) : Cal P w K mg base CX0 2 "marks_in" ["looked"] (spMarks K mg) := by
  refine cal_mk F scmarks_in (fun vs H Q E h => ?_) (fun f cdv A outer s H vs Q E hr h => ?_)
  · obtain ⟨i, xs, R, rfl, _⟩ := h
    rfl
  · obtain ⟨l, ys, R, rfl, hl, hp, hg, q⟩ := h
    obtain ⟨fpn, fdpn, hmpn, Fpn, _⟩ := Fp
    have nd := scmarks_in.nd
    refine ⟨_, (pss_cons (ps_set (i := 1) nd rfl (Or.inl rfl) pe_dnewK)
      (pss_cons (ps_for PassesOwn.never rfl (pi_list (pe_callBK (cl_sortKey hr Fpn) (by rfl) T.n_sorted (by decide +kernel) (pa_cons (pv 0) pa_nil) (pk_cons (pe_glob (v := V.ref fpn) rfl hmpn rfl) pk_nil))) (pg_tup rfl (pgs_cons (pg_name (i := 2) nd rfl (Or.inl rfl)) (pgs_cons (pg_name (i := 3) nd rfl (Or.inl rfl)) pgs_nil))) (pss_cons (ps_set (i := 4) nd rfl (Or.inl rfl) pe_int)
      (pss_one (ps_for PassesOwn.never rfl (pi_list (pv 3)) (pg_name (i := 5) nd rfl (Or.inl rfl)) (pss_one (ps_if (pt_val (pe_callB (isiK (K := K) rfl) (by rfl) T.n_isinstance (by decide +kernel) (pa_cons (pv 5) (pa_cons (pe_glob (v := V.ref (CA mg "MarkRow")) rfl TC.g_MarkRow rfl) pa_nil)))) (pss_cons (ps_asg (pe_rw (fun r => ok_words TC T r) hr (by decide) (pv 5)) (pg_tup rfl (pgs_cons (pg_name (i := 6) nd rfl (Or.inl rfl)) (pgs_cons (pg_name (i := 7) nd rfl (Or.inl rfl)) (pgs_cons (pg_name (i := 8) nd rfl (Or.inl rfl)) pgs_nil)))))
      (pss_one (ps_expr (pe_bm PySem.F.plainAttrs_list PySem.F.slot_list_append PySem.F.type_list_append mt_append (pe_dsetd (pv 1) (pv 7) (pe_lst pa_nil) ⟨by rfl, by rfl, by rfl, by rfl⟩) (pa_cons (pe_tup (pa_cons (pv 8) (pa_cons (pv 2) (pa_cons (pv 4) pa_nil)))) pa_nil))))) (pss_one (ps_aug (i := 4) nd rfl (Or.inl rfl) pe_int ip_add))))))))
      (pss_one (ps_ret (pv 1))))), ?_⟩
    have hll : SqL K H l ys := .of hl
    have hk : ∃ k : V → Str, ∀ x ∈ ys, ∃ t u, x = V.ref t ∧ SqT K H t [.str (k x), u] := by
      have hc : ∀ x : V, ∃ z : Str, x ∈ ys → ∃ t u, x = V.ref t ∧ SqT K H t [.str z, u] := fun x => by
        by_cases m : x ∈ ys
        · obtain ⟨i, hi⟩ := List.getElem?_of_mem m
          obtain ⟨p, _, t, l2, xs2, e, ht, _⟩ := pAt hp hi
          exact ⟨p.1, fun _ => ⟨t, _, e, ht⟩⟩
        · exact ⟨"", fun h => absurd h m⟩
      exact ⟨fun x => (hc x).choose, fun x m => (hc x).choose_spec m⟩
    obtain ⟨k, hk⟩ := hk
    walk_at "h"
    intro D hD
    walk_at "h"
    refine go_ckw ?_
    walk_at "h"
    have s0 : Same H (upd H D (.dK [])) := Same.new hD
    refine ⟨l, ys, k, rfl, rfl, s0.seq hll, fun x m => ?_, fun us S hus _ hS => ?_⟩
    · obtain ⟨t, u, e, ht⟩ := hk x m
      exact ⟨t, u, e, s0.tup ht⟩
    obtain ⟨R', hR, hpR⟩ := pPerm hus hp
    have hg' := hg.perm hR
    have sS : Same (upd H D (.dK [])) (upd (upd H D (.dK [])) S (.lst us)) := Same.new hS
    have hSD : S ≠ D := fun e => by rw [e, upd_same] at hS; cases hS
    have hSH : H S = none := same_none s0 hS
    have hG : upd (upd H D (.dK [])) S (.lst us) S = some (.lst us) := upd_same
    have hGD : upd (upd H D (.dK [])) S (.lst us) D = some (.dK []) := sS _ _ upd_same
    have sG := s0.trans sS
    -- all but D and fresh lists stands
    let H0 : Hp := fun a => if a = D then none else upd (upd H D (.dK [])) S (.lst us) a
    have h0D : H0 D = none := if_pos rfl
    have h0s : ∀ {H2 : Hp}, Same H0 H2 → Same H H2 := fun s a o e => s a o (by
      show (if a = D then none else upd (upd H D (.dK [])) S (.lst us) a) = _
      rw [if_neg (ne_of_none e hD)]
      exact sG _ _ e)
    have h0S : H0 S = some (.lst us) := by
      show (if S = D then none else upd (upd H D (.dK [])) S (.lst us) S) = _
      rw [if_neg hSD]
      exact hG
    have hs0 : Same H0 (upd (upd H D (.dK [])) S (.lst us)) := fun a o e => by
      have e' : (if a = D then none else upd (upd H D (.dK [])) S (.lst us) a) = some o := e
      by_cases h : a = D
      · rw [if_pos h] at e'; cases e'
      · rw [if_neg h] at e'; exact e'
    have hpl := pLen hpR
    refine ⟨S, rfl, ⟨_, .of hG⟩, ?_⟩
    refine for_list (xs := us) (fun i σ H2 => ∃ (a b c d e f g : Option V) (kvs : List (Key × V)), σ = [some (.ref l), some (.ref D), a, b, c, d, e, f, g] ∧ Same H0 H2 ∧ H2 D = some (.dK kvs) ∧ Paired (MkF K H2 D) kvs (entsP (R'.take i)))
      ⟨none, none, none, none, none, none, none, [], rfl, hs0, hGD, .nil⟩ ?_ ?_ ?_
    · rintro i σ H2 _ ⟨a, b, c, d, e, f, g, kvs, rfl, s2, _⟩
      exact .of (s2 _ _ h0S)
    · rintro i x σ H2 hx ⟨a, b, c, d, e, f, g, kvs, rfl, s2, hd, hkv⟩
      obtain ⟨p, hp1, hv⟩ := pAt hpR hx
      have hgr := hg'.rows p (List.mem_of_getElem? hp1)
      obtain ⟨t, l2, xs2, rfl, ht0, hl20, _, hr20⟩ := hv
      have ht := (h0s s2).tup ht0
      have hl2 := (h0s s2) _ _ hl20
      have hi : i < R'.length := (List.getElem?_eq_some_iff.mp hp1).1
      have hll2 : SqL K H2 l2 xs2 := .of hl2
      have e2 := pLen hr20
      have e3 := hgr.hi
      walk_at "h"
      refine for_list (xs := xs2) (fun j σ H3 => ∃ (d e f g : Option V) (kvs : List (Key × V)), σ = [some (.ref l), some (.ref D), some (.str p.1), some (.ref l2), some (.int (bareR (p.2.take j)).length), d, e, f, g] ∧ Same H0 H3 ∧ H3 D = some (.dK kvs) ∧ Paired (MkF K H3 D) kvs (entsP (R'.take i) ++ ents p.1 0 (p.2.take j)))
        ⟨_, _, _, _, kvs, rfl, s2, hd, by rw [List.take_zero]; show Paired _ _ (_ ++ []); rw [List.append_nil]; exact hkv⟩ ?_ ?_ ?_
      · rintro j σ H3 _ ⟨d, e, f, g, kvs, rfl, s3, _⟩
        exact .of ((h0s s3) _ _ hl20)
      · rintro j x σ H3 hx3 ⟨d, e, f, g, kvs, rfl, s3, hd3, hkv3⟩
        obtain ⟨r, hr3, hv3⟩ := pAt hr20 hx3
        have hv4 := hv3.same (h0s s3)
        walk_at "h"
        refine go_isiOM TC hv4 ?_
        walk_at "h"
        refine ite2 (fun hn => ?_) (fun hn => ?_)
        · cases r <;> (try (cases hn; done))
          case mark z s =>
            walk_at "h"
            refine go_rw (.mark z s) ?_
            walk_at "h"
            refine at_words hv4 fun t4 H4 s4 ht4 => ?_
            have ht4 : SqT K H4 t4 [.str "mark", .str z, .bl s] := ht4
            have hd4 := s4 _ _ hd3
            walk_at "h"
            refine go_dsetd ?_
            walk_at "h"
            refine ⟨D, rfl, .inl ⟨_, .inl hd4⟩, ?_⟩
            walk_at "h"
            refine ⟨sz_of (by simp), fun l5 hl5 => ?_⟩
            have s5 : Same H4 (upd H4 l5 (.lst [])) := Same.new hl5
            have hd5 := s5 _ _ hd4
            have hnn := new_name hg'.mks hp1 hr3
            have hkl : kvs.length ≤ 60 * 4 := by
              rw [pLen hkv3, List.length_append]
              have z1 := entsP_len (R := R'.take i ++ [p]) (n := 60) (fun p' m => by
                rcases List.mem_append.mp m with m | m
                · exact (hg'.rows p' (List.mem_of_mem_take m)).hi
                · rw [List.mem_singleton.mp m]; exact e3)
              have z2 : (ents p.1 0 (p.2.take j)).length ≤ (ents p.1 0 p.2).length := by
                conv => rhs; rw [split_at hr3, ents_append, List.length_append]
                exact Nat.le_add_right _ _
              rw [entsP_append, List.length_append, List.length_append, List.length_take] at z1
              have z3 : (entsP [p]).length = (ents p.1 0 p.2).length := by show (ents p.1 0 p.2 ++ []).length = _; rw [List.append_nil]
              have z4 := hg'.hi
              simp only [List.length_cons, List.length_nil] at z1
              omega
            have hnew : valV kvs (.inr z) = none := valV_none fun kv m e6 => by
              have m1 : kv.1 ∈ kvs.map (·.1) := List.mem_map_of_mem m
              rw [keys_of hkv3, e6] at m1
              obtain ⟨e7, m2, e8⟩ := List.mem_map.mp m1
              exact hnn e7 m2 (Sum.inr.inj e8)
            refine ⟨kvs, .inr z, hd5, rfl, sz_lt (by omega), fun v hv => ?_, fun _ => ?_⟩
            · rw [hnew] at hv; cases hv
            rw [putK_new _ hnew]
            have hlD : l5 ≠ D := fun e6 => by rw [e6, hd4] at hl5; cases hl5
            have hl6 : upd (upd H4 l5 (.lst [])) D (.dK (kvs ++ [(Sum.inr z, V.ref l5)])) l5 = some (.lst []) := by rw [upd_ne hlD]; exact upd_same
            have h0l : H0 l5 = none := same_none s3 (same_none s4 hl5)
            refine ⟨go_tyL (.of hl6), ?_⟩
            walk_at "h"
            refine ⟨sz_of (by simp), fun t7 ht7 => ?_⟩
            have s7 := Same.new (o := .tup [V.bl s, .str p.1, .int (bareR (p.2.take j)).length]) ht7
            have htl : t7 ≠ l5 := fun e6 => by rw [e6, hl6] at ht7; cases ht7
            have htD : t7 ≠ D := fun e6 => by rw [e6, upd_same] at ht7; cases ht7
            have h4t : H4 t7 = none := by
              rw [upd_ne htD, upd_ne htl] at ht7
              exact ht7
            walk_at "h"
            refine go_append (s7 _ _ hl6) (by rw [sizeLine_eq]; decide) ?_
            have hH : ∀ a o, a ≠ D → H3 a = some o → upd (upd (upd (upd H4 l5 (.lst [])) D (.dK (kvs ++ [(Sum.inr z, V.ref l5)]))) t7 (.tup [V.bl s, .str p.1, .int (bareR (p.2.take j)).length])) l5 (.lst ([] ++ [V.ref t7])) a = some o := fun a o na h => by
              have h4 := s4 _ _ h
              rw [upd_ne (ne_of_none h4 hl5), upd_ne (ne_of_none h4 h4t), upd_ne na, upd_ne (ne_of_none h4 hl5)]
              exact h4
            refine ⟨some x, some (.str "mark"), some (.str z), some (.bl s), kvs ++ [(Sum.inr z, V.ref l5)], ?_, ?_, ?_, ?_⟩
            · have e9 : (bareR (p.2.take (j + 1))).length = (bareR (p.2.take j)).length := by
                rw [take_snoc hr3]
                unfold bareR
                rw [List.filter_append]
                show (_ ++ []).length = _
                rw [List.append_nil]
              rw [e9]
              rfl
            · exact ((((s3.trans s4).trans s5).mut h0D).trans s7).mut h0l
            · rw [upd_ne (fun e6 => hlD e6.symm), upd_ne (fun e6 => htD e6.symm)]
              exact upd_same
            · rw [take_snoc hr3, ents_append, ← List.append_assoc]
              refine pSnoc (pImp hkv3 fun kv e hF => hF.stay (fun a o na _ h => hH a o na h) (fun a o ho h => hH a o (fun e6 => by
                rw [e6, hd3] at h
                have h := Option.some.inj h
                obtain ⟨xs, z | ⟨u, z⟩⟩ := ho <;> (rw [z] at h; cases h)) h)) ?_
              refine ⟨rfl, l5, t7, rfl, hlD, upd_same, .inl (.inl ?_)⟩
              rw [upd_ne htl, Nat.zero_add]
              exact upd_same
        · have hn' : r.nm = true := by simpa using hn
          walk_at "h"
          have e9 : bareR (p.2.take (j + 1)) = bareR (p.2.take j) ++ [r] := by
            rw [take_snoc hr3]
            unfold bareR
            rw [List.filter_append, List.filter_cons_of_pos hn']
            rfl
          refine ⟨some x, e, f, g, kvs, ?_, s3, hd3, ?_⟩
          · rw [e9, List.length_append]
            rfl
          · rw [take_snoc hr3, ents_append, ents_not hn', List.append_nil]
            exact hkv3
      · rintro σ H3 ⟨d, e, f, g, kvs, rfl, s3, hd3, hkv3⟩
        refine ⟨_, _, _, _, _, _, _, kvs, rfl, s3, hd3, ?_⟩
        rw [take_snoc hp1, entsP_append]
        rw [e2, List.take_of_length_le (Nat.le_refl _)] at hkv3
        show Paired _ _ (_ ++ (_ ++ []))
        rw [List.append_nil]
        exact hkv3
    · rintro σ H2 ⟨a, b, c, d, e, f, g, kvs, rfl, s2, hd, hkv⟩
      walk_at "h"
      refine q D H2 kvs _ hD (h0s s2) hd ?_ hkv
      rw [hpl, List.take_of_length_le (Nat.le_refl _)]
      exact entsP_perm hR
end
end Fj
set_option maxHeartbeats 4000000
/-! standing_in -/
namespace Fj
open PySem PySem.Spec PyProof.Rows L2
open C8 (Met Mak InsC pe_mt0 pe_mk)
section
variable {P : Program} {w : World} {K : PySem.W.Frag} {mg : Str → Option Value} {base : Heap}
/-- the heap but for D -/
def less (G : Hp) (D : Addr) : Hp := fun a => if a = D then none else G a
theorem less_at {G : Hp} {D : Addr} : less G D D = none := if_pos rfl
theorem less_ne {G : Hp} {D a : Addr} (h : a ≠ D) : less G D a = G a := if_neg h
theorem less_same {G : Hp} {D : Addr} : Same (less G D) G := fun a o e => by
  by_cases h : a = D
  · rw [h, less_at] at e; cases e
  · rw [less_ne h] at e; exact e
theorem less_of {H G H2 : Hp} {D : Addr} (s : Same H G) (hD : H D = none) (s2 : Same (less G D) H2) : Same H H2 := fun a o e => s2 a o (by rw [less_ne (ne_of_none e hD)]; exact s a o e)
theorem valV_at {F : V → Ent → Prop} {e : Ent} : ∀ {kvs : List (Key × V)} {es : List Ent}, Paired (fun kv e => kv.1 = Sum.inr e.name ∧ F kv.2 e) kvs es → (es.map Ent.name).Nodup → e ∈ es → ∃ v, valV kvs (.inr e.name) = some v ∧ F v e
  | _, _, .nil, _, m => (nomatch m)
  | _, _, .cons (a := kv) (b := e') (l₁ := kvs) (l₂ := es) r t, nd, m => by
    rw [List.map_cons, List.nodup_cons] at nd
    by_cases h : e'.name = e.name
    · rcases List.mem_cons.mp m with rfl | m
      · refine ⟨kv.2, ?_, r.2⟩
        unfold valV
        rw [List.find?_cons_of_pos (by rw [decide_eq_true_eq]; exact r.1)]
        rfl
      · exact absurd (h ▸ List.mem_map_of_mem m) nd.1
    · rcases List.mem_cons.mp m with rfl | m
      · exact absurd rfl h
      · obtain ⟨v, h1, h2⟩ := valV_at t nd.2 m
        refine ⟨v, ?_, h2⟩
        rw [← h1]
        unfold valV
        rw [List.find?_cons_of_neg (by rw [decide_eq_true_eq, r.1]; exact fun z => h (Sum.inr.inj z))]
theorem keys_gen {F : V → Ent → Prop} : ∀ {kvs : List (Key × V)} {es : List Ent}, Paired (fun kv e => kv.1 = Sum.inr e.name ∧ F kv.2 e) kvs es → kvs.map (·.1) = es.map fun e => Sum.inr e.name
  | _, _, .nil => rfl
  | _, _, .cons r t => by rw [List.map_cons, List.map_cons, r.1, keys_gen t]
/-- an entry of what stands -/
def StF (K : PySem.W.Frag) (H : Hp) (kv : Key × V) (e : Ent) : Prop := kv.1 = Sum.inr e.name ∧ ∃ t, kv.2 = .ref t ∧ SqT K H t [.str e.part, .int e.k]
theorem StF.same {H H' : Hp} {kv : Key × V} {e : Ent} (h : StF K H kv e) (s : Same H H') : StF K H' kv e := by
  obtain ⟨a, t, b, c⟩ := h
  exact ⟨a, t, b, s.tup c⟩
theorem SqT.butD {D t : Addr} {H H' : Hp} {kvs : List (Key × V)} {xs : List V} (hD : H D = some (.dK kvs)) (b : But D H H') (h : SqT K H t xs) : SqT K H' t xs := SqT.keep (KeepsI.butD (W := All) (W' := All) b hD fun _ z => z).toKeeps h
theorem StF.butD {D : Addr} {H H' : Hp} {kvs : List (Key × V)} {kv : Key × V} {e : Ent} (hD : H D = some (.dK kvs)) (b : But D H H') (h : StF K H kv e) : StF K H' kv e := by
  obtain ⟨a, t, c, d⟩ := h
  exact ⟨a, t, c, SqT.butD hD b d⟩
abbrev sstanding_in : Stmt := top 60
abbrev Nstanding_in : List Str := ["looked", "found", "marks", "name", "mark", "strong", "parts", "first"]
theorem scstanding_in : FnScope Nstanding_in ["looked"] (defScope sstanding_in) := ⟨rfl, rfl, rfl, by decide +kernel, rfl, by decide +kernel, by decide +kernel⟩
def spStand (K : PySem.W.Frag) (mg : Str → Option Value) : Sp := fun vs H Q _ => ∃ (l : Addr) (ys : List V) (R : Prg), vs = [.ref l] ∧ H l = some (.lst ys) ∧ Paired (PartO All K H mg) ys R ∧ Good R ∧
  ∀ D H' kvs es, H D = none → Same H H' → H' D = some (.dK kvs) → es.Perm (entsP R) → Paired (StF K H') kvs es → Q (.ref D) H'
theorem ok_standing_in (F : FnAt K mg "standing_in" sstanding_in ["looked"]) (T : Txt K mg) (G_marks_in : Cal P w K mg base CX0 2 "marks_in" ["looked"] (spMarks K mg)) : Cal P w K mg base CX0 3 "standing_in" ["looked"] (spStand K mg) := by
  refine cal_mk F scstanding_in (fun vs H Q E h => ?_) (fun f cdv A outer s H vs Q E hr h => ?_)
  · obtain ⟨i, xs, R, rfl, _⟩ := h
    rfl
  · obtain ⟨l, ys, R, rfl, hl, hp, hg, q⟩ := h
    have hu := hu_of hr
    have nd := scstanding_in.nd
    refine ⟨_, (pss_cons (ps_set (i := 1) nd rfl (Or.inl rfl) pe_dnewK)
      (pss_cons (ps_set (i := 2) nd rfl (Or.inl rfl) (pe_cal G_marks_in hr (by decide) rfl pass0 (pa_cons (pv 0) pa_nil)))
      (pss_cons (ps_for PassesOwn.never rfl (pi_list (pe_callB (cl_sortDA rfl) (by rfl) T.n_sorted (by decide +kernel) (pa_cons (pv 2) pa_nil))) (pg_name (i := 3) nd rfl (Or.inl rfl)) (pss_cons (ps_setLc (i := 5) (own := [("mark", 4)]) (g := gName 4) (by rfl) nd rfl rfl (sw_true rfl rfl rfl (by decide +kernel)) (pi_list (pe_dget hu (pv 2) (pv 3) (fun _ _ => rfl))) (blkOk_by (N := Nstanding_in) (sc := (defScope sstanding_in)) (by decide +kernel)) (fun _ _ _ _ _ => (pg_name (i := 4) nd rfl (Or.inl rfl))) (fun _ _ _ _ _ => (pts_one (pt_val (pe_ix (ixtK (K := K) rfl) (pv 4) pe_int (fun _ _ => rfl))))) (fun _ _ _ _ _ => (pv 4)))
      (pss_cons (ps_if (pt_cmpR op_gt (pe_callB (lenK (K := K) rfl) (by rfl) T.n_len (by decide +kernel) (pa_cons (pv 5) pa_nil)) pe_int (nomark _)) pss_never pss_nil)
      (pss_cons (ps_set (i := 7) nd rfl (Or.inl rfl) (pe_ix (ixlK (K := K) rfl) (pe_op op_cat (pv 5) (pe_dget hu (pv 2) (pv 3) (fun _ _ => rfl))) pe_int (fun _ _ => rfl)))
      (pss_one (ps_dput hu (pv 1) (pv 3) (pe_slice (sltK (K := K) rfl) (pv 7) (po_some pe_int) po_none) rfl))))))
      (pss_one (ps_ret (pv 1)))))), ?_⟩
    walk_at "h"
    intro D hD
    have s0 : Same H (upd H D (.dK [])) := Same.new hD
    walk_at "h"
    refine ⟨l, ys, R, rfl, s0 _ _ hl, pImp hp fun _ _ z => z.same s0, hg, fun M H1 kvsM es hM s1 hM1 hes hmk => ?_⟩
    have hnd : (es.map Ent.name).Nodup := (hes.map Ent.name).nodup_iff.mpr hg.mks
    have hlen : es.length ≤ 240 := by
      rw [hes.length_eq]
      have z1 := entsP_len (R := R) (n := 60) fun p m => (hg.rows p m).hi
      have z2 := hg.hi
      omega
    walk_at "h"
    refine ⟨M, kvsM, es.map Ent.name, rfl, .inl hM1, by rw [keys_of hmk, List.map_map]; rfl, fun ns S hns _ hS => ?_⟩
    obtain ⟨es', hes', hpn⟩ : ∃ es' : List Ent, es'.Perm es ∧ Paired (fun n (e : Ent) => n = e.name) ns es' := pPerm hns (by
      clear hns hlen hes hmk hnd
      induction es with
      | nil => exact .nil
      | cons e es ih => exact .cons rfl ih)
    have hnd' : (es'.map Ent.name).Nodup := (hes'.map Ent.name).nodup_iff.mpr hnd
    have hlen' : es'.length ≤ 240 := by rw [hes'.length_eq]; exact hlen
    have sS : Same H1 (upd H1 S (.lst (ns.map V.str))) := Same.new hS
    have hD1 : H1 D = some (.dK []) := s1 _ _ upd_same
    have hG : upd H1 S (.lst (ns.map V.str)) S = some (.lst (ns.map V.str)) := upd_same
    have sG : Same H (upd H1 S (.lst (ns.map V.str))) := s0.trans (s1.trans sS)
    have hDS := sS _ _ hD1
    have hMS := sS _ _ hM1
    have hmk1 : Paired (MkF K (upd H1 S (.lst (ns.map V.str))) M) kvsM es := pImp hmk fun _ _ z => z.same sS
    generalize upd H1 S (.lst (ns.map V.str)) = G at *
    have hSD : S ≠ D := fun e => by rw [e, hDS] at hG; cases hG
    have hMD : M ≠ D := fun e => by rw [e, upd_same] at hM; cases hM
    have h0S : less G D S = some (.lst (ns.map V.str)) := by rw [less_ne hSD]; exact hG
    have h0M : less G D M = some (.dK kvsM) := by rw [less_ne hMD]; exact hMS
    refine ⟨S, rfl, ⟨_, .of hG⟩, ?_⟩
    refine for_list (xs := ns.map V.str) (fun i σ H2 => ∃ (a b c d e : Option V) (kvs : List (Key × V)), σ = [some (.ref l), some (.ref D), some (.ref M), a, b, c, d, e] ∧ Same (less G D) H2 ∧ H2 D = some (.dK kvs) ∧ Paired (StF K H2) kvs (es'.take i))
      ⟨none, none, none, none, none, [], rfl, less_same, hDS, .nil⟩ ?_ ?_ ?_
    · rintro i σ H2 _ ⟨a, b, c, d, e, kvs, rfl, s2, _⟩
      exact .of (s2 _ _ h0S)
    · rintro i x σ H2 hx ⟨a, b, c, d, e, kvs, rfl, s2, hd, hkv⟩
      rw [List.getElem?_map] at hx
      obtain ⟨z, hz, rfl⟩ := Option.map_eq_some_iff.mp hx
      obtain ⟨en, hen, rfl⟩ := pAt hpn hz
      have hmem : en ∈ es := hes'.mem_iff.mp (List.mem_of_getElem? hen)
      obtain ⟨v, hv, l4, t4, rfl, hlM, hl4, ht4⟩ := valV_at (F := fun v e => ∃ l t, v = .ref l ∧ l ≠ M ∧ G l = some (.lst [.ref t]) ∧ SqT K G t [.bl e.strong, .str e.part, .int e.k]) hmk1 hnd hmem
      have hi : i < es'.length := (List.getElem?_eq_some_iff.mp hen).1
      have hM2 := s2 _ _ h0M
      have hlD : l4 ≠ D := fun e => by rw [e, hDS] at hl4; cases hl4
      have hl42 : H2 l4 = some (.lst [.ref t4]) := s2 _ _ (by rw [less_ne hlD]; exact hl4)
      have ht42 : SqT K H2 t4 [.bl en.strong, .str en.part, .int en.k] := by
        refine s2.tup ?_
        rcases ht4 with (h | ⟨o, h⟩) | h
        · exact .inl (.inl (by rw [less_ne (fun e => by rw [e, hDS] at h; cases h)]; exact h))
        · exact .inl (.inr ⟨o, by rw [less_ne (fun e => by rw [e, hDS] at h; cases h)]; exact h⟩)
        · exact .inr h
      walk_at "h"
      refine ⟨M, _, rfl, by have := DGet.k (k := .inr en.name) hM2; rw [hv] at this; exact this, ?_⟩
      refine ⟨l4, rfl, ⟨_, .of hl42⟩, ?_⟩
      intro D5 hD5
      refine lc_genL [en] Ent.strong (fun y _ _ => y = .ref t4) (fun _ _ _ _ _ _ _ r => r) (.of hl42) rfl (by simp) hD5 ?_ ?_
      · intro j x3 p3 H3 hx3 hp3 s3 _ NY NN ny nn
        have e3 : x3 = .ref t4 := by
          cases j with
          | zero => exact (Option.some.inj hx3).symm
          | succ j => cases hx3
        have e4 : p3 = en := by
          cases j with
          | zero => exact (Option.some.inj hp3).symm
          | succ j => cases hp3
        subst e3 e4
        have ht43 := s3.tup ht42
        walk_at "h"
        refine ⟨rfl, ?_⟩
        walk_at "h"
        refine ite2 (fun hi => ?_) (fun hi => ?_)
        · walk_at "h"
          exact ny _ _ hi (Same.refl _) rfl
        · exact nn _ (by rw [Bool.not_eq_true] at hi; exact hi) (Same.refl _)
      · intro H3 acc s3 hacc hp3
        have hal : acc.length ≤ 1 := by
          rw [pLen hp3]
          exact List.length_filter_le _ _
        have hat : (acc ++ [V.ref t4])[0]? = some (.ref t4) := by
          cases acc with
          | nil => rfl
          | cons y ys =>
            cases hf : [en].filter Ent.strong with
            | nil => rw [hf] at hp3; cases hp3
            | cons u us =>
              rw [hf] at hp3
              cases hp3 with
              | cons r _ => rw [r]; rfl
        have hacc' : SqL K H3 D5 acc := .of hacc
        walk_at "h"
        have hM3 := s3 _ _ hM2
        refine ⟨M, _, rfl, by have := DGet.k (k := .inr en.name) hM3; rw [hv] at this; exact this, ?_⟩
        refine go_cat hacc (s3 _ _ hl42) (sz_of (by simp; omega)) fun p6 hp6 => ?_
        have s6 := Same.new (o := .lst (acc ++ [V.ref t4])) hp6
        walk_at "h"
        refine go_ixL (.of upd_same) (atI_nat (j := 0) hat) ?_
        walk_at "h"
        have ht46 := (s3.trans s6).tup ht42
        refine ⟨t4, _, rfl, ht46, (by show ¬ (HT.sIx 3 0 (some 1) = 0 ∧ HT.sIx 3 3 none = 3); decide +kernel), fun p7 hp7 => ?_⟩
        have s7 := Same.new (o := .tup (cutV [.bl en.strong, .str en.part, .int en.k] (some 1) none)) hp7
        have hd7 := (s3.trans (s6.trans s7)) _ _ hd
        walk_at "h"
        have hkl : kvs.length ≤ 240 := by
          rw [pLen hkv, List.length_take]
          omega
        have hnew : valV kvs (.inr en.name) = none := valV_none fun kv m e6 => by
          have m1 : kv.1 ∈ kvs.map (·.1) := List.mem_map_of_mem m
          rw [keys_gen (F := fun v e => ∃ t, v = .ref t ∧ SqT K H2 t [.str e.part, .int e.k]) hkv, e6] at m1
          obtain ⟨e7, m2, e8⟩ := List.mem_map.mp m1
          exact nodup_take hnd' hen e7 m2 (Sum.inr.inj e8)
        refine ⟨D, _, rfl, DPut.k (k := .inr en.name) hd7 (sz_lt (by omega)), ?_⟩
        rw [putK_new _ hnew]
        walk_at "h"
        refine ⟨_, _, _, _, _, _, rfl, (s2.trans (s3.trans (s6.trans s7))).mut less_at, upd_same, ?_⟩
        rw [take_snoc hen]
        refine pSnoc (pImp hkv fun _ _ z => (z.same (s3.trans (s6.trans s7))).butD hd7 But.upd) ⟨rfl, p7, rfl, SqT.butD hd7 But.upd (.of upd_same)⟩
    · rintro σ H2 ⟨a, b, c, d, e, kvs, rfl, s2, hd, hkv⟩
      walk_at "h"
      refine q D H2 kvs _ hD (less_of sG hD s2) hd (hes'.trans hes) ?_
      rw [List.length_map, pLen hpn, List.take_of_length_le (Nat.le_refl _)] at hkv
      exact hkv
end
end Fj
set_option maxHeartbeats 4000000
/-! Lacking, WrongAim: how they are made -/
namespace Fj
open PySem PySem.Spec PyProof.Rows L2
open C8 (Met Mak InsC pe_mt0 pe_mk)
abbrev sLacking___init : Stmt := inClass (top 7) 0
abbrev NLacking___init : List Str := ["self", "name", "part", "row"]
theorem scLacking___init : FnScope NLacking___init ["self", "name", "part", "row"] (defScope sLacking___init) := ⟨rfl, rfl, rfl, by decide +kernel, rfl, by decide +kernel, by decide +kernel⟩
abbrev sWrongAim___init : Stmt := inClass (top 8) 0
abbrev NWrongAim___init : List Str := ["self", "name", "part", "row"]
theorem scWrongAim___init : FnScope NWrongAim___init ["self", "name", "part", "row"] (defScope sWrongAim___init) := ⟨rfl, rfl, rfl, by decide +kernel, rfl, by decide +kernel, by decide +kernel⟩
/-- an own error's class -/
structure ErrC (K : PySem.W.Frag) (mg : Str → Option Value) (x q : Str) (st : Stmt) : Prop where
  g : mg x = some (.ref (CA mg x))
  exc : OexC K (CA mg x)
  init : ∃ f fd, PySem.W.findIn K (.ref (CA mg x)) "__init__" = some (some (.ref f)) ∧ PySem.W.typeIn K (.ref f) = some (.type "function") ∧ Fun K "__init__" q st f fd ∧ Binds K fd ["self", "name", "part", "row"] []
  f1 : PySem.W.findIn K (.ref (CA mg x)) "name" = some none
  f2 : PySem.W.findIn K (.ref (CA mg x)) "part" = some none
  f3 : PySem.W.findIn K (.ref (CA mg x)) "row" = some none
section
variable {P : Program} {w : World} {K : PySem.W.Frag} {mg : Str → Option Value} {base : Heap}
def errF (z p : Str) (k : Int) : List (Str × V) := [("row", .int k), ("part", .str p), ("name", .str z)]
def spErrI (C : Addr) : Sp := fun vs H Q _ => ∃ (a : Addr) (z p : Str) (k : Int), vs = [.ref a, .str z, .str p, .int k] ∧ H a = some (exo a C none) ∧
  ∀ d H2, H d = none → d ≠ a → H2 a = some (exo a C (some d)) → H2 d = some (exd d (errF z p k)) → (∀ b, b ≠ a → b ≠ d → H2 b = H b) → Q .non H2
theorem go_vei {σ : L2.St} {H : Hp} {Q : VK} {ta : TA} (q : ta σ H fun vs H1 => ∃ (a C : Addr) (ws : List V), vs = .ref a :: ws ∧ ws.length ≤ 1000 ∧ OexC K C ∧ H1 a = some (exo a C none) ∧ Q .non H1) : tVeI K ta σ H Q := q
theorem go_ost {σ : L2.St} {H : Hp} {D : Ends} {f : Str} {to te : TE} (q : te σ H fun y H1 => to σ H1 fun x H2 => ∃ a C : Addr, x = .ref a ∧ OexC K C ∧ PySem.W.findIn K (.ref C) f = some none ∧
  ((H2 a = some (exo a C none) ∧ ∀ dx, H2 dx = none → dx ≠ a → D.nx σ (upd (upd H2 dx (exd dx [(f, y)])) a (exo a C (some dx)))) ∨
    ∃ (dx : Addr) (fs : List (Str × V)), H2 a = some (exo a C (some dx)) ∧ H2 dx = some (exd dx fs) ∧ fs.length ≤ 900 ∧ D.nx σ (upd H2 dx (exd dx ((f, y) :: fs))))) : tOst K f to te D σ H := q
theorem err_walk {x q : Str} {st : Stmt} {m : Str} (T : ErrC K mg x q st) {a : Addr} {z p : Str} {k : Int} {H : Hp} {Q : VK} (ha : H a = some (exo a (CA mg x) none))
    (hq : ∀ d H2, H d = none → d ≠ a → H2 a = some (exo a (CA mg x) (some d)) → H2 d = some (exd d (errF z p k)) → (∀ b, b ≠ a → b ≠ d → H2 b = H b) → Q .non H2) :
    tSeq (tDrop (tVeI K (tCons (tVar 0) (tCons (tC (.str m)) tNil)))) (tSeq (tOst K "name" (tVar 0) (tVar 1)) (tSeq (tOst K "part" (tVar 0) (tVar 2)) (tSeq (tOst K "row" (tVar 0) (tVar 3)) tNext))) { nx := fun _ H' => Q .non H', rt := Q } (start ["self", "name", "part", "row"] [.ref a, .str z, .str p, .int k]) H := by
  walk_at "h"
  refine go_vei ?_
  walk_at "h"
  refine ⟨a, CA mg x, [.str m], rfl, by simp, T.exc, ha, ?_⟩
  walk_at "h"
  refine go_ost ?_
  walk_at "h"
  refine ⟨a, CA mg x, rfl, T.exc, T.f1, .inl ⟨ha, fun d hd ne => ?_⟩⟩
  have h1 : upd (upd H d (exd d [(Str.ofString "name", V.str z)])) a (exo a (CA mg x) (some d)) a = some (exo a (CA mg x) (some d)) := upd_same
  have h2 : upd (upd H d (exd d [(Str.ofString "name", V.str z)])) a (exo a (CA mg x) (some d)) d = some (exd d [(Str.ofString "name", V.str z)]) := by rw [upd_ne ne]; exact upd_same
  have h3 : ∀ b, b ≠ a → b ≠ d → upd (upd H d (exd d [(Str.ofString "name", V.str z)])) a (exo a (CA mg x) (some d)) b = H b := fun b n1 n2 => by rw [upd_ne n1, upd_ne n2]
  generalize upd (upd H d (exd d [(Str.ofString "name", V.str z)])) a (exo a (CA mg x) (some d)) = H1 at *
  walk_at "h"
  refine go_ost ?_
  walk_at "h"
  refine ⟨a, CA mg x, rfl, T.exc, T.f2, .inr ⟨d, _, h1, h2, by simp, ?_⟩⟩
  have g1 : upd H1 d (exd d [(Str.ofString "part", V.str p), (Str.ofString "name", V.str z)]) a = some (exo a (CA mg x) (some d)) := by rw [upd_ne (fun e => ne e.symm)]; exact h1
  walk_at "h"
  refine go_ost ?_
  walk_at "h"
  refine ⟨a, CA mg x, rfl, T.exc, T.f3, .inr ⟨d, _, g1, upd_same, by simp, ?_⟩⟩
  walk_at "h"
  refine hq d _ hd ne ?_ upd_same fun b n1 n2 => ?_
  · rw [upd_upd, upd_ne (fun e => ne e.symm)]
    exact h1
  · rw [upd_upd, upd_ne n2]
    exact h3 b n1 n2
theorem ok_Lacking {f : Addr} {fd : FuncData} (F : Fun K "__init__" "Lacking.__init__" sLacking___init f fd) (T : ErrC K mg "Lacking" "Lacking.__init__" sLacking___init) (BE : BaseE K mg (CA mg "PartError")) : FnOk P w K mg base CX0 1 f fd ["self", "name", "part", "row"] (spErrI (CA mg "Lacking")) := by
  refine F.ok scLacking___init (fun vs H Q E h => ?_) (fun cdv A outer s H vs Q E hr h => ?_)
  · obtain ⟨a, z, p, k, rfl, _⟩ := h
    rfl
  · obtain ⟨a, z, p, k, rfl, ha, q⟩ := h
    exact ⟨_, pss_cons (ps_expr (pe_peinit rfl BE (pa_cons (pv 0) (pa_cons pe_str pa_nil)))) (pss_cons (ps_ost (pv 0) (pv 1)) (pss_cons (ps_ost (pv 0) (pv 2)) (pss_cons (ps_ost (pv 0) (pv 3)) pss_nil))), err_walk T ha q⟩
theorem ok_WrongAim {f : Addr} {fd : FuncData} (F : Fun K "__init__" "WrongAim.__init__" sWrongAim___init f fd) (T : ErrC K mg "WrongAim" "WrongAim.__init__" sWrongAim___init) (BE : BaseE K mg (CA mg "PartError")) : FnOk P w K mg base CX0 1 f fd ["self", "name", "part", "row"] (spErrI (CA mg "WrongAim")) := by
  refine F.ok scWrongAim___init (fun vs H Q E h => ?_) (fun cdv A outer s H vs Q E hr h => ?_)
  · obtain ⟨a, z, p, k, rfl, _⟩ := h
    rfl
  · obtain ⟨a, z, p, k, rfl, ha, q⟩ := h
    exact ⟨_, pss_cons (ps_expr (pe_peinit rfl BE (pa_cons (pv 0) (pa_cons pe_str pa_nil)))) (pss_cons (ps_ost (pv 0) (pv 1)) (pss_cons (ps_ost (pv 0) (pv 2)) (pss_cons (ps_ost (pv 0) (pv 3)) pss_nil))), err_walk T ha q⟩
end
end Fj
set_option maxHeartbeats 4000000
/-! checked_aims -/
namespace Fj
open PySem PySem.Spec PyProof.Rows L2
open C8 (Met Mak InsC pe_mt0 pe_mk)
section
variable {P : Program} {w : World} {K : PySem.W.Frag} {mg : Str → Option Value} {base : Heap}
theorem for_enum {a : Addr} {xs : List V} {g : TG} {tb : TS} {D : Ends} {σ : L2.St} {H : Hp} (Pv : Nat → L2.St → Hp → Prop) (h0 : Pv 0 σ H) (hl : ∀ i σ H, i ≤ xs.length → Pv i σ H → SqL K H a xs)
    (hs : ∀ i x σ H T, xs[i]? = some x → Pv i σ H → H T = none → g (.ref T) σ (upd H T (.tup [.int (i : Nat), x])) fun σ2 H2 => tb { D with nx := Pv (i + 1), ct := Pv (i + 1), bk := D.nx } σ2 H2) (hd : ∀ σ H, Pv xs.length σ H → D.nx σ H) :
    ∃ W : Nat → Nat → L2.St → Hp → Prop, (∃ m, W 0 m σ H) ∧ ∀ i m σ H, W i m σ H →
      ((Ite K a).stop i H ∧ D.nx σ H) ∨ ((Ite K a).go i H ∧ ∃ N : L2.St → Hp → Prop, (∀ σ' H', N σ' H' → ∃ m', m' < m ∧ W (i + 1) m' σ' H') ∧ ∀ x H', (Ite K a).yld i H x H' → g x σ H' fun σ2 H2 => tb { D with nx := N, ct := N, bk := D.nx } σ2 H2) := by
  refine ⟨fun i m σ H => m = xs.length - i ∧ i ≤ xs.length ∧ Pv i σ H, ⟨xs.length, by simp, Nat.zero_le _, h0⟩, ?_⟩
  rintro i m σ H ⟨rfl, hi, p⟩
  have q := hl i σ H hi p
  by_cases hlt : i < xs.length
  · refine .inr ⟨⟨xs, xs[i], q, by simp [hlt]⟩, Pv (i + 1), fun σ' H' p' => ⟨xs.length - (i + 1), by omega, rfl, hlt, p'⟩, fun x H' y => ?_⟩
    obtain ⟨T, x, rfl, hT, rfl, y⟩ := y
    exact hs i x σ _ T (y xs q) p hT
  · have e : i = xs.length := by omega
    subst e
    exact .inl ⟨⟨xs, q, Nat.le_refl _⟩, hd σ H p⟩
theorem dueRows_append (R : Prg) (part : Str) : ∀ (k : Nat) (a b : Rows), dueRows R part k (a ++ b) = (dueRows R part k a).or (dueRows R part (k + a.length) b)
  | k, [], b => by
    show dueRows R part k b = _
    rfl
  | k, r :: a, b => by
    show (dueR R part k r).or (dueRows R part (k + 1) (a ++ b)) = ((dueR R part k r).or (dueRows R part (k + 1) a)).or (dueRows R part (k + (a.length + 1)) b)
    rw [dueRows_append R part (k + 1) a b, Option.or_assoc, Nat.add_assoc, Nat.add_comm 1]
/-- what is due at a place is due, if nothing before is -/
theorem dueRows_at {R : Prg} {part : Str} {rows : Rows} {j : Nat} {r : Tr} {u : Due} (h : rows[j]? = some r) (hb : dueRows R part 0 (rows.take j) = none) (hu : dueR R part j r = some u) : dueRows R part 0 rows = some u := by
  have hl : j < rows.length := (List.getElem?_eq_some_iff.mp h).1
  rw [split_at h, dueRows_append, hb, List.length_take, Nat.min_eq_left (Nat.le_of_lt hl), Nat.zero_add]
  show Option.or none ((dueR R part j r).or _) = _
  rw [hu]
  rfl
theorem dueRows_snoc {R : Prg} {part : Str} {rows : Rows} {j : Nat} {r : Tr} (h : rows[j]? = some r) (hb : dueRows R part 0 (rows.take j) = none) (hu : dueR R part j r = none) : dueRows R part 0 (rows.take (j + 1)) = none := by
  have hl : j < rows.length := (List.getElem?_eq_some_iff.mp h).1
  rw [take_snoc h, dueRows_append, hb, List.length_take, Nat.min_eq_left (Nat.le_of_lt hl), Nat.zero_add]
  show Option.or none ((dueR R part j r).or none) = _
  rw [hu]
  rfl
theorem some_at {α β : Type} {f : α → Option β} {l : List α} {i : Nat} {x : α} {u : β} (h : l[i]? = some x) (hb : (l.take i).findSome? f = none) (hu : f x = some u) : l.findSome? f = some u := by
  rw [split_at h, List.findSome?_append, hb, List.findSome?_cons, hu]
  rfl
theorem none_snoc {α β : Type} {f : α → Option β} {l : List α} {i : Nat} {x : α} (h : l[i]? = some x) (hb : (l.take i).findSome? f = none) (hu : f x = none) : (l.take (i + 1)).findSome? f = none := by
  rw [take_snoc h, List.findSome?_append, hb, List.findSome?_cons, hu]
  rfl
/-- what stands, as a dict -/
def StD (K : PySem.W.Frag) (H : Hp) (z : Addr) (R : Prg) : Prop := ∃ kvs es, H z = some (.dK kvs) ∧ es.Perm (entsP R) ∧ Paired (StF K H) kvs es
theorem StD.same {H H' : Hp} {z : Addr} {R : Prg} (h : StD K H z R) (s : Same H H') : StD K H' z R := by
  obtain ⟨kvs, es, a, b, c⟩ := h
  exact ⟨kvs, es, s _ _ a, b, pImp c fun _ _ q => q.same s⟩
theorem find_none_iff {es : List Ent} {z : Str} : (es.find? fun e => decide (e.name = z)) = none ↔ ∀ e ∈ es, e.name ≠ z := by
  rw [List.find?_eq_none]
  exact ⟨fun h e m => by simpa using h e m, fun h e m => by simpa using h e m⟩
/-- what is asked of it -/
theorem StD.get {H : Hp} {z : Addr} {R : Prg} (h : StD K H z R) (nd : (namesP R).Nodup) (x : Str) : ∃ o, DGet H z (.str x) o ∧ match lkE R x with
    | none => o = none
    | some e => ∃ t, o = some (.ref t) ∧ SqT K H t [.str e.part, .int e.k] := by
  obtain ⟨kvs, es, a, b, c⟩ := h
  refine ⟨_, DGet.k (k := .inr x) a, ?_⟩
  cases hl : lkE R x with
  | none =>
    have h1 := find_none_iff.mp hl
    refine valV_none fun kv m e => ?_
    have m1 : kv.1 ∈ kvs.map (·.1) := List.mem_map_of_mem m
    rw [keys_gen (F := fun v e => ∃ t, v = .ref t ∧ SqT K H t [.str e.part, .int e.k]) c, e] at m1
    obtain ⟨e7, m2, e8⟩ := List.mem_map.mp m1
    exact h1 e7 (b.mem_iff.mp m2) (Sum.inr.inj e8)
  | some e =>
    have h1 : e.name = x := by simpa using List.find?_some hl
    have h2 : e ∈ es := b.mem_iff.mpr (List.mem_of_find?_eq_some hl)
    have nd' : (es.map Ent.name).Nodup := (b.map Ent.name).nodup_iff.mpr nd
    obtain ⟨v, hv, t, rfl, ht⟩ := valV_at (F := fun v e => ∃ t, v = .ref t ∧ SqT K H t [.str e.part, .int e.k]) c nd' h2
    rw [h1] at hv
    exact ⟨t, hv, ht⟩
/-- a dict from the parts' names to their rows -/
def BrF (K : PySem.W.Frag) (H : Hp) (mg : Str → Option Value) (kv : Key × V) (p : Str × Rows) : Prop := kv.1 = Sum.inr p.1 ∧ ∃ b bs, kv.2 = .ref b ∧ H b = some (.lst bs) ∧ Paired (ObjV All K H mg) bs (bareR p.2)
theorem BrF.same {H H' : Hp} {kv : Key × V} {p : Str × Rows} (h : BrF K H mg kv p) (s : Same H H') : BrF K H' mg kv p := by
  obtain ⟨a, b, bs, c, d, e⟩ := h
  exact ⟨a, b, bs, c, s _ _ d, pImp e fun _ _ z => z.same s⟩
theorem BrF.butD {D : Addr} {H H' : Hp} {kvs : List (Key × V)} {kv : Key × V} {p : Str × Rows} (hD : H D = some (.dK kvs)) (b : But D H H') (h : BrF K H mg kv p) : BrF K H' mg kv p := by
  obtain ⟨a, l, bs, c, d, e⟩ := h
  exact ⟨a, l, bs, c, b _ _ (fun z => by rw [z, hD] at d; cases d) d, pImp e fun _ _ z => z.keep (.butD b hD fun _ z => z)⟩
def BrD (K : PySem.W.Frag) (H : Hp) (mg : Str → Option Value) (z : Addr) (R : Prg) : Prop := ∃ kvs, H z = some (.dK kvs) ∧ Paired (BrF K H mg) kvs R
theorem BrD.same {H H' : Hp} {z : Addr} {R : Prg} (h : BrD K H mg z R) (s : Same H H') : BrD K H' mg z R := by
  obtain ⟨kvs, a, c⟩ := h
  exact ⟨kvs, s _ _ a, pImp c fun _ _ q => q.same s⟩
theorem valV_pt {F : V → Str × Rows → Prop} {p : Str × Rows} : ∀ {kvs : List (Key × V)} {R : Prg}, Paired (fun kv p => kv.1 = Sum.inr p.1 ∧ F kv.2 p) kvs R → (R.map Prod.fst).Nodup → p ∈ R → ∃ v, valV kvs (.inr p.1) = some v ∧ F v p
  | _, _, .nil, _, m => (nomatch m)
  | _, _, .cons (a := kv) (b := e') (l₁ := kvs) (l₂ := R) r t, nd, m => by
    rw [List.map_cons, List.nodup_cons] at nd
    by_cases h : e'.1 = p.1
    · rcases List.mem_cons.mp m with rfl | m
      · refine ⟨kv.2, ?_, r.2⟩
        unfold valV
        rw [List.find?_cons_of_pos (by rw [decide_eq_true_eq]; exact r.1)]
        rfl
      · exact absurd (h ▸ List.mem_map_of_mem m) nd.1
    · rcases List.mem_cons.mp m with rfl | m
      · exact absurd rfl h
      · obtain ⟨v, h1, h2⟩ := valV_pt t nd.2 m
        refine ⟨v, ?_, h2⟩
        rw [← h1]
        unfold valV
        rw [List.find?_cons_of_neg (by rw [decide_eq_true_eq, r.1]; exact fun z => h (Sum.inr.inj z))]
theorem BrD.get {H : Hp} {z : Addr} {R : Prg} (h : BrD K H mg z R) (nd : (R.map Prod.fst).Nodup) {p : Str × Rows} (m : p ∈ R) : ∃ b bs, DGet H z (.str p.1) (some (.ref b)) ∧ H b = some (.lst bs) ∧ Paired (ObjV All K H mg) bs (bareR p.2) := by
  obtain ⟨kvs, a, c⟩ := h
  obtain ⟨v, hv, b, bs, rfl, h1, h2⟩ := valV_pt (F := fun v p => ∃ b bs, v = .ref b ∧ H b = some (.lst bs) ∧ Paired (ObjV All K H mg) bs (bareR p.2)) c nd m
  have := DGet.k (k := .inr p.1) a
  rw [hv] at this
  exact ⟨b, bs, this, h1, h2⟩
theorem keys_pt {F : V → Str × Rows → Prop} : ∀ {kvs : List (Key × V)} {R : Prg}, Paired (fun kv p => kv.1 = Sum.inr p.1 ∧ F kv.2 p) kvs R → kvs.map (·.1) = R.map fun p => Sum.inr p.1
  | _, _, .nil => rfl
  | _, _, .cons r t => by rw [List.map_cons, List.map_cons, r.1, keys_pt t]
/-- a mark is of its part, and stands before a row -/
theorem ents_of {part : Str} {e : Ent} : ∀ {k : Nat} {rows : Rows}, e ∈ ents part k rows → e.part = part ∧ ∃ i z s, rows[i]? = some (.mark z s) ∧ e.name = z ∧ e.k = k + (bareR (rows.take i)).length
  | _, [], m => (nomatch m)
  | k, r :: a, m => by
    cases hr : r.nm with
    | false =>
      cases r <;> (try (cases hr; done))
      case mark z s =>
        have m : e ∈ _ :: ents part k a := m
        rcases List.mem_cons.mp m with rfl | m
        · exact ⟨rfl, 0, z, s, rfl, rfl, rfl⟩
        · obtain ⟨h1, i, z', s', h2, h3, h4⟩ := ents_of m
          exact ⟨h1, i + 1, z', s', h2, h3, h4⟩
    | true =>
      have m : e ∈ ents part (k + 1) a := by cases r <;> first | exact m | cases hr
      obtain ⟨h1, i, z', s', h2, h3, h4⟩ := ents_of m
      refine ⟨h1, i + 1, z', s', h2, h3, ?_⟩
      rw [h4, List.take_succ_cons]
      unfold bareR
      rw [List.filter_cons_of_pos hr, List.length_cons]
      omega
theorem entsP_of {e : Ent} {R : Prg} (m : e ∈ entsP R) : ∃ p ∈ R, e.part = p.1 ∧ ∃ i z s, p.2[i]? = some (.mark z s) ∧ e.name = z ∧ e.k = (bareR (p.2.take i)).length := by
  obtain ⟨p, m1, m2⟩ := List.mem_flatMap.mp m
  obtain ⟨h1, i, z, s, h2, h3, h4⟩ := ents_of m2
  exact ⟨p, m1, h1, i, z, s, h2, h3, by rw [h4, Nat.zero_add]⟩
theorem find_part {R : Prg} (nd : (R.map Prod.fst).Nodup) {p : Str × Rows} (m : p ∈ R) : (R.find? fun q => decide (q.1 = p.1)) = some p := by
  induction R with
  | nil => cases m
  | cons q R ih =>
    rw [List.map_cons, List.nodup_cons] at nd
    rcases List.mem_cons.mp m with rfl | m
    · rw [List.find?_cons_of_pos (by simp)]
    · rw [List.find?_cons_of_neg (by
        rw [decide_eq_true_eq]
        exact fun h => nd.1 (h ▸ List.mem_map_of_mem m)), ih nd.2 m]
/-- where a mark stands: its row -/
theorem at_ent {R : Prg} (g : Good R) {e : Ent} (m : e ∈ entsP R) : ∃ p ∈ R, e.part = p.1 ∧ ∃ t, (bareR p.2)[e.k]? = some t ∧ atE R e = some t ∧ t.nm = true := by
  obtain ⟨p, mp, h1, i, z, s, h2, h3, h4⟩ := entsP_of m
  have hw := (g.rows p mp).e i (List.getElem?_eq_some_iff.mp h2).1
  unfold endsW at hw
  rw [h2] at hw
  have hb : (behind p.2 i).isSome = true := hw
  unfold behind at hb
  have hsp : bareR p.2 = bareR (p.2.take i) ++ bareR (p.2.drop (i + 1)) := by
    conv => lhs; rw [split_at h2]
    unfold bareR
    rw [List.filter_append]
    rfl
  cases ht : bareR (p.2.drop (i + 1)) with
  | nil => rw [ht] at hb; cases hb
  | cons t ts =>
    have e1 : (bareR p.2)[e.k]? = some t := by
      rw [h4, hsp, ht, List.getElem?_append_right (Nat.le_refl _), Nat.sub_self]
      rfl
    refine ⟨p, mp, h1, t, e1, ?_, ?_⟩
    · unfold atE
      rw [h1, find_part g.nd mp]
      exact e1
    · have m2 : t ∈ bareR p.2 := List.mem_of_getElem? e1
      unfold bareR at m2
      exact (List.mem_filter.mp m2).2
end
end Fj
set_option maxHeartbeats 4000000
/-! checked_aims -/
namespace Fj
open PySem PySem.Spec PyProof.Rows L2
open C8 (Met Mak InsC pe_mt0 pe_mk)
section
variable {P : Program} {w : World} {K : PySem.W.Frag} {mg : Str → Option Value} {base : Heap}
theorem cal_mkX {x : Str} {st : Stmt} {N ps : List Str} {k : Nat} {sp : Sp} (F : FnAt K mg x st ps) (S : FnScope N ps (defScope st)) (len : ∀ vs H Q E, sp vs H Q E → vs.length = ps.length)
    (hbody : ∀ (f : Addr) (cdv : Value) (A : Around) (outer : List Env) (s : Shared) (H : Hp) (vs : List V) (Q : VK) (E : XK), Room k (A.deeper (envOfC x (defScope st) s.heap.objs.size f cdv)) → sp vs H Q E →
      ∃ t, PSs (cxOf (L2.CX P w) P w K mg base N x (defScope st) f cdv A outer s H E) (defBody st) t ∧ t { nx := fun _ H' => Q .non H', rt := Q } (start N vs) H) : Cal P w K mg base (L2.CX P w) (k + 1) x ps sp := by
  obtain ⟨f, fd, hm, F, hb⟩ := F
  exact ⟨f, fd, hm, F.kp, hb, F.okX S len fun cdv A outer s H vs Q E hr h => hbody f cdv A outer s H vs Q E hr h⟩
theorem err_mk {C : Addr} {z p : Str} {k : Int} {H : Hp} {Q : XK} {E : XK} (q : ∀ d H', Same H H' → H' d = some (.xd (errF z p k)) → Q (.ref C) (some d) H') :
    [V.str z, .str p, .int k].length ≤ 1000 ∧ ∀ a, H a = none → spErrI C (.ref a :: ([V.str z, .str p, .int k] ++ [])) (upd H a (exo a C none))
      (fun v H2 => v = .non ∧ ∃ (d : Addr) (fs : List (Str × V)), H2 a = some (exo a C (some d)) ∧ H2 d = some (exd d fs) ∧ H d = none ∧ Q (.ref C) (some d) (upd (del H2 a) d (.xd fs))) E := by
  refine ⟨by simp, fun a ha => ⟨a, z, p, k, rfl, upd_same, fun d H2 hd ne h1 h2 h3 => ⟨rfl, d, _, h1, h2, ?_, q d _ (fun b o hb => ?_) upd_same⟩⟩⟩
  · rw [upd_ne ne] at hd
    exact hd
  · have hd' : H d = none := by rw [upd_ne ne] at hd; exact hd
    have n1 := ne_of_none hb hd'
    have n2 := ne_of_none hb ha
    rw [upd_ne n1, del_ne n2, h3 b n2 n1, upd_ne n2]
    exact hb
theorem go_raise {σ : L2.St} {H : Hp} {C : Addr} {sp : Sp} {ta : TA} {Q : XK} (q : ta σ H fun vs H1 => vs.length ≤ 1000 ∧ ∀ a, H1 a = none → sp (.ref a :: (vs ++ [])) (upd H1 a (exo a C none))
  (fun v H2 => v = .non ∧ ∃ (d : Addr) (fs : List (Str × V)), H2 a = some (exo a C (some d)) ∧ H2 d = some (exd d fs) ∧ H1 d = none ∧ Q (.ref C) (some d) (upd (del H2 a) d (.xd fs))) (fun _ _ _ => False)) : tMkO C sp [] ta σ H Q := q
def dueC (u : Due) : Str := if u.lack then "Lacking" else "WrongAim"
def dueF (u : Due) : List (Str × V) := errF u.name u.part u.k
abbrev schecked_aims : Stmt := top 62
abbrev Nchecked_aims : List Str := ["looked", "standing", "rows_of", "part", "rows", "k", "row", "name", "there", "at"]
theorem scchecked_aims : FnScope Nchecked_aims ["looked", "standing"] (defScope schecked_aims) := ⟨rfl, rfl, rfl, by decide +kernel, rfl, by decide +kernel, by decide +kernel⟩
def spChk (K : PySem.W.Frag) (mg : Str → Option Value) : Sp := fun vs H Q E => ∃ (l z : Addr) (ys : List V) (R : Prg), vs = [.ref l, .ref z] ∧ H l = some (.lst ys) ∧ Paired (PartO All K H mg) ys R ∧ Good R ∧ StD K H z R ∧
  (dueP R = none → ∀ H', Same H H' → Q .non H') ∧ ∀ u, dueP R = some u → ∀ d H', Same H H' → H' d = some (.xd (dueF u)) → E (.ref (CA mg (dueC u))) (some d) H'
theorem ok_checked_aims (F : FnAt K mg "checked_aims" schecked_aims ["looked", "standing"]) (T : Txt K mg) (TC : Clss K mg) (BE : BaseE K mg (CA mg "PartError")) (TLacking : ErrC K mg "Lacking" "Lacking.__init__" sLacking___init) (TWrongAim : ErrC K mg "WrongAim" "WrongAim.__init__" sWrongAim___init)
    (G_bare : Cal P w K mg base CX0 1 "bare" ["rows"] (spBare K mg)) (G_is_wanted : Cal P w K mg base CX0 1 "is_wanted" ["row", "wants"] (spWanted K mg)) : Cal P w K mg base (L2.CX P w) 4 "checked_aims" ["looked", "standing"] (spChk K mg) := by
  obtain ⟨fLacking, fdL, iLacking, tLacking, FLacking, bLacking⟩ := TLacking.init
  obtain ⟨fWrongAim, fdW, iWrongAim, tWrongAim, FWrongAim, bWrongAim⟩ := TWrongAim.init
  refine cal_mkX F scchecked_aims (fun vs H Q E h => ?_) (fun f cdv A outer s H vs Q E hr h => ?_)
  · obtain ⟨i, xs, _, _, rfl, _⟩ := h
    rfl
  · obtain ⟨l, z, ys, R, rfl, hl, hp, hg, hz, q0, qE⟩ := h
    have hu := hu_of hr
    have nd := scchecked_aims.nd
    refine ⟨_, (pss_cons (ps_set (i := 2) nd rfl (Or.inl rfl) pe_dnewK)
      (pss_cons (ps_for (passes_of rfl) rfl (pi_list (pv 0)) (pg_tup rfl (pgs_cons (pg_name (i := 3) nd rfl (Or.inl rfl)) (pgs_cons (pg_name (i := 4) nd rfl (Or.inl rfl)) pgs_nil))) (pss_one (ps_dput hu (pv 2) (pv 3) (pe_cal G_bare hr (by decide) rfl pass0 (pa_cons (pv 4) pa_nil)) rfl)))
      (pss_one (ps_for (passes_of rfl) rfl (pi_list (pv 0)) (pg_tup rfl (pgs_cons (pg_name (i := 3) nd rfl (Or.inl rfl)) (pgs_cons (pg_name (i := 4) nd rfl (Or.inl rfl)) pgs_nil))) (pss_one (ps_for (passes_of rfl) rfl (pi_enum (by rfl) T.n_enumerate (pa_cons (pe_dget hu (pv 2) (pv 3) (fun _ _ => rfl)) pa_nil)) (pg_tup rfl (pgs_cons (pg_name (i := 5) nd rfl (Or.inl rfl)) (pgs_cons (pg_name (i := 6) nd rfl (Or.inl rfl)) pgs_nil))) (pss_one (ps_for (passes_of rfl) rfl (pi_list (pe_rw (fun r => ok_asked TC T r) hr (by decide) (pv 6))) (pg_name (i := 7) nd rfl (Or.inl rfl)) (pss_cons (ps_if (pt_cmp (pc_dnotin hu (pv 7) (pv 1))) (pss_one (ps_raise rfl (takes_of rfl rfl rfl rfl) (pmk_oex TLacking.exc iLacking tLacking (ok_Lacking FLacking TLacking BE) (hr.mono (by decide)) bLacking .nil pass0 rfl TLacking.g (pa_cons (pv 7) (pa_cons (pv 3) (pa_cons (pv 5) pa_nil)))))) pss_nil)
      (pss_cons (ps_asg (pe_dget hu (pv 1) (pv 7) (fun _ _ => rfl)) (pg_tup rfl (pgs_cons (pg_name (i := 8) nd rfl (Or.inl rfl)) (pgs_cons (pg_name (i := 9) nd rfl (Or.inl rfl)) pgs_nil))))
      (pss_one (ps_if (pt_not (pt_val (pe_cal G_is_wanted hr (by decide) rfl pass0 (pa_cons (pe_ix (ixlK (K := K) rfl) (pe_dget hu (pv 2) (pv 8) (fun _ _ => rfl)) (pv 9) (fun _ _ => rfl)) (pa_cons (pe_rw (fun r => ok_wants TC T r) hr (by decide) (pv 6)) pa_nil))))) (pss_one (ps_raise rfl (takes_of rfl rfl rfl rfl) (pmk_oex TWrongAim.exc iWrongAim tWrongAim (ok_WrongAim FWrongAim TWrongAim BE) (hr.mono (by decide)) bWrongAim .nil pass0 rfl TWrongAim.g (pa_cons (pv 7) (pa_cons (pv 3) (pa_cons (pv 5) pa_nil)))))) pss_nil)))))))))))), ?_⟩
    walk_at "h"
    intro D hD
    have s0 : Same H (upd H D (.dK [])) := Same.new hD
    have hpl := pLen hp
    have g2 := hg.hi
    walk_at "h"
    refine ⟨l, rfl, ⟨_, .of (s0 _ _ hl)⟩, ?_⟩
    refine for_list (xs := ys) (fun i σ H2 => ∃ (a b c d e f g h : Option V) (kvs : List (Key × V)), σ = [some (.ref l), some (.ref z), some (.ref D), a, b, c, d, e, f, g] ∧ Same H H2 ∧ H2 D = some (.dK kvs) ∧ Paired (BrF K H2 mg) kvs (R.take i))
      ⟨none, none, none, none, none, none, none, none, [], rfl, s0, upd_same, .nil⟩ ?_ ?_ ?_
    · rintro i σ H2 _ ⟨a, b, c, d, e, f, g, h, kvs, rfl, s2, _⟩
      exact .of (s2 _ _ hl)
    · rintro i x σ H2 hx ⟨a, b, c, d, e, f, g, h, kvs, rfl, s2, hd, hkv⟩
      obtain ⟨p, hp1, hv⟩ := pAt hp hx
      have hgr := hg.rows p (List.mem_of_getElem? hp1)
      have hi : i < R.length := (List.getElem?_eq_some_iff.mp hp1).1
      obtain ⟨t, l2, xs2, rfl, ht, hl2, _, hr2⟩ := hv.same s2
      walk_at "h"
      refine ⟨l2, xs2, p.2, All, rfl, hl2, hr2, by have := hgr.hi; omega, fun b3 H3 bs3 hb3 s3 hbs3 hob3 => ?_⟩
      have hd3 := s3 _ _ hd
      have hkl : kvs.length ≤ 4 := by
        rw [pLen hkv, List.length_take]
        omega
      have hnew : valV kvs (.inr p.1) = none := valV_none fun kv m e6 => by
        have m1 : kv.1 ∈ kvs.map (·.1) := List.mem_map_of_mem m
        rw [keys_pt (F := fun v p => ∃ b bs, v = .ref b ∧ H2 b = some (.lst bs) ∧ Paired (ObjV All K H2 mg) bs (bareR p.2)) hkv, e6] at m1
        obtain ⟨e7, m2, e8⟩ := List.mem_map.mp m1
        exact nodup_take hg.nd hp1 e7 m2 (Sum.inr.inj e8)
      walk_at "h"
      refine ⟨D, _, rfl, DPut.k (k := .inr p.1) hd3 (sz_lt (by omega)), ?_⟩
      rw [putK_new _ hnew]
      walk_at "h"
      refine ⟨_, _, _, _, _, _, _, h, _, rfl, (s2.trans s3).mut hD, upd_same, ?_⟩
      rw [take_snoc hp1]
      refine pSnoc (pImp hkv fun _ _ z => (z.same s3).butD hd3 But.upd) (BrF.butD hd3 But.upd ⟨rfl, b3, bs3, rfl, hbs3, pImp hob3 fun _ _ z => z.mono⟩)
    · rintro σ H2 ⟨a, b, c, d, e, f, g, h, kvs, rfl, s2, hd, hkv⟩
      rw [hpl, List.take_of_length_le (Nat.le_refl _)] at hkv
      have hbr : BrD K H2 mg D R := ⟨kvs, hd, hkv⟩
      have hz2 := hz.same s2
      have hll2 : SqL K H2 l ys := .of (s2 _ _ hl)
      walk_at "h"
      refine for_list (xs := ys) (fun i σ H3 => ∃ (a b c d e f g : Option V), σ = [some (.ref l), some (.ref z), some (.ref D), a, b, c, d, e, f, g] ∧ Same H2 H3 ∧ (R.take i).findSome? (fun p => dueRows R p.1 0 (bareR p.2)) = none)
        ⟨_, _, _, _, _, _, _, rfl, Same.refl _, rfl⟩ ?_ ?_ ?_
      · rintro i σ H3 _ ⟨a, b, c, d, e, f, g, rfl, s3, _⟩
        exact s3.seq hll2
      · rintro i x σ H3 hx ⟨a, b, c, d, e, f, g, rfl, s3, hn3⟩
        obtain ⟨p, hp1, hv⟩ := pAt hp hx
        have hm1 := List.mem_of_getElem? hp1
        have hgr := hg.rows p hm1
        obtain ⟨t, l2, xs2, rfl, ht, hl2, _, hr2⟩ := hv.same (s2.trans s3)
        obtain ⟨bA, bs, hget, hbA, hbo⟩ := (hbr.same s3).get hg.nd hm1
        have hbl := pLen hbo
        have hbS : SqL K H3 bA bs := .of hbA
        walk_at "h"
        refine ⟨D, _, rfl, hget, ?_⟩
        walk_at "h"
        refine ⟨bA, bs, rfl, hbS, ?_⟩
        refine for_enum (xs := bs) (fun j σ H4 => ∃ (c d e f g : Option V), σ = [some (.ref l), some (.ref z), some (.ref D), some (.str p.1), some (.ref l2), c, d, e, f, g] ∧ Same H3 H4 ∧ dueRows R p.1 0 ((bareR p.2).take j) = none)
          ⟨_, _, _, _, _, rfl, Same.refl _, rfl⟩ ?_ ?_ ?_
        · rintro j σ H4 _ ⟨c, d, e, f, g, rfl, s4, _⟩
          exact s4.seq hbS
        · rintro j y σ H4 T4 hy ⟨c, d, e, f, g, rfl, s4, hn4⟩ hT4
          obtain ⟨r, hr1, hro⟩ := pAt hbo hy
          have s5 : Same H4 (upd H4 T4 (.tup [.int (j : Nat), y])) := Same.new hT4
          have hT5 : SqT K (upd H4 T4 (.tup [.int (j : Nat), y])) T4 [.int (j : Nat), y] := .of upd_same
          generalize upd H4 T4 (.tup [.int (j : Nat), y]) = H5 at *
          have hro5 := hro.same (s4.trans s5)
          walk_at "h"
          refine go_rw r ?_
          walk_at "h"
          refine at_asked hro5 fun pA hpA H6 s6 hA6 => ?_
          have hA6S : SqL K H6 pA (r.asked.map V.str) := .of hA6
          refine ⟨pA, rfl, ⟨_, hA6S⟩, ?_⟩
          refine for_list (xs := r.asked.map V.str) (fun m σ H7 => ∃ (e f g : Option V), σ = [some (.ref l), some (.ref z), some (.ref D), some (.str p.1), some (.ref l2), some (.int (j : Nat)), some y, e, f, g] ∧ Same H6 H7 ∧ (r.asked.take m).findSome? (dueZ R r p.1 j) = none)
            ⟨_, _, _, rfl, Same.refl _, rfl⟩ ?_ ?_ ?_
          · rintro m σ H7 _ ⟨e, f, g, rfl, s7, _⟩
            exact s7.seq hA6S
          · rintro m x7 σ H7 hx7 ⟨e, f, g, rfl, s7, hn7⟩
            rw [List.getElem?_map] at hx7
            obtain ⟨nz, hnz, rfl⟩ := Option.map_eq_some_iff.mp hx7
            have sAll : Same H2 H7 := s3.trans (s4.trans (s5.trans (s6.trans s7)))
            obtain ⟨o, hzg, hzo⟩ := (hz2.same sAll).get hg.mks nz
            have due_at : ∀ u, dueZ R r p.1 j nz = some u → dueP R = some u := fun u hu => by
              have e1 : dueR R p.1 j r = some u := some_at hnz hn7 hu
              have e2 := dueRows_at hr1 hn4 e1
              exact some_at hp1 hn3 e2
            walk_at "h"
            refine ⟨z, o, rfl, hzg, ?_⟩
            walk_at "h"
            cases hlk : lkE R nz with
            | none =>
              rw [hlk] at hzo
              subst hzo
              walk_at "h"
              refine go_raise ?_
              walk_at "h"
              have hu : dueZ R r p.1 j nz = some ⟨true, nz, p.1, j⟩ := by unfold dueZ; rw [hlk]
              exact err_mk fun d H' s' hd' => qE _ (due_at _ hu) d H' (s2.trans (sAll.trans s')) hd'
            | some en =>
              rw [hlk] at hzo
              obtain ⟨tE, rfl, htE⟩ := hzo
              have hmE : en ∈ entsP R := List.mem_of_find?_eq_some hlk
              obtain ⟨pT, mT, hpart, tr, htr, hat, htn⟩ := at_ent hg hmE
              obtain ⟨bT, bsT, hgetT, hbT, hboT⟩ := (hbr.same sAll).get hg.nd mT
              walk_at "h"
              refine ⟨z, _, rfl, hzg, ?_⟩
              walk_at "h"
              refine ⟨D, _, rfl, by rw [hpart]; exact hgetT, ?_⟩
              walk_at "h"
              obtain ⟨vT, hvT⟩ : ∃ v, bsT[en.k]? = some v := ⟨_, List.getElem?_eq_getElem (by rw [pLen hboT]; exact (List.getElem?_eq_some_iff.mp htr).1)⟩
              obtain ⟨tr', htr', hoT⟩ := pAt hboT hvT
              rw [htr] at htr'
              cases htr'
              refine go_ixL (.of hbT) (atI_of hvT) ?_
              walk_at "h"
              refine go_rw r ?_
              walk_at "h"
              refine at_wants (hro5.same (s6.trans s7)) ?_
              walk_at "h"
              have hne : r.asked ≠ [] := fun e8 => by rw [e8] at hnz; cases hnz
              refine ⟨vT, r, tr, rfl, hoT, htn, hne, ?_⟩
              walk_at "h"
              refine ite2 (fun hf => ?_) (fun hf => ?_)
              · have hf' : r.fit tr = false := by simpa using hf
                walk_at "h"
                refine go_raise ?_
                walk_at "h"
                have hu : dueZ R r p.1 j nz = some ⟨false, nz, p.1, j⟩ := by
                  unfold dueZ
                  rw [hlk]
                  show (match atE R en with | some t => if r.fit t then none else some _ | none => none) = _
                  rw [hat]
                  show (if r.fit tr = true then none else some _) = _
                  rw [hf']
                  rfl
                exact err_mk fun d H' s' hd' => qE _ (due_at _ hu) d H' (s2.trans (sAll.trans s')) hd'
              · have hf' : r.fit tr = true := by simpa using hf
                have hu : dueZ R r p.1 j nz = none := by
                  unfold dueZ
                  rw [hlk]
                  show (match atE R en with | some t => if r.fit t then none else some _ | none => none) = _
                  rw [hat]
                  show (if r.fit tr = true then none else some _) = _
                  rw [hf']
                  rfl
                walk_at "h"
                exact ⟨_, _, _, rfl, s7, none_snoc hnz hn7 hu⟩
          · rintro σ H7 ⟨e, f, g, rfl, s7, hn7⟩
            rw [List.length_map, List.take_of_length_le (Nat.le_refl _)] at hn7
            exact ⟨_, _, _, _, _, rfl, s4.trans (s5.trans (s6.trans s7)), dueRows_snoc hr1 hn4 hn7⟩
        · rintro σ H4 ⟨c, d, e, f, g, rfl, s4, hn4⟩
          rw [hbl, List.take_of_length_le (Nat.le_refl _)] at hn4
          exact ⟨_, _, _, _, _, _, _, rfl, s3.trans s4, none_snoc hp1 hn3 hn4⟩
      · rintro σ H3 ⟨a, b, c, d, e, f, g, rfl, s3, hn3⟩
        rw [hpl, List.take_of_length_le (Nat.le_refl _)] at hn3
        exact q0 hn3 _ (s2.trans s3)
end
end Fj
set_option maxHeartbeats 4000000
/-! let_by, bound -/
namespace Fj
open PySem PySem.Spec PyProof.Rows L2
open C8 (Met Mak InsC pe_mt0 pe_mk)
section
variable {P : Program} {w : World} {K : PySem.W.Frag} {mg : Str → Option Value} {base : Heap}
theorem mergeK_new : ∀ {more kvs : List (Key × V)}, ((kvs ++ more).map (·.1)).Nodup → mergeK kvs more = kvs ++ more
  | [], kvs, _ => by rw [List.append_nil]; rfl
  | p :: more, kvs, h => by
    have h1 : valV kvs p.1 = none := valV_none fun kv m e => by
      rw [List.map_append, List.nodup_append] at h
      exact h.2.2 kv.1 (List.mem_map_of_mem m) p.1 (by rw [List.map_cons]; exact List.mem_cons_self) e
    show mergeK (putK kvs p.1 p.2) more = _
    rw [putK_new p.2 h1]
    have h2 : kvs ++ [(p.1, p.2)] ++ more = kvs ++ p :: more := by rw [List.append_assoc]; rfl
    rw [mergeK_new (by rw [h2]; exact h), h2]
theorem parts_kv {W : Addr → Prop} {H : Hp} : ∀ {acc : List V} {R : Prg}, Paired (fun y p => PartO W K H mg y (p.1, bareR p.2)) acc R → ∃ (ps : List Addr) (kvs : List (Key × V)), acc = ps.map V.ref ∧ Paired (fun p kv => SqT K H p [kV kv.1, kv.2]) ps kvs ∧ Paired (BrF K H mg) kvs R
  | _, _, .nil => ⟨[], [], rfl, .nil, .nil⟩
  | _, p :: _, .cons r t => by
    obtain ⟨ps, kvs, h1, h2, h3⟩ := parts_kv t
    obtain ⟨tt, l, xs, rfl, ht, hl, _, ho⟩ := r
    exact ⟨tt :: ps, (.inr p.1, .ref l) :: kvs, by rw [h1]; rfl, .cons ht h2, .cons ⟨rfl, l, xs, rfl, hl, pImp ho fun _ _ z => z.mono⟩ h3⟩
abbrev slet_by : Stmt := top 63
abbrev Nlet_by : List Str := ["parts", "looked", "standing", "part", "rows"]
theorem sclet_by : FnScope Nlet_by ["parts"] (defScope slet_by) := ⟨rfl, rfl, rfl, by decide +kernel, rfl, by decide +kernel, by decide +kernel⟩
def spLet (K : PySem.W.Frag) (mg : Str → Option Value) : Sp := fun vs H Q E => ∃ (v : V) (R : Prg), vs = [v] ∧ ProgV All K H v R ∧ Good R ∧
  (dueP R = none → ∀ t H' D z, Same H H' → SqT K H' t [.ref D, .ref z] → BrD K H' mg D R → Q (.ref t) H') ∧ ∀ u, dueP R = some u → ∀ d H', Same H H' → H' d = some (.xd (dueF u)) → E (.ref (CA mg (dueC u))) (some d) H'
theorem ok_let_by (F : FnAt K mg "let_by" slet_by ["parts"]) (T : Txt K mg) (G_looked_at : Cal P w K mg base CX0 5 "looked_at" ["parts"] (spLooked K mg)) (G_standing_in : Cal P w K mg base CX0 3 "standing_in" ["looked"] (spStand K mg))
    (G_checked_aims : Cal P w K mg base (L2.CX P w) 4 "checked_aims" ["looked", "standing"] (spChk K mg)) (G_bare : Cal P w K mg base CX0 1 "bare" ["rows"] (spBare K mg)) : Cal P w K mg base (L2.CX P w) 6 "let_by" ["parts"] (spLet K mg) := by
  refine cal_mkX F sclet_by (fun vs H Q E h => ?_) (fun f cdv A outer s H vs Q E hr h => ?_)
  · obtain ⟨v, R, rfl, _⟩ := h
    rfl
  · obtain ⟨v, R, rfl, hv, hg, q0, qE⟩ := h
    have nd := sclet_by.nd
    refine ⟨_, (pss_cons (ps_set (i := 1) nd rfl (Or.inl rfl) (pe_cal G_looked_at hr (by decide) rfl pass0 (pa_cons (pv 0) pa_nil)))
      (pss_cons (ps_set (i := 2) nd rfl (Or.inl rfl) (pe_cal G_standing_in hr (by decide) rfl pass0 (pa_cons (pv 1) pa_nil)))
      (pss_cons (ps_expr (pe_cal G_checked_aims hr (by decide) rfl (passes_call (takes_of rfl rfl rfl rfl) (fun _ _ _ _ h => h)) (pa_cons (pv 1) (pa_cons (pv 2) pa_nil))))
      (pss_one (ps_ret (pe_tup (pa_cons (pe_callTy (call_dictP rfl) (by rfl) T.n_dict (by decide +kernel) (pa_cons (pe_lc (own := [("part", 3), ("rows", 4)]) (g := gTup K 2 (gCons (gName 3) (gCons (gName 4) (gNil)))) (tt := tYes) (by rfl) nd (pi_list (pv 1)) (blkOk_by (N := Nlet_by) (sc := (defScope slet_by)) (by decide +kernel)) (fun _ _ _ _ _ => (pg_tup rfl (pgs_cons (pg_name (i := 3) nd rfl (Or.inl rfl)) (pgs_cons (pg_name (i := 4) nd rfl (Or.inl rfl)) pgs_nil)))) (fun _ _ _ _ _ => pts_nil) (fun _ _ _ _ _ => (pe_tup (pa_cons (pv 3) (pa_cons (pe_cal G_bare hr (by decide) rfl pass0 (pa_cons (pv 4) pa_nil)) pa_nil))))) pa_nil)) (pa_cons (pv 2) pa_nil)))))))), ?_⟩
    walk_at "h"
    refine ⟨v, R, rfl, hv, hg, fun l H1 ys hlH s1 hl hp => ?_⟩
    have hp1 : Paired (PartO All K H1 mg) ys R := pImp hp fun _ _ z => z.mono
    walk_at "h"
    refine ⟨l, ys, R, rfl, hl, hp1, hg, fun z H2 kvs es hz1 s2 hz hes hst => ?_⟩
    have hp2 : Paired (PartO All K H2 mg) ys R := pImp hp1 fun _ _ z => z.same s2
    have hl2 := s2 _ _ hl
    walk_at "h"
    refine ⟨l, z, ys, R, rfl, hl2, hp2, hg, ⟨kvs, es, hz, hes, hst⟩, fun hd H3 s3 => ?_, fun u hu d H' s' hd => qE u hu d H' (s1.trans (s2.trans s')) hd⟩
    have hl3 := s3 _ _ hl2
    have hll3 : SqL K H3 l ys := .of hl3
    have hp3 : Paired (PartO All K H3 mg) ys R := pImp hp2 fun _ _ z => z.same s3
    have hz3 := s3 _ _ hz
    walk_at "h"
    intro D hD
    have hpD : Paired (PartO (fun a => All a ∧ a ≠ D) K H3 mg) ys R := pImp hp3 fun _ _ z => z.fresh hD
    refine lc_genL R (fun _ => true) (fun y p H => PartO (fun a => All a ∧ a ≠ D) K H mg y (p.1, bareR p.2)) (fun y p H H' acc hDa b r => r.keep (.but b hDa fun a z => ⟨z, z.2⟩)) hll3 (pLen hp3) (by have := hg.hi; omega) hD ?_ ?_
    · intro i x p H4 hx hp4 s4 hacc NY NN ny nn
      obtain ⟨p', e, hx1⟩ := pAt hpD hx
      rw [hp4] at e
      cases e
      obtain ⟨t, l5, xs5, rfl, ht5, hl5, hn5, ho5⟩ := hx1.same s4
      have hgr := hg.rows p (List.mem_of_getElem? hp4)
      walk_at "h"
      refine ⟨rfl, ?_⟩
      walk_at "h"
      refine ⟨l5, xs5, p.2, _, rfl, hl5, ho5, by have := hgr.hi; omega, fun b H5 bs hb s5 hbs hbo => ?_⟩
      walk_at "h"
      refine ⟨sz_of (by simp), fun tp htp => ?_⟩
      have s6 := Same.new (o := .tup [V.str p.1, .ref b]) htp
      obtain ⟨acc, hacc⟩ := hacc
      exact ny _ _ rfl (s5.trans s6) ⟨tp, b, bs, rfl, .of upd_same, s6 _ _ hbs, ⟨trivial, fun e => by rw [e, hacc] at hb; cases hb⟩, pImp hbo fun _ _ z => (z.keep (.same s6 fun _ z => z.1))⟩
    · intro H4 acc s4 hacc hpa
      rw [List.filter_eq_self.mpr (fun _ _ => rfl)] at hpa
      obtain ⟨ps, kvs2, rfl, h2, h3⟩ := parts_kv hpa
      walk_at "h"
      refine ⟨D, ps, kvs2, rfl, .of hacc, h2, fun dA hdA => ?_⟩
      have hk : ((([] : List (Key × V)) ++ kvs2).map (·.1)).Nodup := by
        rw [List.nil_append, keys_pt (F := fun v p => ∃ b bs, v = .ref b ∧ H4 b = some (.lst bs) ∧ Paired (ObjV All K H4 mg) bs (bareR p.2)) h3]
        have := hg.nd
        rw [List.Nodup, List.pairwise_map] at this ⊢
        exact List.Pairwise.imp (fun {a b : Str × Rows} (h : a.1 ≠ b.1) (e : (Sum.inr a.1 : Key) = Sum.inr b.1) => h (Sum.inr.inj e)) this
      rw [mergeK_new hk]
      have s5 := Same.new (o := .dK ([] ++ kvs2)) hdA
      walk_at "h"
      refine ⟨sz_of (by simp), fun tp htp => ?_⟩
      have s6 := Same.new (o := .tup [V.ref dA, .ref z]) htp
      refine q0 hd tp _ dA z (s1.trans (s2.trans (s3.trans (s4.trans (s5.trans s6))))) (.of upd_same) ?_
      exact ⟨kvs2, s6 _ _ upd_same, pImp h3 fun _ _ z => z.same (s5.trans s6)⟩
abbrev sbound : Stmt := top 64
abbrev Nbound : List Str := ["parts", "rows_of", "standing", "part", "row"]
theorem scbound : FnScope Nbound ["parts"] (defScope sbound) := ⟨rfl, rfl, rfl, by decide +kernel, rfl, by decide +kernel, by decide +kernel⟩
def spBound (K : PySem.W.Frag) (mg : Str → Option Value) : Sp := fun vs H Q E => ∃ (v : V) (R : Prg), vs = [v] ∧ ProgV All K H v R ∧ Good R ∧
  (dueP R = none → ∀ F H' ws R', H F = none → Same H H' → H' F = some (.lst ws) → R'.Perm R → SrtdS (R'.map Prod.fst) → Paired (PartV (fun a => H a = none ∧ a ≠ F) K H') ws (bareP R') → Q (.ref F) H') ∧
  ∀ u, dueP R = some u → ∀ d H', Same H H' → H' d = some (.xd (dueF u)) → E (.ref (CA mg (dueC u))) (some d) H'
theorem paired_fst : ∀ {R : Prg}, Paired (fun n (p : Str × Rows) => n = p.1) (R.map Prod.fst) R
  | [] => .nil
  | p :: R => .cons rfl paired_fst
theorem fst_eq : ∀ {ns : List Str} {R : Prg}, Paired (fun n (p : Str × Rows) => n = p.1) ns R → ns = R.map Prod.fst
  | _, _, .nil => rfl
  | _, _, .cons r t => by rw [List.map_cons, r, fst_eq t]
theorem pMapR {α β γ : Type} {F : α → γ → Prop} {g : β → γ} : ∀ {l : List α} {m : List β}, Paired (fun a b => F a (g b)) l m → Paired F l (m.map g)
  | _, _, .nil => .nil
  | _, _, .cons r t => .cons r (pMapR t)
theorem ok_bound (F : FnAt K mg "bound" sbound ["parts"]) (T : Txt K mg) (TC : Clss K mg) (G_let_by : Cal P w K mg base (L2.CX P w) 6 "let_by" ["parts"] (spLet K mg)) : Cal P w K mg base (L2.CX P w) 7 "bound" ["parts"] (spBound K mg) := by
  refine cal_mkX F scbound (fun vs H Q E h => ?_) (fun f cdv A outer s H vs Q E hr h => ?_)
  · obtain ⟨v, R, rfl, _⟩ := h
    rfl
  · obtain ⟨v, R, rfl, hv, hg, q0, qE⟩ := h
    have hu := hu_of hr
    have nd := scbound.nd
    refine ⟨_, (pss_cons (ps_asg (pe_cal G_let_by hr (by decide) rfl (passes_call (takes_of rfl rfl rfl rfl) (fun _ _ _ _ h => h)) (pa_cons (pv 0) pa_nil)) (pg_tup rfl (pgs_cons (pg_name (i := 1) nd rfl (Or.inr rfl)) (pgs_cons (pg_name (i := 2) nd rfl (Or.inl rfl)) pgs_nil))))
      (pss_one (ps_ret (pe_lc (te := tTup (tCons (tVar 3) (tCons (tLc (iList K (tDGet (tVar 1) (tVar 3))) (gName 4) tYes (tRw mg "words" (spWords K mg) (tVar 4)) [4]) tNil))) (own := [("part", 3)]) (g := gName 3) (tt := tYes) (by rfl) nd (pi_list (pe_callB (cl_sortDA rfl) (by rfl) T.n_sorted (by decide +kernel) (pa_cons (pv 1) pa_nil))) (blkOk_by (N := Nbound) (sc := (defScope sbound)) (by decide +kernel)) (fun _ _ _ _ _ => (pg_name (i := 3) nd rfl (Or.inl rfl))) (fun _ _ _ _ _ => pts_nil) (fun _ _ _ _ _ => (pe_tup (pa_cons (pv 3) (pa_cons (pe_lc (own := [("row", 4)]) (g := gName 4) (tt := tYes) (by rfl) nd (pi_list (pe_dget hu (pv 1) (pv 3) (fun _ _ => rfl))) (blkOk_by (N := Nbound) (sc := ({ kind := .function, names := [(".0", .local), ("part", .local), ("rows_of", .cell)], isGenerator := false, isCoroutine := false, more := [] } : PySem.Scope)) (by decide +kernel)) (fun _ _ _ _ _ => (pg_name (i := 4) nd rfl (Or.inl rfl))) (fun _ _ _ _ _ => pts_nil) (fun _ _ _ _ _ => (pe_rw (fun r => ok_words TC T r) hr (by decide) (pv 4)))) pa_nil)))))))), ?_⟩
    walk_at "h"
    refine ⟨v, R, rfl, hv, hg, fun hd t H1 D z s1 ht hbr => ?_, fun u hu d H' s' hd => qE u hu d H' s' hd⟩
    obtain ⟨kvs, hD, hkv⟩ := hbr
    walk_at "h"
    refine ⟨D, kvs, R.map Prod.fst, rfl, .inl hD, by rw [keys_pt (F := fun v p => ∃ b bs, v = .ref b ∧ H1 b = some (.lst bs) ∧ Paired (ObjV All K H1 mg) bs (bareR p.2)) hkv, List.map_map]; rfl, fun ns S hns hsr hS => ?_⟩
    obtain ⟨R', hR', hpn⟩ := pPerm hns paired_fst
    rw [fst_eq hpn] at hsr
    have s2 := Same.new (o := .lst (ns.map V.str)) hS
    have hS2 : upd H1 S (.lst (ns.map V.str)) S = some (.lst (ns.map V.str)) := upd_same
    have hbr2 : BrD K (upd H1 S (.lst (ns.map V.str))) mg D R := BrD.same ⟨kvs, hD, hkv⟩ s2
    have s12 := s1.trans s2
    generalize upd H1 S (.lst (ns.map V.str)) = H2 at *
    have hlen : (ns.map V.str).length = R'.length := by rw [List.length_map, pLen hpn]
    refine ⟨S, rfl, ⟨_, .of hS2⟩, ?_⟩
    intro F hF
    refine lc_genL R' (fun _ => true) (fun y p H3 => PartV (fun a => H a = none ∧ a ≠ F) K H3 y (p.1, bareR p.2)) (fun y p H H' acc hDa b r => r.keep (.but b hDa fun a z => ⟨z, z.2⟩)) (.of hS2) hlen (by rw [hR'.length_eq]; have := hg.hi; omega) hF ?_ ?_
    · intro i x p H3 hx hp3 s3 hacc NY NN ny nn
      rw [List.getElem?_map] at hx
      obtain ⟨n, hn, rfl⟩ := Option.map_eq_some_iff.mp hx
      obtain ⟨p', e, hn2⟩ := pAt hpn hn
      rw [hp3] at e
      cases e
      subst hn2
      have hm : p ∈ R := hR'.mem_iff.mp (List.mem_of_getElem? hp3)
      have hgr := hg.rows p hm
      obtain ⟨b, bs, hget, hb, hbo⟩ := (hbr2.same s3).get hg.nd hm
      have hbS : SqL K H3 b bs := .of hb
      walk_at "h"
      refine ⟨rfl, ?_⟩
      walk_at "h"
      refine ⟨D, _, rfl, hget, ?_⟩
      refine ⟨b, rfl, ⟨_, hbS⟩, ?_⟩
      intro D2 hD2
      obtain ⟨accF, hacc⟩ := hacc
      have hD2F : D2 ≠ F := fun e => by rw [e, hacc] at hD2; cases hD2
      refine lc_genL (bareR p.2) (fun _ => true) (fun y r H4 => RowV (fun a => (H a = none ∧ a ≠ F) ∧ a ≠ D2) K H4 y r) (stable_row (W := fun a => H a = none ∧ a ≠ F)) hbS (pLen hbo) (by have := hgr.hb; omega) hD2 ?_ ?_
      · intro j y r H4 hy hr4 s4 hacc2 NY2 NN2 ny2 nn2
        obtain ⟨r', e, hro⟩ := pAt hbo hy
        rw [hr4] at e
        cases e
        have hro4 := hro.same s4
        obtain ⟨acc2, hacc2⟩ := hacc2
        walk_at "h"
        refine ⟨rfl, ?_⟩
        walk_at "h"
        refine go_rw r ?_
        walk_at "h"
        refine at_words hro4 fun t5 H5 s5 ht5 => ?_
        refine ny2 _ _ rfl s5 ⟨t5, rfl, ht5.keep (.same (Same.refl _) fun a ha => ⟨⟨same_none (s12.trans (s3.trans s4)) ha, fun e => by rw [e, s4 _ _ hacc] at ha; cases ha⟩, fun e => by rw [e, hacc2] at ha; cases ha⟩)⟩
      · intro H4 acc4 s4 hacc4 hp4
        rw [List.filter_eq_self.mpr (fun _ _ => rfl)] at hp4
        walk_at "h"
        refine ⟨sz_of (by simp), fun tp htp => ?_⟩
        have s6 := Same.new (o := .tup [V.str p.1, .ref D2]) htp
        exact ny _ _ rfl (s4.trans s6) ⟨tp, D2, acc4, rfl, upd_same, s6 _ _ hacc4, ⟨same_none (s12.trans s3) hD2, hD2F⟩, pImp hp4 fun _ _ z => z.keep (.same s6 fun _ z => z.1)⟩
    · intro H3 acc s3 hacc hpa
      rw [List.filter_eq_self.mpr (fun _ _ => rfl)] at hpa
      walk_at "h"
      refine q0 hd F H3 acc R' (same_none s12 hF) (s12.trans s3) hacc hR' hsr ?_
      unfold bareP
      exact pMapR hpa
end
end Fj
set_option maxHeartbeats 4000000
/-! the law's small defs -/
namespace Fj
open PySem PySem.Spec PyProof.Rows L2
open C8 (Met Mak InsC pe_mt0 pe_mk)
section
variable {P : Program} {w : World} {K : PySem.W.Frag} {mg : Str → Option Value} {base : Heap}
abbrev slaw_asked : Stmt := top 81
abbrev Nlaw_asked : List Str := ["_law_row"]
theorem sclaw_asked : FnScope Nlaw_asked ["_law_row"] (defScope slaw_asked) := ⟨rfl, rfl, rfl, by decide +kernel, rfl, by decide +kernel, by decide +kernel⟩
def spLAsked (K : PySem.W.Frag) : Sp := fun vs H Q _ => ∃ (v : V) (r : Tr), vs = [v] ∧ RowV All K H v r ∧ ∀ p H', Same H H' → H' p = some (.lst (r.asked.map V.str)) → Q (.ref p) H'
theorem ok_law_asked (F : FnAt K mg "_law_asked" slaw_asked ["_law_row"]) (T : Txt K mg) : Cal P w K mg base CX0 1 "_law_asked" ["_law_row"] (spLAsked K) := by
  refine cal_mk F sclaw_asked (fun vs H Q E h => ?_) (fun f cdv A outer s H vs Q E hr h => ?_)
  · obtain ⟨v, r, rfl, _⟩ := h
    rfl
  · obtain ⟨v, r, rfl, ⟨t, rfl, ht0⟩, q⟩ := h
    have nd := sclaw_asked.nd
    refine ⟨_, (pss_cons (ps_if (pt_cmpR (inK (K := K) rfl) (pe_ix (ixtK (K := K) rfl) (pv 0) pe_int (fun _ _ => rfl)) (pe_tup (pa_cons pe_str (pa_cons pe_str (pa_cons pe_str (pa_cons pe_str (pa_cons pe_str pa_nil)))))) (by rfl)) (pss_one (ps_ret (pe_lst (pa_cons (pe_ix (ixtK (K := K) rfl) (pv 0) (pe_un un_neg pe_int) (fun _ _ => rfl)) pa_nil)))) pss_nil)
      (pss_cons (ps_if (pt_cmpR op_eq (pe_ix (ixtK (K := K) rfl) (pv 0) pe_int (fun _ _ => rfl)) pe_str (nomark _)) (pss_one (ps_ret (pe_lst (pa_cons (pe_ix (ixtK (K := K) rfl) (pv 0) pe_int (fun _ _ => rfl)) (pa_cons (pe_ix (ixtK (K := K) rfl) (pv 0) pe_int (fun _ _ => rfl)) pa_nil))))) pss_nil)
      (pss_cons (ps_if (pt_cmpR op_eq (pe_ix (ixtK (K := K) rfl) (pv 0) pe_int (fun _ _ => rfl)) pe_str (nomark _)) (pss_one (ps_ret (pe_ix (ixtK (K := K) rfl) (pv 0) pe_int (fun _ _ => rfl)))) pss_nil)
      (pss_one (ps_ret (pe_lst pa_nil)))))), ?_⟩
    cases r
    case numbers ns =>
      obtain ⟨l, hx1, hl, _⟩ := ht0
      dsimp only [Tr.kind] at hx1
      walk_at "h"
      refine ⟨sz_of (by simp), fun p hp => ?_⟩
      have s2 := Same.new (o := .tup [V.str "jump", .str "call", .str "jumpif", .str "jumpby", .str "load"]) hp
      refine go_inS (.inr (.of upd_same)) rfl rfl ?_
      have hx2 := s2.tup hx1
      walk_at "h"
      exact ⟨sz_of (by simp), fun p3 hp3 => q p3 _ (s2.trans (Same.new hp3)) upd_same⟩
    case table zs =>
      obtain ⟨l, hx1, hl, _⟩ := ht0
      dsimp only [Tr.kind] at hx1
      walk_at "h"
      refine ⟨sz_of (by simp), fun p hp => ?_⟩
      have s2 := Same.new (o := .tup [V.str "jump", .str "call", .str "jumpif", .str "jumpby", .str "load"]) hp
      refine go_inS (.inr (.of upd_same)) rfl rfl ?_
      have hx2 := s2.tup hx1
      walk_at "h"
      exact q l _ s2 (s2 _ _ hl)
    all_goals
      have hx1 := ht0
      dsimp only [TupV, Tr.items, Tr.vs, Tr.kind, Tr.flat] at hx1
      walk_at "h"
      refine ⟨sz_of (by simp), fun p hp => ?_⟩
      have s2 := Same.new (o := .tup [V.str "jump", .str "call", .str "jumpif", .str "jumpby", .str "load"]) hp
      refine go_inS (.inr (.of upd_same)) rfl rfl ?_
      have hx2 := s2.tup hx1
      walk_at "h"
      exact ⟨sz_of (by simp), fun p3 hp3 => q p3 _ (s2.trans (Same.new hp3)) upd_same⟩
abbrev slaw_wants : Stmt := top 82
abbrev Nlaw_wants : List Str := ["_law_row", "_law_there"]
theorem sclaw_wants : FnScope Nlaw_wants ["_law_row", "_law_there"] (defScope slaw_wants) := ⟨rfl, rfl, rfl, by decide +kernel, rfl, by decide +kernel, by decide +kernel⟩
def spLWants (K : PySem.W.Frag) : Sp := fun vs H Q _ => ∃ (v : V) (r t : Tr), vs = [v, .str t.kind] ∧ RowV All K H v r ∧ t.nm = true ∧ r.asked ≠ [] ∧ ∀ H', Same H H' → Q (.bl (r.fit t)) H'
theorem ok_law_wants (F : FnAt K mg "_law_wants" slaw_wants ["_law_row", "_law_there"]) (T : Txt K mg) : Cal P w K mg base CX0 1 "_law_wants" ["_law_row", "_law_there"] (spLWants K) := by
  refine cal_mk F sclaw_wants (fun vs H Q E h => ?_) (fun f cdv A outer s H vs Q E hr h => ?_)
  · obtain ⟨v, r, t, rfl, _⟩ := h
    rfl
  · obtain ⟨v, r, tt, rfl, ⟨t, rfl, ht0⟩, hn, ha, q⟩ := h
    have nd := sclaw_wants.nd
    refine ⟨_, (pss_cons (ps_if (pt_cmpR op_eq (pe_ix (ixtK (K := K) rfl) (pv 0) pe_int (fun _ _ => rfl)) pe_str (nomark _)) (pss_one (ps_ret (pe_cmpR op_eq (pv 1) pe_str (nomark _)))) pss_nil)
      (pss_cons (ps_if (pt_cmpR op_eq (pe_ix (ixtK (K := K) rfl) (pv 0) pe_int (fun _ _ => rfl)) pe_str (nomark _)) (pss_one (ps_ret (pe_cmpR op_eq (pv 1) pe_str (nomark _)))) pss_nil)
      (pss_one (ps_ret (pe_or (pe_cmpR op_eq (pe_ix (ixtK (K := K) rfl) (pv 0) pe_int (fun _ _ => rfl)) pe_str (nomark _)) (pe_one (pe_cmpR (notInK (K := K) rfl) (pv 1) (pe_tup (pa_cons pe_str (pa_cons pe_str pa_nil))) (by rfl)))))))), ?_⟩
    have e1 : decide (V.str tt.kind = V.str "numbers") = tt.isNum := by cases tt <;> rfl
    have e2 : decide (V.str tt.kind = V.str "table") = tt.isTab := by cases tt <;> rfl
    have e3 : (!inV (V.str tt.kind) [V.str "numbers", .str "table"]) = !tt.isData := by cases tt <;> rfl
    cases r <;> (try (exact absurd rfl ha)) <;> dsimp only [Tr.fit] at q
    case load =>
      have hx1 := ht0
      dsimp only [TupV, Tr.items, Tr.vs, Tr.kind, Tr.flat] at hx1
      walk_at "h"
      rw [e1]
      exact q _ (Same.refl _)
    case jumpby =>
      have hx1 := ht0
      dsimp only [TupV, Tr.items, Tr.vs, Tr.kind, Tr.flat] at hx1
      walk_at "h"
      rw [e2]
      exact q _ (Same.refl _)
    case alike =>
      have hx1 := ht0
      dsimp only [TupV, Tr.items, Tr.vs, Tr.kind, Tr.flat] at hx1
      walk_at "h"
      exact q _ (Same.refl _)
    case table =>
      obtain ⟨l, hx1, hl, _⟩ := ht0
      dsimp only [Tr.kind] at hx1
      walk_at "h"
      refine ⟨sz_of (by simp), fun p hp => ?_⟩
      refine go_inS (.inr (.of upd_same)) rfl rfl ?_
      show Q (.bl (!inV (V.str tt.kind) [V.str "numbers", .str "table"])) _
      rw [e3]
      exact q _ (Same.new hp)
    all_goals
      have hx1 := ht0
      dsimp only [TupV, Tr.items, Tr.vs, Tr.kind, Tr.flat] at hx1
      walk_at "h"
      refine ⟨sz_of (by simp), fun p hp => ?_⟩
      refine go_inS (.inr (.of upd_same)) rfl rfl ?_
      show Q (.bl (!inV (V.str tt.kind) [V.str "numbers", .str "table"])) _
      rw [e3]
      exact q _ (Same.new hp)
abbrev slaw_copied : Stmt := top 86
abbrev Nlaw_copied : List Str := ["_law_row"]
theorem sclaw_copied : FnScope Nlaw_copied ["_law_row"] (defScope slaw_copied) := ⟨rfl, rfl, rfl, by decide +kernel, rfl, by decide +kernel, by decide +kernel⟩
def spCopied (K : PySem.W.Frag) : Sp := fun vs H Q _ => ∃ (v : V) (r : Tr), vs = [v] ∧ RowV All K H v r ∧ ∀ v' H', Same H H' → RowV (fun a => H a = none) K H' v' r → Q v' H'
theorem ok_law_copied (F : FnAt K mg "_law_copied" slaw_copied ["_law_row"]) (T : Txt K mg) : Cal P w K mg base CX0 1 "_law_copied" ["_law_row"] (spCopied K) := by
  refine cal_mk F sclaw_copied (fun vs H Q E h => ?_) (fun f cdv A outer s H vs Q E hr h => ?_)
  · obtain ⟨v, r, rfl, _⟩ := h
    rfl
  · obtain ⟨v, r, rfl, ⟨t, rfl, ht0⟩, q⟩ := h
    have nd := sclaw_copied.nd
    refine ⟨_, (pss_cons (ps_if (pt_cmpR (inK (K := K) rfl) (pe_ix (ixtK (K := K) rfl) (pv 0) pe_int (fun _ _ => rfl)) (pe_tup (pa_cons pe_str (pa_cons pe_str pa_nil))) (by rfl)) (pss_one (ps_ret (pe_tup (pa_cons (pe_ix (ixtK (K := K) rfl) (pv 0) pe_int (fun _ _ => rfl)) (pa_cons (pe_callTy (listK (K := K) rfl) (by rfl) T.n_list (by decide +kernel) (pa_cons (pe_ix (ixtK (K := K) rfl) (pv 0) pe_int (fun _ _ => rfl)) pa_nil)) pa_nil))))) pss_nil)
      (pss_one (ps_ret (pv 0)))), ?_⟩
    cases r
    case numbers ns =>
      obtain ⟨l, hx1, hl, _⟩ := ht0
      dsimp only [Tr.kind] at hx1
      walk_at "h"
      refine ⟨sz_of (by simp), fun p hp => ?_⟩
      have s2 := Same.new (o := .tup [V.str "numbers", .str "table"]) hp
      refine go_inS (.inr (.of upd_same)) rfl rfl ?_
      have hx2 := s2.tup hx1
      walk_at "h"
      refine go_list (.inl (.of (s2 _ _ hl))) fun l' hl' => ?_
      walk_at "h"
      refine ⟨sz_of (by simp), fun p3 hp3 => ?_⟩
      have s3 := Same.new (o := .lst (ns.map V.int)) hl'
      have s4 := Same.new (o := .tup [V.str "numbers", .ref l']) hp3
      exact q _ _ (s2.trans (s3.trans s4)) ⟨p3, rfl, l', .of upd_same, s4 _ _ upd_same, same_none s2 hl'⟩
    case table zs =>
      obtain ⟨l, hx1, hl, _⟩ := ht0
      dsimp only [Tr.kind] at hx1
      walk_at "h"
      refine ⟨sz_of (by simp), fun p hp => ?_⟩
      have s2 := Same.new (o := .tup [V.str "numbers", .str "table"]) hp
      refine go_inS (.inr (.of upd_same)) rfl rfl ?_
      have hx2 := s2.tup hx1
      walk_at "h"
      refine go_list (.inl (.of (s2 _ _ hl))) fun l' hl' => ?_
      walk_at "h"
      refine ⟨sz_of (by simp), fun p3 hp3 => ?_⟩
      have s3 := Same.new (o := .lst (zs.map V.str)) hl'
      have s4 := Same.new (o := .tup [V.str "table", .ref l']) hp3
      exact q _ _ (s2.trans (s3.trans s4)) ⟨p3, rfl, l', .of upd_same, s4 _ _ upd_same, same_none s2 hl'⟩
    all_goals
      have hx1 := ht0
      dsimp only [TupV, Tr.items, Tr.vs, Tr.kind, Tr.flat] at hx1
      walk_at "h"
      refine ⟨sz_of (by simp), fun p hp => ?_⟩
      have s2 := Same.new (o := .tup [V.str "numbers", .str "table"]) hp
      refine go_inS (.inr (.of upd_same)) rfl rfl ?_
      have hx2 := s2.tup hx1
      walk_at "h"
      exact q _ _ s2 ⟨t, rfl, s2.tup ht0⟩
end
end Fj
set_option maxHeartbeats 4000000
/-! _law_stood, _law_due -/
namespace Fj
open PySem PySem.Spec PyProof.Rows L2
open C8 (Met Mak InsC pe_mt0 pe_mk)
section
variable {P : Program} {w : World} {K : PySem.W.Frag} {mg : Str → Option Value} {base : Heap}
theorem kind_mark (r : Tr) : decide (V.str r.kind = V.str "mark") = !r.nm := by cases r <;> rfl
theorem at_mark {R : Prg} (g : Good R) {p : Str × Rows} (mp : p ∈ R) {j : Nat} {z : Str} {s : Bool} (h2 : p.2[j]? = some (.mark z s)) : ∃ t ts, bareR (p.2.drop j) = t :: ts ∧ atE R ⟨z, s, p.1, (bareR (p.2.take j)).length⟩ = some t := by
  have hw := (g.rows p mp).e j (List.getElem?_eq_some_iff.mp h2).1
  unfold endsW at hw
  rw [h2] at hw
  have hb : (behind p.2 j).isSome = true := hw
  unfold behind at hb
  have hsp : bareR p.2 = bareR (p.2.take j) ++ bareR (p.2.drop (j + 1)) := by
    conv => lhs; rw [split_at h2]
    unfold bareR
    rw [List.filter_append]
    rfl
  have hd : p.2.drop j = .mark z s :: p.2.drop (j + 1) := List.drop_eq_getElem?_toList_append.trans (by rw [h2]; rfl)
  cases ht : bareR (p.2.drop (j + 1)) with
  | nil => rw [ht] at hb; cases hb
  | cons t ts =>
    refine ⟨t, ts, ?_, ?_⟩
    · rw [hd]
      exact ht
    · unfold atE
      show ((R.find? fun q => decide (q.1 = p.1)).bind fun p' => (bareR p'.2)[(bareR (p.2.take j)).length]?) = some t
      rw [find_part g.nd mp]
      show (bareR p.2)[(bareR (p.2.take j)).length]? = some t
      rw [hsp, ht, List.getElem?_append_right (Nat.le_refl _), Nat.sub_self]
      rfl
/-- the kind that stands at a name -/
def KdF (R : Prg) (kv : Key × V) (e : Ent) : Prop := kv.1 = Sum.inr e.name ∧ ∃ t, atE R e = some t ∧ kv.2 = .str t.kind
abbrev slaw_stood : Stmt := top 83
abbrev Nlaw_stood : List Str := ["_law_program_here", "_law_found", "_law_part", "_law_rows", "_law_k", "_law_row", "_law_one"]
theorem sclaw_stood : FnScope Nlaw_stood ["_law_program_here"] (defScope slaw_stood) := ⟨rfl, rfl, rfl, by decide +kernel, rfl, by decide +kernel, by decide +kernel⟩
def spStood (K : PySem.W.Frag) : Sp := fun vs H Q _ => ∃ (v : V) (R : Prg), vs = [v] ∧ ProgV All K H v R ∧ Good R ∧ ∀ D H' kvs, H D = none → Same H H' → H' D = some (.dK kvs) → Paired (KdF R) kvs (entsP R) → Q (.ref D) H'
theorem go_hd {r : Tr} {W : Addr → Prop} {H : Hp} {Q : VK} {t : Addr} (h : TupV W K H t r) (q : Q (.str r.kind) H) : rIxT K (.ref t) (.int 0) H Q := by
  obtain ⟨xs, hx⟩ := r.hd h
  exact go_ixT hx (atI_nat (j := 0) rfl) q
theorem ok_law_stood (F : FnAt K mg "_law_stood" slaw_stood ["_law_program_here"]) (T : Txt K mg) : Cal P w K mg base CX0 1 "_law_stood" ["_law_program_here"] (spStood K) := by
  refine cal_mk F sclaw_stood (fun vs H Q E h => ?_) (fun f cdv A outer s H vs Q E hr h => ?_)
  · obtain ⟨v, r, rfl, _⟩ := h
    rfl
  · obtain ⟨v, R, rfl, ⟨l, ys, rfl, hl, _, hp⟩, hg, q⟩ := h
    have hu := hu_of hr
    have nd := sclaw_stood.nd
    refine ⟨_, (pss_cons (ps_set (i := 1) nd rfl (Or.inl rfl) pe_dnewK)
      (pss_cons (ps_for PassesOwn.never rfl (pi_list (pv 0)) (pg_tup rfl (pgs_cons (pg_name (i := 2) nd rfl (Or.inl rfl)) (pgs_cons (pg_name (i := 3) nd rfl (Or.inl rfl)) pgs_nil))) (pss_one (ps_for PassesOwn.never rfl (pi_enum (by rfl) T.n_enumerate (pa_cons (pv 3) pa_nil)) (pg_tup rfl (pgs_cons (pg_name (i := 4) nd rfl (Or.inl rfl)) (pgs_cons (pg_name (i := 5) nd rfl (Or.inl rfl)) pgs_nil))) (pss_one (ps_if (pt_cmpR op_eq (pe_ix (ixtK (K := K) rfl) (pv 5) pe_int (fun _ _ => rfl)) pe_str (nomark _)) (pss_one (ps_dput hu (pv 1) (pe_ix (ixtK (K := K) rfl) (pv 5) pe_int (fun _ _ => rfl)) (pe_ix (ixtK (K := K) rfl) (pe_ix (ixlK (K := K) rfl) (pe_lc (own := [("_law_one", 6)]) (g := gName 6) (by rfl) nd (pi_list (pe_slice (sllK (K := K) rfl) (pv 3) (po_some (pv 4)) po_none)) (blkOk_by (N := Nlaw_stood) (sc := (defScope slaw_stood)) (by decide +kernel)) (fun _ _ _ _ _ => (pg_name (i := 6) nd rfl (Or.inl rfl))) (fun _ _ _ _ _ => (pts_one (pt_cmpR op_ne (pe_ix (ixtK (K := K) rfl) (pv 6) pe_int (fun _ _ => rfl)) pe_str (nomark _)))) (fun _ _ _ _ _ => (pv 6))) pe_int (fun _ _ => rfl)) pe_int (fun _ _ => rfl)) rfl)) pss_nil)))))
      (pss_one (ps_ret (pv 1))))), ?_⟩
    walk_at "h"
    intro D hD
    have s0 : Same H (upd H D (.dK [])) := Same.new hD
    have hpl := pLen hp
    walk_at "h"
    refine ⟨l, rfl, ⟨_, .of (s0 _ _ hl)⟩, ?_⟩
    refine for_list (xs := ys) (fun i σ H2 => ∃ (a b c d e : Option V) (kvs : List (Key × V)), σ = [some (.ref l), some (.ref D), a, b, c, d, e] ∧ Same H H2 ∧ H2 D = some (.dK kvs) ∧ Paired (KdF R) kvs (entsP (R.take i)))
      ⟨none, none, none, none, none, [], rfl, s0, upd_same, .nil⟩ ?_ ?_ ?_
    · rintro i σ H2 _ ⟨a, b, c, d, e, kvs, rfl, s2, _⟩
      exact .of (s2 _ _ hl)
    · rintro i x σ H2 hx ⟨a, b, c, d, e, kvs, rfl, s2, hd, hkv⟩
      obtain ⟨p, hp1, hv⟩ := pAt hp hx
      have hmp := List.mem_of_getElem? hp1
      have hgr := hg.rows p hmp
      obtain ⟨t, l2, xs2, rfl, ht0, hl20, _, hr20⟩ := hv
      have ht := s2 _ _ ht0
      have hl2 := s2 _ _ hl20
      have hi : i < R.length := (List.getElem?_eq_some_iff.mp hp1).1
      have e2 := pLen hr20
      have e3 := hgr.hi
      have hll2 : SqL K H2 l2 xs2 := .of hl2
      walk_at "h"
      refine ⟨l2, xs2, rfl, hll2, ?_⟩
      refine for_enum (xs := xs2) (fun j σ H3 => ∃ (c d e : Option V) (kvs : List (Key × V)), σ = [some (.ref l), some (.ref D), some (.str p.1), some (.ref l2), c, d, e] ∧ Same H H3 ∧ H3 D = some (.dK kvs) ∧ Paired (KdF R) kvs (entsP (R.take i) ++ ents p.1 0 (p.2.take j)))
        ⟨_, _, _, kvs, rfl, s2, hd, by rw [List.take_zero]; show Paired _ _ (_ ++ []); rw [List.append_nil]; exact hkv⟩ ?_ ?_ ?_
      · rintro j σ H3 _ ⟨c, d, e, kvs, rfl, s3, _⟩
        exact .of (s3 _ _ hl20)
      · rintro j x σ H3 T3 hx3 ⟨c, d, e, kvs, rfl, s3, hd3, hkv3⟩ hT3
        obtain ⟨r, hr3, hv3⟩ := pAt hr20 hx3
        have s4 : Same H3 (upd H3 T3 (.tup [.int (j : Nat), x])) := Same.new hT3
        have hT4 : SqT K (upd H3 T3 (.tup [.int (j : Nat), x])) T3 [.int (j : Nat), x] := .of upd_same
        generalize upd H3 T3 (.tup [.int (j : Nat), x]) = H4 at *
        obtain ⟨tr, rfl, htr⟩ := hv3.same (s3.trans s4)
        have hd4 := s4 _ _ hd3
        walk_at "h"
        refine go_hd htr ?_
        walk_at "h"
        rw [kind_mark]
        refine ite2 (fun hn => ?_) (fun hn => ?_)
        · cases r <;> (try (cases hn; done))
          case mark z s =>
            have htm : SqT K H4 tr [.str "mark", .str z, .bl s] := htr
            obtain ⟨tb, ts, hdr, hat⟩ := at_mark hg hmp hr3
            have hl24 : SqL K H4 l2 xs2 := .of ((s3.trans s4) _ _ hl20)
            walk_at "h"
            refine go_slL hl24 fun p5 hp5 => ?_
            rw [cut_from]
            have s5 : Same H4 (upd H4 p5 (.lst (xs2.drop j))) := Same.new hp5
            refine ⟨p5, rfl, ⟨_, .of upd_same⟩, ?_⟩
            intro D6 hD6
            have hp6 : Paired (RowV (fun a => All a ∧ a ≠ D6) K (upd H4 p5 (.lst (xs2.drop j)))) (xs2.drop j) (p.2.drop j) := pImp (pDrop j hr20) fun _ _ z => (z.same (s3.trans (s4.trans s5))).fresh hD6
            refine lc_genL (p.2.drop j) Tr.nm (fun y r H => RowV (fun a => All a ∧ a ≠ D6) K H y r) stable_row (.of upd_same) (pLen hp6) (by rw [List.length_drop]; omega) hD6 ?_ ?_
            · intro m y7 r7 H7 hy7 hr7 s7 _ NY NN ny nn
              obtain ⟨r7', e7, hro⟩ := pAt hp6 hy7
              rw [hr7] at e7
              cases e7
              obtain ⟨t7, rfl, ht7⟩ := hro.same s7
              walk_at "h"
              refine ⟨rfl, ?_⟩
              walk_at "h"
              refine go_hd ht7 ?_
              walk_at "h"
              rw [kind_mark]
              refine ite2 (fun hi => ?_) (fun hi => ?_)
              · walk_at "h"
                exact ny _ _ (by simpa using hi) (Same.refl _) ⟨t7, rfl, ht7⟩
              · exact nn _ (by simpa using hi) (Same.refl _)
            · intro H7 acc s7 hacc hpa
              unfold bareR at hdr
              rw [hdr] at hpa
              have hs47 : Same H4 H7 := s5.trans s7
              have htm7 := hs47.tup htm
              have hd7 := hs47 _ _ hd4
              cases hpa with
              | @cons y0 _ ys0 _ ry rt =>
                obtain ⟨t8, rfl, ht8⟩ := ry
                walk_at "h"
                refine go_ixL (.of hacc) (atI_nat (j := 0) rfl) ?_
                walk_at "h"
                refine go_hd ht8 ?_
                walk_at "h"
                have hnn := new_name hg.mks hp1 hr3
                have hkl : kvs.length ≤ 60 * 4 := by
                  rw [pLen hkv3, List.length_append]
                  have z1 := entsP_len (R := R.take i ++ [p]) (n := 60) (fun p' m => by
                    rcases List.mem_append.mp m with m | m
                    · exact (hg.rows p' (List.mem_of_mem_take m)).hi
                    · rw [List.mem_singleton.mp m]; exact e3)
                  have z2 : (ents p.1 0 (p.2.take j)).length ≤ (ents p.1 0 p.2).length := by
                    conv => rhs; rw [split_at hr3, ents_append, List.length_append]
                    exact Nat.le_add_right _ _
                  rw [entsP_append, List.length_append, List.length_append, List.length_take] at z1
                  have z3 : (entsP [p]).length = (ents p.1 0 p.2).length := by show (ents p.1 0 p.2 ++ []).length = _; rw [List.append_nil]
                  have z4 := hg.hi
                  simp only [List.length_cons, List.length_nil] at z1
                  omega
                have hnew : valV kvs (.inr z) = none := valV_none fun kv m e6 => by
                  have m1 : kv.1 ∈ kvs.map (·.1) := List.mem_map_of_mem m
                  rw [keys_gen (F := fun v e => ∃ t, atE R e = some t ∧ v = .str t.kind) hkv3, e6] at m1
                  obtain ⟨e7, m2, e8⟩ := List.mem_map.mp m1
                  exact hnn e7 m2 (Sum.inr.inj e8)
                refine ⟨D, _, rfl, DPut.k (k := .inr z) hd7 (sz_lt (by omega)), ?_⟩
                rw [putK_new _ hnew]
                refine ⟨_, _, _, _, rfl, ((s3.trans s4).trans hs47).mut hD, upd_same, ?_⟩
                rw [take_snoc hr3, ents_append, ← List.append_assoc, Nat.zero_add]
                exact pSnoc hkv3 ⟨rfl, tb, hat, rfl⟩
        · have hn' : r.nm = true := by simpa using hn
          walk_at "h"
          refine ⟨_, _, _, kvs, rfl, s3.trans s4, hd4, ?_⟩
          rw [take_snoc hr3, ents_append, ents_not hn', List.append_nil]
          exact hkv3
      · rintro σ H3 ⟨c, d, e, kvs, rfl, s3, hd3, hkv3⟩
        refine ⟨_, _, _, _, _, kvs, rfl, s3, hd3, ?_⟩
        rw [take_snoc hp1, entsP_append]
        rw [e2, List.take_of_length_le (Nat.le_refl _)] at hkv3
        show Paired _ _ (_ ++ (_ ++ []))
        rw [List.append_nil]
        exact hkv3
    · rintro σ H2 ⟨a, b, c, d, e, kvs, rfl, s2, hd, hkv⟩
      walk_at "h"
      refine q D H2 kvs hD s2 hd ?_
      rw [hpl, List.take_of_length_le (Nat.le_refl _)] at hkv
      exact hkv
theorem KdD_get {H : Hp} {D : Addr} {R : Prg} {kvs : List (Key × V)} (hD : H D = some (.dK kvs)) (c : Paired (KdF R) kvs (entsP R)) (nd : (namesP R).Nodup) (x : Str) : ∃ o, DGet H D (.str x) o ∧ match lkE R x with
    | none => o = none
    | some e => ∃ t, atE R e = some t ∧ o = some (.str t.kind) := by
  refine ⟨_, DGet.k (k := .inr x) hD, ?_⟩
  cases hl : lkE R x with
  | none =>
    have h1 := find_none_iff.mp hl
    refine valV_none fun kv m e => ?_
    have m1 : kv.1 ∈ kvs.map (·.1) := List.mem_map_of_mem m
    rw [keys_gen (F := fun v e => ∃ t, atE R e = some t ∧ v = .str t.kind) c, e] at m1
    obtain ⟨e7, m2, e8⟩ := List.mem_map.mp m1
    exact h1 e7 m2 (Sum.inr.inj e8)
  | some e =>
    have h1 : e.name = x := by simpa using List.find?_some hl
    have h2 : e ∈ entsP R := List.mem_of_find?_eq_some hl
    obtain ⟨v, hv, t, ht, rfl⟩ := valV_at (F := fun v e => ∃ t, atE R e = some t ∧ v = .str t.kind) c nd h2
    rw [h1] at hv
    exact ⟨t, ht, hv⟩
abbrev slaw_due : Stmt := top 84
abbrev Nlaw_due : List Str := ["_law_program_here", "_law_stood_here", "_law_part", "_law_rows", "_law_row", "_law_k", "_law_name_here"]
theorem sclaw_due : FnScope Nlaw_due ["_law_program_here"] (defScope slaw_due) := ⟨rfl, rfl, rfl, by decide +kernel, rfl, by decide +kernel, by decide +kernel⟩
def spDue (K : PySem.W.Frag) : Sp := fun vs H Q _ => ∃ (v : V) (R : Prg), vs = [v] ∧ ProgV All K H v R ∧ Good R ∧ ∀ v' H', Same H H' → DW All K H' v' (dueD (dueP R)) → Q v' H'
theorem ok_law_due (F : FnAt K mg "_law_due" slaw_due ["_law_program_here"]) (T : Txt K mg) (G_law_stood : Cal P w K mg base CX0 1 "_law_stood" ["_law_program_here"] (spStood K)) (G_law_asked : Cal P w K mg base CX0 1 "_law_asked" ["_law_row"] (spLAsked K)) (G_law_wants : Cal P w K mg base CX0 1 "_law_wants" ["_law_row", "_law_there"] (spLWants K)) : Cal P w K mg base CX0 2 "_law_due" ["_law_program_here"] (spDue K) := by
  refine cal_mk F sclaw_due (fun vs H Q E h => ?_) (fun f cdv A outer s H vs Q E hr h => ?_)
  · obtain ⟨v, r, rfl, _⟩ := h
    rfl
  · obtain ⟨v, R, rfl, hv0, hg, q⟩ := h
    have hu := hu_of hr
    have nd := sclaw_due.nd
    refine ⟨_, (pss_cons (ps_set (i := 1) nd rfl (Or.inl rfl) (pe_cal G_law_stood hr (by decide) rfl pass0 (pa_cons (pv 0) pa_nil)))
      (pss_cons (ps_for PassesOwn.never rfl (pi_list (pv 0)) (pg_tup rfl (pgs_cons (pg_name (i := 2) nd rfl (Or.inl rfl)) (pgs_cons (pg_name (i := 3) nd rfl (Or.inl rfl)) pgs_nil))) (pss_one (ps_for PassesOwn.never rfl (pi_enum (by rfl) T.n_enumerate (pa_cons (pe_lc (own := [("_law_row", 4)]) (g := gName 4) (by rfl) nd (pi_list (pv 3)) (blkOk_by (N := Nlaw_due) (sc := (defScope slaw_due)) (by decide +kernel)) (fun _ _ _ _ _ => (pg_name (i := 4) nd rfl (Or.inl rfl))) (fun _ _ _ _ _ => (pts_one (pt_cmpR op_ne (pe_ix (ixtK (K := K) rfl) (pv 4) pe_int (fun _ _ => rfl)) pe_str (nomark _)))) (fun _ _ _ _ _ => (pv 4))) pa_nil)) (pg_tup rfl (pgs_cons (pg_name (i := 5) nd rfl (Or.inl rfl)) (pgs_cons (pg_name (i := 4) nd rfl (Or.inl rfl)) pgs_nil))) (pss_one (ps_for PassesOwn.never rfl (pi_list (pe_cal G_law_asked hr (by decide) rfl pass0 (pa_cons (pv 4) pa_nil))) (pg_name (i := 6) nd rfl (Or.inl rfl)) (pss_cons (ps_if (pt_cmp (pc_dnotin hu (pv 6) (pv 1))) (pss_one (ps_ret (pe_tup (pa_cons pe_str (pa_cons (pv 6) (pa_cons (pv 2) (pa_cons (pv 5) pa_nil))))))) pss_nil)
      (pss_one (ps_if (pt_not (pt_val (pe_cal G_law_wants hr (by decide) rfl pass0 (pa_cons (pv 4) (pa_cons (pe_dget hu (pv 1) (pv 6) (fun _ _ => rfl)) pa_nil))))) (pss_one (ps_ret (pe_tup (pa_cons pe_str (pa_cons (pv 6) (pa_cons (pv 2) (pa_cons (pv 5) pa_nil))))))) pss_nil))))))))
      (pss_one (ps_ret pe_non)))), ?_⟩
    walk_at "h"
    refine ⟨v, R, rfl, hv0, hg, fun D H1 kvs hD s1 hd hkv => ?_⟩
    obtain ⟨l, ys, rfl, hl, _, hp⟩ := hv0.same s1
    have hpl := pLen hp
    have hll : SqL K H1 l ys := .of hl
    walk_at "h"
    refine for_list (xs := ys) (fun i σ H3 => ∃ (a b c d e : Option V), σ = [some (.ref l), some (.ref D), a, b, c, d, e] ∧ Same H1 H3 ∧ (R.take i).findSome? (fun p => dueRows R p.1 0 (bareR p.2)) = none)
      ⟨_, _, _, _, _, rfl, Same.refl _, rfl⟩ ?_ ?_ ?_
    · rintro i σ H3 _ ⟨a, b, c, d, e, rfl, s3, _⟩
      exact s3.seq hll
    · rintro i x σ H3 hx ⟨a, b, c, d, e, rfl, s3, hn3⟩
      obtain ⟨p, hp1, hv⟩ := pAt hp hx
      have hm1 := List.mem_of_getElem? hp1
      have hgr := hg.rows p hm1
      obtain ⟨t, l2, xs2, rfl, ht, hl2, _, hr2⟩ := hv.same s3
      have hll2 : SqL K H3 l2 xs2 := .of hl2
      have e5 := pLen hr2
      walk_at "h"
      intro D4 hD4
      have hp4 : Paired (RowV (fun a => All a ∧ a ≠ D4) K H3) xs2 p.2 := pImp hr2 fun _ _ z => z.fresh hD4
      refine lc_genL p.2 Tr.nm (fun y r H => RowV (fun a => All a ∧ a ≠ D4) K H y r) stable_row hll2 e5 (by have := hgr.hi; omega) hD4 ?_ ?_
      · intro m y7 r7 H7 hy7 hr7 s7 _ NY NN ny nn
        obtain ⟨r7', e7, hro⟩ := pAt hp4 hy7
        rw [hr7] at e7
        cases e7
        obtain ⟨t7, rfl, ht7⟩ := hro.same s7
        walk_at "h"
        refine ⟨rfl, ?_⟩
        walk_at "h"
        refine go_hd ht7 ?_
        walk_at "h"
        rw [kind_mark]
        refine ite2 (fun hi => ?_) (fun hi => ?_)
        · walk_at "h"
          exact ny _ _ (by simpa using hi) (Same.refl _) ⟨t7, rfl, ht7⟩
        · exact nn _ (by simpa using hi) (Same.refl _)
      · intro H4 bs s4 hbA hbo
        have hbo : Paired (RowV (fun a => All a ∧ a ≠ D4) K H4) bs (bareR p.2) := hbo
        have hbl := pLen hbo
        have hbS : SqL K H4 D4 bs := .of hbA
        walk_at "h"
        refine ⟨D4, bs, rfl, hbS, ?_⟩
        refine for_enum (xs := bs) (fun j σ H5 => ∃ (c d e : Option V), σ = [some (.ref l), some (.ref D), some (.str p.1), some (.ref l2), c, d, e] ∧ Same H4 H5 ∧ dueRows R p.1 0 ((bareR p.2).take j) = none)
          ⟨_, _, _, rfl, Same.refl _, rfl⟩ ?_ ?_ ?_
        · rintro j σ H5 _ ⟨c, d, e, rfl, s5, _⟩
          exact s5.seq hbS
        · rintro j y σ H5 T5 hy ⟨c, d, e, rfl, s5, hn4⟩ hT5
          obtain ⟨r, hr1, hro⟩ := pAt hbo hy
          have s6 : Same H5 (upd H5 T5 (.tup [.int (j : Nat), y])) := Same.new hT5
          have hT6 : SqT K (upd H5 T5 (.tup [.int (j : Nat), y])) T5 [.int (j : Nat), y] := .of upd_same
          generalize upd H5 T5 (.tup [.int (j : Nat), y]) = H6 at *
          have hro6 := (hro.same (s5.trans s6)).mono
          walk_at "h"
          refine ⟨y, r, rfl, hro6, fun pA H7 s7 hA7 => ?_⟩
          have hA7S : SqL K H7 pA (r.asked.map V.str) := .of hA7
          refine ⟨pA, rfl, ⟨_, hA7S⟩, ?_⟩
          refine for_list (xs := r.asked.map V.str) (fun m σ H8 => ∃ (e : Option V), σ = [some (.ref l), some (.ref D), some (.str p.1), some (.ref l2), some y, some (.int (j : Nat)), e] ∧ Same H7 H8 ∧ (r.asked.take m).findSome? (dueZ R r p.1 j) = none)
            ⟨_, rfl, Same.refl _, rfl⟩ ?_ ?_ ?_
          · rintro m σ H8 _ ⟨e, rfl, s8, _⟩
            exact s8.seq hA7S
          · rintro m x8 σ H8 hx8 ⟨e, rfl, s8, hn8⟩
            rw [List.getElem?_map] at hx8
            obtain ⟨nz, hnz, rfl⟩ := Option.map_eq_some_iff.mp hx8
            have sAll : Same H1 H8 := s3.trans (s4.trans (s5.trans (s6.trans (s7.trans s8))))
            obtain ⟨o, hzg, hzo⟩ := KdD_get (sAll _ _ hd) hkv hg.mks nz
            have due_at : ∀ u, dueZ R r p.1 j nz = some u → dueP R = some u := fun u hu => by
              have e1 : dueR R p.1 j r = some u := some_at hnz hn8 hu
              have e2 := dueRows_at hr1 hn4 e1
              exact some_at hp1 hn3 e2
            walk_at "h"
            refine ⟨D, o, rfl, hzg, ?_⟩
            walk_at "h"
            cases hlk : lkE R nz with
            | none =>
              rw [hlk] at hzo
              subst hzo
              walk_at "h"
              refine ⟨sz_of (by simp), fun tp htp => ?_⟩
              have hu : dueZ R r p.1 j nz = some ⟨true, nz, p.1, j⟩ := by unfold dueZ; rw [hlk]
              refine q _ _ ((s1.trans sAll).trans (Same.new htp)) ?_
              rw [due_at _ hu]
              exact .tup (.of upd_same) (.cons (.str _) (.cons (.str _) (.cons (.str _) (.cons (.int _) .nil))))
            | some en =>
              rw [hlk] at hzo
              obtain ⟨tr, hat, rfl⟩ := hzo
              have hmE : en ∈ entsP R := List.mem_of_find?_eq_some hlk
              obtain ⟨pT, mT, hpart, tr', htr', hat', htn⟩ := at_ent hg hmE
              rw [hat] at hat'
              cases hat'
              walk_at "h"
              refine ⟨D, _, rfl, hzg, ?_⟩
              walk_at "h"
              have hne : r.asked ≠ [] := fun e8 => by rw [e8] at hnz; cases hnz
              refine ⟨y, r, tr, rfl, hro6.same (s7.trans s8), htn, hne, fun H9 s9 => ?_⟩
              walk_at "h"
              refine ite2 (fun hf => ?_) (fun hf => ?_)
              · have hf' : r.fit tr = false := by simpa using hf
                walk_at "h"
                refine ⟨sz_of (by simp), fun tp htp => ?_⟩
                have hu : dueZ R r p.1 j nz = some ⟨false, nz, p.1, j⟩ := by
                  unfold dueZ
                  rw [hlk]
                  show (match atE R en with | some t => if r.fit t then none else some _ | none => none) = _
                  rw [hat]
                  show (if r.fit tr = true then none else some _) = _
                  rw [hf']
                  rfl
                refine q _ _ ((s1.trans (sAll.trans s9)).trans (Same.new htp)) ?_
                rw [due_at _ hu]
                exact .tup (.of upd_same) (.cons (.str _) (.cons (.str _) (.cons (.str _) (.cons (.int _) .nil))))
              · have hf' : r.fit tr = true := by simpa using hf
                have hu : dueZ R r p.1 j nz = none := by
                  unfold dueZ
                  rw [hlk]
                  show (match atE R en with | some t => if r.fit t then none else some _ | none => none) = _
                  rw [hat]
                  show (if r.fit tr = true then none else some _) = _
                  rw [hf']
                  rfl
                walk_at "h"
                exact ⟨_, rfl, s8.trans s9, none_snoc hnz hn8 hu⟩
          · rintro σ H8 ⟨e, rfl, s8, hn8⟩
            rw [List.length_map, List.take_of_length_le (Nat.le_refl _)] at hn8
            exact ⟨_, _, _, rfl, s5.trans (s6.trans (s7.trans s8)), dueRows_snoc hr1 hn4 hn8⟩
        · rintro σ H5 ⟨c, d, e, rfl, s5, hn5⟩
          rw [hbl, List.take_of_length_le (Nat.le_refl _)] at hn5
          exact ⟨_, _, _, _, _, rfl, s3.trans (s4.trans s5), none_snoc hp1 hn3 hn5⟩
    · rintro σ H3 ⟨a, b, c, d, e, rfl, s3, hn3⟩
      rw [hpl, List.take_of_length_le (Nat.le_refl _)] at hn3
      walk_at "h"
      refine q _ _ (s1.trans s3) ?_
      have e : dueP R = none := hn3
      rw [e]
      exact .non
end
end Fj
set_option maxHeartbeats 4000000
/-! _law_bare, _law_told -/
namespace Fj
open PySem PySem.Spec PyProof.Rows L2
open C8 (Met Mak InsC pe_mt0 pe_mk)
section
variable {P : Program} {w : World} {K : PySem.W.Frag} {mg : Str → Option Value} {base : Heap}
abbrev slaw_bare : Stmt := top 87
abbrev Nlaw_bare : List Str := ["_law_program_here", "_law_part", "_law_rows", "_law_row"]
theorem sclaw_bare : FnScope Nlaw_bare ["_law_program_here"] (defScope slaw_bare) := ⟨rfl, rfl, rfl, by decide +kernel, rfl, by decide +kernel, by decide +kernel⟩
theorem part_uniq {W : Addr → Prop} {H : Hp} {x : V} {p q : Str × Rows} (h : PartV W K H x p) (h' : PartV W K H x q) : p.1 = q.1 := by
  obtain ⟨t, l, xs, rfl, e, _⟩ := h
  obtain ⟨t', l', xs', e1, e', _⟩ := h'
  cases e1
  rw [e] at e'
  have e2 := Option.some.inj e'
  injection e2 with e2
  injection e2 with e3 _
  injection e3
/-- the name of a part -/
theorem names_of {W : Addr → Prop} {H : Hp} {xs : List V} {R : Prg} (h : Paired (PartV W K H) xs R) (nd : (R.map Prod.fst).Nodup) : ∃ k : V → Str, Paired (fun x p => PartV W K H x p ∧ k x = p.1) xs R ∧ ∀ x ∈ xs, ∀ y ∈ xs, k x = k y → x = y := by
  have hc : ∀ x : V, ∃ z : Str, ∀ p, PartV W K H x p → z = p.1 := fun x => by
    by_cases hx : ∃ p, PartV W K H x p
    · obtain ⟨p, hp⟩ := hx
      exact ⟨p.1, fun q hq => part_uniq hp hq⟩
    · exact ⟨"", fun p hp => absurd ⟨p, hp⟩ hx⟩
  have hk : ∀ x p, PartV W K H x p → (hc x).choose = p.1 := fun x p hp => (hc x).choose_spec p hp
  refine ⟨fun x => (hc x).choose, pImp h fun x p z => ⟨z, hk x p z⟩, ?_⟩
  clear hk
  intro x hx y hy e
  obtain ⟨i, hi⟩ := List.getElem?_of_mem hx
  obtain ⟨j, hj⟩ := List.getElem?_of_mem hy
  obtain ⟨p, hp, pv⟩ := pAt h hi
  obtain ⟨q, hq, qv⟩ := pAt h hj
  have e1 : p.1 = q.1 := by
    rw [← (hc x).choose_spec p pv, ← (hc y).choose_spec q qv]
    exact e
  have li := (List.getElem?_eq_some_iff.mp hp)
  have lj := (List.getElem?_eq_some_iff.mp hq)
  have eij : i = j := by
    rcases Nat.lt_trichotomy i j with l | l | l
    · exact absurd e1 (nodup_take nd hq p (List.mem_of_getElem? (i := i) (by rw [List.getElem?_take, if_pos l]; exact hp)))
    · exact l
    · exact absurd e1.symm (nodup_take nd hp q (List.mem_of_getElem? (i := j) (by rw [List.getElem?_take, if_pos l]; exact hq)))
  subst eij
  rw [hi] at hj
  exact Option.some.inj hj
def spLBare (K : PySem.W.Frag) : Sp := fun vs H Q _ => ∃ (v : V) (R : Prg), vs = [v] ∧ ProgV All K H v R ∧ Good R ∧ ∀ F H' ws R', Same H H' → H' F = some (.lst ws) → R'.Perm R → SrtdS (R'.map Prod.fst) → Paired (PartV All K H') ws (bareP R') → Q (.ref F) H'
theorem map_names {W : Addr → Prop} {H : Hp} {k : V → Str} : ∀ {xs : List V} {R : Prg}, Paired (fun x p => PartV W K H x p ∧ k x = p.1) xs R → xs.map k = R.map Prod.fst
  | _, _, .nil => rfl
  | _, _, .cons r t => by rw [List.map_cons, List.map_cons, r.2, map_names t]
theorem ok_law_bare (F : FnAt K mg "_law_bare" slaw_bare ["_law_program_here"]) (T : Txt K mg) : Cal P w K mg base CX0 1 "_law_bare" ["_law_program_here"] (spLBare K) := by
  refine cal_mk F sclaw_bare (fun vs H Q E h => ?_) (fun f cdv A outer s H vs Q E hr h => ?_)
  · obtain ⟨v, r, rfl, _⟩ := h
    rfl
  · obtain ⟨v, R, rfl, ⟨l, ys, rfl, hl, _, hp⟩, hg, q⟩ := h
    have nd := sclaw_bare.nd
    refine ⟨_, (pss_one (ps_ret (pe_lc (te := tTup (tCons (tVar 1) (tCons (tLc (iList K (tVar 2)) (gName 3) (tTest (tOp rNe (tOp (rIxT K) (tVar 3) (tC (.int 0))) (tC (.str "mark")))) (tVar 3) [3]) tNil))) (own := [("_law_part", 1), ("_law_rows", 2)]) (g := gTup K 2 (gCons (gName 1) (gCons (gName 2) (gNil)))) (tt := tYes) (by rfl) nd (pi_list (pe_callB cl_sortNP (by rfl) T.n_sorted (by decide +kernel) (pa_cons (pv 0) pa_nil))) (blkOk_by (N := Nlaw_bare) (sc := (defScope slaw_bare)) (by decide +kernel)) (fun _ _ _ _ _ => (pg_tup rfl (pgs_cons (pg_name (i := 1) nd rfl (Or.inl rfl)) (pgs_cons (pg_name (i := 2) nd rfl (Or.inl rfl)) pgs_nil)))) (fun _ _ _ _ _ => pts_nil) (fun _ _ _ _ _ => (pe_tup (pa_cons (pv 1) (pa_cons (pe_lc (own := [("_law_row", 3)]) (g := gName 3) (by rfl) nd (pi_list (pv 2)) (blkOk_by (N := Nlaw_bare) (sc := ({ kind := .function, names := [(".0", .local), ("_law_part", .local), ("_law_rows", .local)], isGenerator := false, isCoroutine := false, more := [] } : PySem.Scope)) (by decide +kernel)) (fun _ _ _ _ _ => (pg_name (i := 3) nd rfl (Or.inl rfl))) (fun _ _ _ _ _ => (pts_one (pt_cmpR op_ne (pe_ix (ixtK (K := K) rfl) (pv 3) pe_int (fun _ _ => rfl)) pe_str (nomark _)))) (fun _ _ _ _ _ => (pv 3))) pa_nil))))))), ?_⟩
    obtain ⟨k, hk, hu⟩ := names_of hp hg.nd
    have hll : SqL K H l ys := .of hl
    walk_at "h"
    refine ⟨l, ys, k, rfl, hll, fun x m => ?_, hu, fun us S hus hsr hS => ?_⟩
    · obtain ⟨i, hi⟩ := List.getElem?_of_mem m
      obtain ⟨p, _, ⟨t, l2, xs2, e, ht, _⟩, hkp⟩ := pAt hk hi
      exact ⟨t, l2, e, .of (by rw [hkp]; exact ht)⟩
    obtain ⟨R', hR', hpR⟩ := pPerm hus hk
    rw [map_names hpR] at hsr
    have s1 : Same H (upd H S (.lst us)) := Same.new hS
    have hS1 : upd H S (.lst us) S = some (.lst us) := upd_same
    generalize upd H S (.lst us) = H1 at *
    refine ⟨S, rfl, ⟨_, .of hS1⟩, ?_⟩
    intro D hD
    have hp1 : Paired (PartV (fun a => All a ∧ a ≠ D) K H1) us R' := pImp hpR fun _ _ z => (z.1.same s1).fresh hD
    refine lc_genL R' (fun _ => true) (fun y p H3 => PartV (fun a => All a ∧ a ≠ D) K H3 y (p.1, bareR p.2)) (fun y p H H' acc hDa b r => r.keep (.but b hDa fun a z => ⟨z, z.2⟩)) (.of hS1) (pLen hp1) (by rw [hR'.length_eq]; have := hg.hi; omega) hD ?_ ?_
    · intro i x p H3 hx hp3 s3 hacc NY NN ny nn
      obtain ⟨p', e, hv⟩ := pAt hp1 hx
      rw [hp3] at e
      cases e
      have hgr := hg.rows p (hR'.mem_iff.mp (List.mem_of_getElem? hp3))
      obtain ⟨t, l2, xs2, rfl, ht, hl2, _, hr2⟩ := hv.same s3
      have hll2 : SqL K H3 l2 xs2 := .of hl2
      obtain ⟨accD, hacc⟩ := hacc
      walk_at "h"
      refine ⟨rfl, ?_⟩
      walk_at "h"
      intro D2 hD2
      have hD2F : D2 ≠ D := fun e => by rw [e, hacc] at hD2; cases hD2
      have hr3 : Paired (RowV (fun a => (All a ∧ a ≠ D) ∧ a ≠ D2) K H3) xs2 p.2 := pImp hr2 fun _ _ z => z.fresh hD2
      refine lc_genL p.2 Tr.nm (fun y r H4 => RowV (fun a => (All a ∧ a ≠ D) ∧ a ≠ D2) K H4 y r) (stable_row (W := fun a => All a ∧ a ≠ D)) hll2 (pLen hr2) (by have := hgr.hi; omega) hD2 ?_ ?_
      · intro j y r H4 hy hr4 s4 _ NY2 NN2 ny2 nn2
        obtain ⟨r', e, hro⟩ := pAt hr3 hy
        rw [hr4] at e
        cases e
        obtain ⟨t7, rfl, ht7⟩ := hro.same s4
        walk_at "h"
        refine ⟨rfl, ?_⟩
        walk_at "h"
        refine go_hd ht7 ?_
        walk_at "h"
        rw [kind_mark]
        refine ite2 (fun hi => ?_) (fun hi => ?_)
        · walk_at "h"
          exact ny2 _ _ (by simpa using hi) (Same.refl _) ⟨t7, rfl, ht7⟩
        · exact nn2 _ (by simpa using hi) (Same.refl _)
      · intro H4 acc4 s4 hacc4 hp4
        walk_at "h"
        refine ⟨sz_of (by simp), fun tp htp => ?_⟩
        have s6 := Same.new (o := .tup [V.str p.1, .ref D2]) htp
        exact ny _ _ rfl (s4.trans s6) ⟨tp, D2, acc4, rfl, upd_same, s6 _ _ hacc4, ⟨trivial, hD2F⟩, pImp hp4 fun _ _ z => z.keep (.same s6 fun _ z => z.1)⟩
    · intro H3 acc s3 hacc hpa
      rw [List.filter_eq_self.mpr (fun _ _ => rfl)] at hpa
      walk_at "h"
      refine q D H3 acc R' (s1.trans s3) hacc hR' hsr ?_
      unfold bareP
      exact pMapR (pImp hpa fun _ _ z => z.mono)
/-! _law_told -/
structure ErrT (K : PySem.W.Frag) (mg : Str → Option Value) : Prop where
  g_PartError : mg "PartError" = some (.ref (CA mg "PartError"))
  g_Lacking : mg "Lacking" = some (.ref (CA mg "Lacking"))
  g_WrongAim : mg "WrongAim" = some (.ref (CA mg "WrongAim"))
  g_Twice : mg "Twice" = some (.ref (CA mg "Twice"))
  g_NoEnd : mg "NoEnd" = some (.ref (CA mg "NoEnd"))
  ex : ∀ u : Due, ExcC K (CA mg (dueC u))
  exm : ∀ u : Due, PySem.W.exmOne K (.ref (CA mg (dueC u))) (.ref (CA mg "PartError")) = some true
  k1 : ∀ u : Due, PySem.W.kitOne K (.ref (CA mg (dueC u))) (.ref (CA mg "Lacking")) = some u.lack
  k2 : ∀ u : Due, PySem.W.kitOne K (.ref (CA mg (dueC u))) (.ref (CA mg "WrongAim")) = some (!u.lack)
  k3 : ∀ u : Due, PySem.W.kitOne K (.ref (CA mg (dueC u))) (.ref (CA mg "Twice")) = some false
  k4 : ∀ u : Due, PySem.W.kitOne K (.ref (CA mg (dueC u))) (.ref (CA mg "NoEnd")) = some false
  f1 : ∀ u : Due, PySem.W.findIn K (.ref (CA mg (dueC u))) "name" = some none
  f2 : ∀ u : Due, PySem.W.findIn K (.ref (CA mg (dueC u))) "part" = some none
  f3 : ∀ u : Due, PySem.W.findIn K (.ref (CA mg (dueC u))) "row" = some none
abbrev slaw_told : Stmt := top 85
abbrev Nlaw_told : List Str := ["_law_program_here", "_law_found", "_law_word", "e", "_law_marks"]
theorem sclaw_told : FnScope Nlaw_told ["_law_program_here"] (defScope slaw_told) := ⟨rfl, rfl, rfl, by decide +kernel, rfl, by decide +kernel, by decide +kernel⟩
def tIsE (K : PySem.W.Frag) (a : Addr) (cls : Value) (d : Option Addr) (C : Addr) : TE := tCB (rIsED K cls d a) (tCons (tVar 3) (tCons (tC (.ref C)) tNil))
def tBys (K : PySem.W.Frag) (a : Addr) (cls : Value) (d : Option Addr) (s : Str) : TE := tTup (tCons (tC (.str s)) (tCons (tByF K cls d a "name" (tVar 3)) (tCons (tByF K cls d a "part" (tVar 3)) (tCons (tByF K cls d a "row" (tVar 3)) tNil))))
def tFour (x y z w : Bool) : TE := tLst (tCons (tC (.bl x)) (tCons (tC (.bl y)) (tCons (tC (.bl z)) (tCons (tC (.bl w)) tNil))))
def tsTold (K : PySem.W.Frag) (mg : Str → Option Value) : Addr → Value → Option Addr → TS := fun a cls d =>
  tSeq (tAsg (tLst (tCons (tIsE K a cls d (CA mg "Lacking")) (tCons (tIsE K a cls d (CA mg "WrongAim")) (tCons (tIsE K a cls d (CA mg "Twice")) (tCons (tIsE K a cls d (CA mg "NoEnd")) tNil))))) (gName 4))
  (tSeq (tAsg (tTup (tCons (tC (.str "other")) tNil)) (gName 2))
  (tSeq (tIfS (tTest (tOp (rEqD K) (tVar 4) (tFour true false false false))) (tAsg (tBys K a cls d "lacking") (gName 2)) tNext)
  (tIfS (tTest (tOp (rEqD K) (tVar 4) (tFour false true false false))) (tAsg (tBys K a cls d "aim") (gName 2)) tNext)))
def BoundOut (K : PySem.W.Frag) (H H' : Hp) (b : V) (R : Prg) : Prop := ∃ F ws R', b = .ref F ∧ H F = none ∧ H' F = some (.lst ws) ∧ R'.Perm R ∧ SrtdS (R'.map Prod.fst) ∧ Paired (PartV (fun a => H a = none ∧ a ≠ F) K H') ws (bareP R')
def spTold (K : PySem.W.Frag) : Sp := fun vs H Q _ => ∃ (v : V) (R : Prg), vs = [v] ∧ ProgV All K H v R ∧ Good R ∧ ∀ t H' a b, Same H H' → SqT K H' t [a, b] → (dueP R = none → a = .non ∧ BoundOut K H H' b R) → (∀ u, dueP R = some u → DW All K H' a u.d ∧ a ≠ .non) → Q (.ref t) H'
end
end Fj
set_option maxHeartbeats 4000000
/-! _law_told -/
namespace Fj
open PySem PySem.Spec PyProof.Rows L2
open C8 (Met Mak InsC pe_mt0 pe_mk)
section
variable {P : Program} {w : World} {K : PySem.W.Frag} {mg : Str → Option Value} {base : Heap}
theorem go_isE {H : Hp} {Q : VK} {a dd : Addr} {u : Due} {C : Addr} {b : Bool} {fs : List (Str × V)} (T : ErrT K mg) (hk : PySem.W.kitOne K (.ref (CA mg (dueC u))) (.ref C) = some b) (hx : H dd = some (.xd fs)) (q : Q (.bl b) H) : rIsED K (.ref (CA mg (dueC u))) (some dd) a [.ref a, .ref C] H Q :=
  ⟨_, dd, fs, .ref C, .ref C, b, rfl, rfl, T.ex u, hx, rfl, .own C, hk, q⟩
theorem go_callS {σ : L2.St} {H : Hp} {Q : VK} {sp : Sp} {E : L2.St → XK} {tl : TA} (q : tl σ H fun vs H1 => sp vs H1 Q (E σ)) : tCallS sp E tl σ H Q := q
theorem go_byF {σ : L2.St} {H : Hp} {Q : VK} {a : Addr} {cls : Value} {d : Option Addr} {f : Str} {te : TE} (q : te σ H fun x H1 => ∃ (D dd : Addr) (fs : List (Str × V)) (v : V), x = .ref a ∧ cls = .ref D ∧ d = some dd ∧ ExcC K D ∧ PySem.W.findIn K (.ref D) f = some none ∧ H1 dd = some (.xd fs) ∧ List.lookup f fs = some v ∧ Q v H1) : tByF K cls d a f te σ H Q := q
theorem four_eq {H : Hp} {a b : Addr} {x y z v x' y' z' v' : Bool} {Q : VK} (ha : H a = some (.lst [.bl x, .bl y, .bl z, .bl v])) (hb : H b = some (.lst [.bl x', .bl y', .bl z', .bl v'])) (q : Q (.bl (x == x' && y == y' && z == z' && v == v')) H) : rEqD K (.ref a) (.ref b) H Q := by
  refine go_eqD (W := All) (W' := All) (d := .list [.bool x, .bool y, .bool z, .bool v]) (e := .list [.bool x', .bool y', .bool z', .bool v']) (.lst (.of ha trivial) (.cons (.bl _) (.cons (.bl _) (.cons (.bl _) (.cons (.bl _) .nil))))) (.lst (.of hb trivial) (.cons (.bl _) (.cons (.bl _) (.cons (.bl _) (.cons (.bl _) .nil))))) (by cases x <;> cases y <;> cases z <;> cases v <;> decide +kernel) (by cases x' <;> cases y' <;> cases z' <;> cases v' <;> decide +kernel) ?_
  have e : PyData.eqv (.list [.bool x, .bool y, .bool z, .bool v]) (.list [.bool x', .bool y', .bool z', .bool v']) = (x == x' && y == y' && z == z' && v == v') := by
    cases x <;> cases y <;> cases z <;> cases v <;> cases x' <;> cases y' <;> cases z' <;> cases v' <;> decide +kernel
  rw [e]
  exact q
theorem bys_walk {u : Due} {σ : L2.St} {H : Hp} {Q : VK} {a dd : Addr} {s : Str} (T : ErrT K mg) (hs : σ[3]? = some (some (.ref a))) (hx : H dd = some (.xd (dueF u))) (q : ∀ t H', Same H H' → SqT K H' t [.str s, .str u.name, .str u.part, .int u.k] → Q (.ref t) H') : tBys K a (.ref (CA mg (dueC u))) (some dd) s σ H Q := by
  unfold tBys
  walk_at "h"
  refine go_byF ?_
  refine go_var hs ?_
  refine ⟨_, dd, _, .str u.name, rfl, rfl, rfl, T.ex u, T.f1 u, hx, rfl, ?_⟩
  walk_at "h"
  refine go_byF ?_
  refine go_var hs ?_
  refine ⟨_, dd, _, .str u.part, rfl, rfl, rfl, T.ex u, T.f2 u, hx, rfl, ?_⟩
  walk_at "h"
  refine go_byF ?_
  refine go_var hs ?_
  refine ⟨_, dd, _, .int u.k, rfl, rfl, rfl, T.ex u, T.f3 u, hx, rfl, ?_⟩
  walk_at "h"
  exact ⟨sz_of (by simp), fun p hp => q p _ (Same.new hp) (.of upd_same)⟩
theorem suite_walk {u : Due} {v b : V} {H : Hp} {N bk ct : L2.St → Hp → Prop} {rt : VK} {a dd : Addr} {m : Option V} {w2 : Option V} (T : ErrT K mg) (hx : H dd = some (.xd (dueF u)))
    (q : ∀ t H' m', Same H H' → DW All K H' (.ref t) u.d → N [some v, some b, some (.ref t), some (.ref a), m'] H') : tsTold K mg a (.ref (CA mg (dueC u))) (some dd) ⟨N, rt, bk, ct⟩ [some v, some b, w2, some (.ref a), m] H := by
  unfold tsTold tIsE
  walk_at "h"
  refine go_isE T (T.k1 u) hx ?_
  walk_at "h"
  refine go_isE T (T.k2 u) hx ?_
  walk_at "h"
  refine go_isE T (T.k3 u) hx ?_
  walk_at "h"
  refine go_isE T (T.k4 u) hx ?_
  walk_at "h"
  refine ⟨sz_of (by simp), fun l hl => ?_⟩
  have s1 := Same.new (o := .lst [V.bl u.lack, .bl (!u.lack), .bl false, .bl false]) hl
  have hl1 : upd H l (.lst [V.bl u.lack, .bl (!u.lack), .bl false, .bl false]) l = some (.lst [V.bl u.lack, .bl (!u.lack), .bl false, .bl false]) := upd_same
  generalize upd H l (.lst [V.bl u.lack, .bl (!u.lack), .bl false, .bl false]) = H1 at *
  walk_at "h"
  refine ⟨sz_of (by simp), fun t0 ht0 => ?_⟩
  have s2 := s1.trans (Same.new (o := .tup [V.str "other"]) ht0)
  have hl2 := (Same.new (o := .tup [V.str "other"]) ht0) _ _ hl1
  generalize upd H1 t0 (.tup [V.str "other"]) = H2 at *
  unfold tFour
  walk_at "h"
  refine ⟨sz_of (by simp), fun l3 hl3 => ?_⟩
  have s3 := Same.new (o := .lst [V.bl true, .bl false, .bl false, .bl false]) hl3
  refine four_eq (s3 _ _ hl2) upd_same ?_
  have s23 := s2.trans s3
  have hl33 := s3 _ _ hl2
  generalize upd H2 l3 (.lst [V.bl true, .bl false, .bl false, .bl false]) = H3 at *
  cases hu : u.lack with
  | true =>
    rw [hu] at hl33
    walk_at "h"
    refine bys_walk T rfl (s23 _ _ hx) fun t H4 s4 ht4 => ?_
    walk_at "h"
    refine ⟨sz_of (by simp), fun l5 hl5 => ?_⟩
    have s5 := Same.new (o := .lst [V.bl false, .bl true, .bl false, .bl false]) hl5
    refine four_eq ((s4.trans s5) _ _ hl33) upd_same ?_
    walk_at "h"
    refine q t _ _ (s23.trans (s4.trans s5)) ?_
    unfold Due.d
    rw [hu]
    exact .tup (s5.tup ht4) (.cons (.str _) (.cons (.str _) (.cons (.str _) (.cons (.int _) .nil))))
  | false =>
    rw [hu] at hl33
    walk_at "h"
    refine ⟨sz_of (by simp), fun l5 hl5 => ?_⟩
    have s5 := Same.new (o := .lst [V.bl false, .bl true, .bl false, .bl false]) hl5
    refine four_eq (s5 _ _ hl33) upd_same ?_
    walk_at "h"
    refine bys_walk T rfl ((s23.trans s5) _ _ hx) fun t H4 s4 ht4 => ?_
    walk_at "h"
    refine q t _ _ (s23.trans (s5.trans s4)) ?_
    unfold Due.d
    rw [hu]
    exact .tup ht4 (.cons (.str _) (.cons (.str _) (.cons (.str _) (.cons (.int _) .nil))))
theorem ok_law_told (F : FnAt K mg "_law_told" slaw_told ["_law_program_here"]) (T : Txt K mg) (TE : ErrT K mg) (G_bound : Cal P w K mg base (L2.CX P w) 7 "bound" ["parts"] (spBound K mg)) : Cal P w K mg base CX0 8 "_law_told" ["_law_program_here"] (spTold K) := by
  obtain ⟨fB, fdB, hmB, hkB, hbB, FB⟩ := G_bound
  refine cal_mk F sclaw_told (fun vs H Q E h => ?_) (fun f cdv A outer s H vs Q E hr h => ?_)
  · obtain ⟨v, r, rfl, _⟩ := h
    rfl
  · obtain ⟨v, R, rfl, hv, hg, q⟩ := h
    have nd := sclaw_told.nd
    refine ⟨_, pss_cons (ps_set (i := 1) nd rfl (Or.inl rfl) pe_non) (pss_cons (ps_set (i := 2) nd rfl (Or.inl rfl) pe_non)
      (pss_cons (ps_try_as (i := 3) (tb := fun W => tAsg (tCallS (spBound K mg) (WE W) (tCons (tVar 0) tNil)) (gName 1)) (ts := tsTold K mg) (Wout := fun _ _ _ _ => False) rfl rfl nd rfl rfl ⟨rfl, by decide, Or.inl TE.g_PartError⟩ takes0
        (fun W pn xe tk _ => pss_one (ps_set (i := 1) nd rfl (Or.inl rfl) (by exact (pe_callS FB (hr.mono (by decide)) rfl hmB hkB hbB (fun σ => passAt tk σ) (pa_cons (pv 0) pa_nil)))))
        (fun a oe cls d pn hz hf => pss_cons (ps_set (i := 4) nd rfl (Or.inl rfl) (pe_lst (pa_cons (pe_callB (call_isED hz hf) (by rfl) T.n_isinstance (by decide +kernel) (pa_cons (pv 3) (pa_cons (pe_glob (v := V.ref (CA mg "Lacking")) rfl TE.g_Lacking rfl) pa_nil))) (pa_cons (pe_callB (call_isED hz hf) (by rfl) T.n_isinstance (by decide +kernel) (pa_cons (pv 3) (pa_cons (pe_glob (v := V.ref (CA mg "WrongAim")) rfl TE.g_WrongAim rfl) pa_nil))) (pa_cons (pe_callB (call_isED hz hf) (by rfl) T.n_isinstance (by decide +kernel) (pa_cons (pv 3) (pa_cons (pe_glob (v := V.ref (CA mg "Twice")) rfl TE.g_Twice rfl) pa_nil))) (pa_cons (pe_callB (call_isED hz hf) (by rfl) T.n_isinstance (by decide +kernel) (pa_cons (pv 3) (pa_cons (pe_glob (v := V.ref (CA mg "NoEnd")) rfl TE.g_NoEnd rfl) pa_nil))) pa_nil))))))
          (pss_cons (ps_set (i := 2) nd rfl (Or.inl rfl) (pe_tup (pa_cons pe_str pa_nil)))
          (pss_cons (ps_if (pt_cmpR (eqdK (K := K) rfl hr.units) (pv 4) (pe_lst (pa_cons pe_bl (pa_cons pe_bl (pa_cons pe_bl (pa_cons pe_bl pa_nil))))) (nomark _)) (pss_one (ps_set (i := 2) nd rfl (Or.inl rfl) (pe_tup (pa_cons pe_str (pa_cons (pe_byF hz hf (pv 3)) (pa_cons (pe_byF hz hf (pv 3)) (pa_cons (pe_byF hz hf (pv 3)) pa_nil))))))) pss_nil)
          (pss_one (ps_if (pt_cmpR (eqdK (K := K) rfl hr.units) (pv 4) (pe_lst (pa_cons pe_bl (pa_cons pe_bl (pa_cons pe_bl (pa_cons pe_bl pa_nil))))) (nomark _)) (pss_one (ps_set (i := 2) nd rfl (Or.inl rfl) (pe_tup (pa_cons pe_str (pa_cons (pe_byF hz hf (pv 3)) (pa_cons (pe_byF hz hf (pv 3)) (pa_cons (pe_byF hz hf (pv 3)) pa_nil))))))) pss_nil))))))
      (pss_one (ps_ret (pe_tup (pa_cons (pv 2) (pa_cons (pv 1) pa_nil))))))), ?_⟩
    walk_at "h"
    refine go_callS ?_
    walk_at "h"
    refine ⟨v, R, rfl, hv, hg, fun hd F H1 ws R' hF s1 hFl hR' hsr hws => ?_, fun u hu d H1 s1 hd => ?_⟩
    · walk_at "h"
      refine ⟨sz_of (by simp), fun p hp => ?_⟩
      have s2 := Same.new (o := .tup [V.non, .ref F]) hp
      exact q p _ _ _ (s1.trans s2) (.of upd_same) (fun _ => ⟨rfl, F, ws, R', rfl, hF, s2 _ _ hFl, hR', hsr, pImp hws fun _ _ z => z.same s2⟩) fun u hu => by rw [hd] at hu; cases hu
    · refine ⟨true, TE.exm u, fun _ a0 _ => ?_, fun z => Bool.noConfusion z⟩
      refine suite_walk TE hd fun t H2 m' s2 hdw => ?_
      walk_at "h"
      refine ⟨sz_of (by simp), fun p hp => ?_⟩
      have s3 := Same.new (o := .tup [V.ref t, .non]) hp
      refine q p _ _ _ (s1.trans (s2.trans s3)) (.of upd_same) (fun h => by rw [hu] at h; cases h) fun u' hu' => ?_
      rw [hu] at hu'
      cases hu'
      exact ⟨hdw.same s3, fun z => by cases z⟩
end
end Fj
set_option maxHeartbeats 4000000
/-! _law_right: the plain part -/
namespace Fj
open PySem PySem.Spec PyProof.Rows L2
open C8 (Met Mak InsC pe_mt0 pe_mk)
theorem sorted_uniq {α : Type} {r : α → α → Prop} : ∀ {l m : List α}, l.Perm m → l.Pairwise r → m.Pairwise r → (∀ a ∈ l, ∀ b ∈ l, r a b → r b a → a = b) → l = m
  | [], m, h, _, _, _ => (List.nil_perm.mp h).symm
  | a :: l, [], h, _, _, _ => absurd h.length_eq (by simp)
  | a :: l, b :: m, h, hl, hm, anti => by
    have hl' := List.pairwise_cons.mp hl
    have hm' := List.pairwise_cons.mp hm
    have e : a = b := by
      have m1 : a ∈ b :: m := h.mem_iff.mp List.mem_cons_self
      have m2 : b ∈ a :: l := h.mem_iff.mpr List.mem_cons_self
      rcases List.mem_cons.mp m1 with e | m1
      · exact e
      · rcases List.mem_cons.mp m2 with e | m2
        · exact e.symm
        · exact anti a List.mem_cons_self b (List.mem_cons_of_mem _ m2) (hl'.1 b m2) (hm'.1 a m1)
    subst e
    rw [sorted_uniq (h.cons_inv) hl'.2 hm'.2 fun x hx y hy => anti x (List.mem_cons_of_mem _ hx) y (List.mem_cons_of_mem _ hy)]
theorem str_anti {a b : Str} (h1 : ¬ b.cps.toList < a.cps.toList) (h2 : ¬ a.cps.toList < b.cps.toList) : a = b := by
  have e : a.cps.toList = b.cps.toList := List.le_antisymm (List.not_lt.mp h1) (List.not_lt.mp h2)
  cases a
  cases b
  congr 1
  exact Array.toList_inj.mp e
theorem nodup_inj {α β : Type} {f : α → β} : ∀ {l : List α}, (l.map f).Nodup → ∀ a ∈ l, ∀ b ∈ l, f a = f b → a = b
  | [], _, _, m, _, _, _ => (nomatch m)
  | x :: l, h, a, ha, b, hb, e => by
    rw [List.map_cons, List.nodup_cons] at h
    rcases List.mem_cons.mp ha with ea | ha'
    · rcases List.mem_cons.mp hb with eb | hb'
      · rw [ea, eb]
      · exact absurd (show f x ∈ l.map f from by rw [← ea, e]; exact List.mem_map_of_mem hb') h.1
    · rcases List.mem_cons.mp hb with eb | hb'
      · exact absurd (show f x ∈ l.map f from by rw [← eb, ← e]; exact List.mem_map_of_mem ha') h.1
      · exact nodup_inj h.2 a ha' b hb' e
theorem sorted_same {R A B : Prg} (nd : (R.map Prod.fst).Nodup) (ha : A.Perm R) (hb : B.Perm R) (sa : SrtdS (A.map Prod.fst)) (sb : SrtdS (B.map Prod.fst)) : A = B := by
  unfold SrtdS at sa sb
  rw [List.pairwise_map] at sa sb
  exact sorted_uniq (ha.trans hb.symm) sa sb fun p hp q hq h1 h2 => nodup_inj nd p (ha.mem_iff.mp hp) q (ha.mem_iff.mp hq) (str_anti h1 h2)
theorem prog_shp {R : Prg} (hn : ∀ p ∈ R, IsW p.1) (hr : ∀ p ∈ R, ∀ r ∈ p.2, r.ok) : Shp 5 (progD R) := by
  unfold progD
  apply Shp.lst
  intro d m
  obtain ⟨p, hp, rfl⟩ := List.mem_map.mp m
  unfold partD
  apply Shp.tup
  intro d m
  rcases List.mem_cons.mp m with rfl | m
  · exact (hn p hp).shp.mono (by decide)
  · rw [List.mem_singleton.mp m]
    apply Shp.lst
    intro d m
    obtain ⟨r, hr', rfl⟩ := List.mem_map.mp m
    exact Tr.shp (hr p hp r hr')
theorem Good.shp {R : Prg} (g : Good R) : Shp 5 (progD R) := prog_shp g.pw fun p m => (g.rows p m).ok
theorem Good.shpB {R A : Prg} (g : Good R) (h : A.Perm R) : Shp 5 (progD (bareP A)) := by
  refine prog_shp (fun p m => ?_) fun p m r mr => ?_
  · obtain ⟨q, hq, rfl⟩ := List.mem_map.mp m
    exact g.pw q (h.mem_iff.mp hq)
  · obtain ⟨q, hq, rfl⟩ := List.mem_map.mp m
    exact (g.rows q (h.mem_iff.mp hq)).ok r (List.mem_filter.mp mr).1
theorem Tr.ask_ok {r : Tr} (h : r.ok) : ∀ z ∈ r.asked, IsW z := by
  intro z m
  cases r <;> dsimp only [Tr.ok, Tr.asked] at h m <;> first
    | (cases m; done)
    | (rw [List.mem_singleton.mp m]; first | exact h | exact h.2 | exact h.2.2)
    | exact h.2.2 z m
    | (rcases List.mem_cons.mp m with rfl | m
       · exact h.2.1
       · rw [List.mem_singleton.mp m]; exact h.2.2)
theorem dueZ_of {R : Prg} {r : Tr} {part z : Str} {k : Nat} {u : Due} (h : dueZ R r part k z = some u) : u.name = z ∧ u.part = part := by
  unfold dueZ at h
  split at h
  · cases h; exact ⟨rfl, rfl⟩
  · split at h
    · split at h
      · cases h
      · cases h; exact ⟨rfl, rfl⟩
    · cases h
theorem dueRows_of {R : Prg} {part : Str} {u : Due} : ∀ {rows : Rows} {k : Nat}, dueRows R part k rows = some u → ∃ r ∈ rows, u.name ∈ r.asked ∧ u.part = part
  | [], _, h => by cases h
  | r :: t, k, h => by
    have h : (dueR R part k r).or (dueRows R part (k + 1) t) = some u := h
    cases hd : dueR R part k r with
    | none =>
      rw [hd] at h
      obtain ⟨r', m, e⟩ := dueRows_of (k := k + 1) (rows := t) h
      exact ⟨r', List.mem_cons_of_mem _ m, e⟩
    | some u' =>
      rw [hd] at h
      cases (show some u' = some u from h)
      unfold dueR at hd
      obtain ⟨z, mz, hz⟩ := List.exists_of_findSome?_eq_some hd
      obtain ⟨e1, e2⟩ := dueZ_of hz
      exact ⟨r, List.mem_cons_self, e1 ▸ mz, e2⟩
theorem Good.due_shp {R : Prg} (g : Good R) {u : Due} (h : dueP R = some u) : Shp 1 u.d := by
  unfold dueP at h
  obtain ⟨p, mp, hp⟩ := List.exists_of_findSome?_eq_some h
  obtain ⟨r, mr, ha, he⟩ := dueRows_of hp
  have h1 : IsW u.name := Tr.ask_ok ((g.rows p mp).ok r (List.mem_filter.mp mr).1) _ ha
  have h2 : IsW u.part := he ▸ g.pw p mp
  unfold Due.d
  apply Shp.tup
  intro d m
  simp only [List.mem_cons, List.not_mem_nil, or_false] at m
  rcases m with rfl | rfl | rfl | rfl
  · cases u.lack <;> exact shp_str (by decide +kernel)
  · exact h1.shp
  · exact h2.shp
  · exact shp_int _
theorem eqv_self {n : Nat} {d : PyData} (h : Shp n d) : PyData.eqv d d = true := PySem.SeqAt.eqv_refl d h.1
end Fj
set_option maxHeartbeats 4000000
/-! _law_right -/
namespace Fj
open PySem PySem.Spec PyProof.Rows L2
open C8 (Met Mak InsC pe_mt0 pe_mk)
section
variable {P : Program} {w : World} {K : PySem.W.Frag} {mg : Str → Option Value} {base : Heap}
/-- a row's tuple, its list among DL -/
def TupL (DL : Addr → Prop) (K : PySem.W.Frag) (H : Hp) (t : Addr) (r : Tr) : Prop := match r.items with
  | none => SqT K H t r.vs
  | some _ => ∃ l, SqT K H t [.str r.kind, .ref l] ∧ DL l
theorem TupL.mut {DL : Addr → Prop} {H : Hp} {t l : Addr} {r : Tr} {ys zs : List V} (hl : H l = some (.lst ys)) (h : TupL DL K H t r) : TupL DL K (upd H l (.lst zs)) t r := by
  have k : Keeps (fun _ => False) (fun _ => False) H (upd H l (.lst zs)) := .but But.upd hl fun _ z => z.elim
  unfold TupL at h ⊢
  split at h
  · exact SqT.keep k h
  · obtain ⟨l', a, b⟩ := h
    exact ⟨l', SqT.keep k a, b⟩
/-- what stands while the lists that came back are spoilt -/
structure Mut (PL DL : Addr → Prop) (Wk : Addr → Prop) (K : PySem.W.Frag) (H0 : Hp) (F : Addr) (ws : List V) (kv : V) (R : Prg) (H : Hp) (n : Nat) : Prop where
  s : Same H0 H
  kp : ProgV Wk K H kv R
  fF : H F = some (.lst ws)
  pl : ∀ x ∈ ws, ∃ t p nm, x = .ref t ∧ H t = some (.tup [.str nm, .ref p]) ∧ PL p
  plc : ∀ p, PL p → ∃ xs, H p = some (.lst xs) ∧ xs.length ≤ 1000 ∧ ∀ x ∈ xs, ∃ t r, x = .ref t ∧ TupL DL K H t r
  dlc : ∀ l, DL l → ∃ ys, H l = some (.lst ys) ∧ ys.length ≤ 60 + n
/-- what is known of the two kinds of lists -/
structure Kinds (PL DL : Addr → Prop) (Wk : Addr → Prop) (H0 : Hp) (F : Addr) : Prop where
  p0 : ∀ p, PL p → H0 p = none ∧ ¬ Wk p ∧ p ≠ F ∧ ¬ DL p
  d0 : ∀ l, DL l → H0 l = none ∧ ¬ Wk l ∧ l ≠ F
section
variable {PL DL Wk : Addr → Prop} {H0 H : Hp} {F : Addr} {ws : List V} {kv : V} {R : Prg} {n : Nat}
theorem Mut.add (k : Kinds PL DL Wk H0 F) (m : Mut PL DL Wk K H0 F ws kv R H n) {l : Addr} {ys : List V} {y : V} (hl : DL l) (e : H l = some (.lst ys)) : Mut PL DL Wk K H0 F ws kv R (upd H l (.lst (ys ++ [y]))) (n + 1) := by
  obtain ⟨h1, h2, h3⟩ := k.d0 l hl
  refine ⟨m.s.mut h1, m.kp.keep (.but But.upd e fun a wa => ⟨wa, fun z => h2 (z ▸ wa)⟩), by rw [upd_ne (fun z => h3 z.symm)]; exact m.fF, fun x hx => ?_, fun p hp => ?_, fun l' hl' => ?_⟩
  · obtain ⟨t, p, nm, rfl, ht, hp⟩ := m.pl x hx
    exact ⟨t, p, nm, rfl, by rw [upd_ne (fun z => by rw [z, e] at ht; cases ht)]; exact ht, hp⟩
  · obtain ⟨xs, hx, hz, hr⟩ := m.plc p hp
    have ne : p ≠ l := fun z => (k.p0 p hp).2.2.2 (z ▸ hl)
    exact ⟨xs, by rw [upd_ne ne]; exact hx, hz, fun x mx => by
      obtain ⟨t, r, rfl, ht⟩ := hr x mx
      exact ⟨t, r, rfl, ht.mut e⟩⟩
  · obtain ⟨ys', hy, hz⟩ := m.dlc l' hl'
    by_cases q : l' = l
    · subst q
      rw [e] at hy
      cases hy
      exact ⟨_, upd_same, by rw [List.length_append, List.length_singleton]; omega⟩
    · exact ⟨ys', by rw [upd_ne q]; exact hy, by omega⟩
theorem Mut.clear (k : Kinds PL DL Wk H0 F) (m : Mut PL DL Wk K H0 F ws kv R H n) {p : Addr} {xs : List V} (hp : PL p) (e : H p = some (.lst xs)) : Mut PL DL Wk K H0 F ws kv R (upd H p (.lst [])) n := by
  obtain ⟨h1, h2, h3, h4⟩ := k.p0 p hp
  refine ⟨m.s.mut h1, m.kp.keep (.but But.upd e fun a wa => ⟨wa, fun z => h2 (z ▸ wa)⟩), by rw [upd_ne (fun z => h3 z.symm)]; exact m.fF, fun x hx => ?_, fun p' hp' => ?_, fun l' hl' => ?_⟩
  · obtain ⟨t, p', nm, rfl, ht, hp'⟩ := m.pl x hx
    exact ⟨t, p', nm, rfl, by rw [upd_ne (fun z => by rw [z, e] at ht; cases ht)]; exact ht, hp'⟩
  · by_cases q : p' = p
    · subst q
      exact ⟨[], upd_same, by simp, fun x m => (nomatch m)⟩
    · obtain ⟨xs', hx, hz, hr⟩ := m.plc p' hp'
      exact ⟨xs', by rw [upd_ne q]; exact hx, hz, fun x mx => by
        obtain ⟨t, r, rfl, ht⟩ := hr x mx
        exact ⟨t, r, rfl, ht.mut e⟩⟩
  · obtain ⟨ys', hy, hz⟩ := m.dlc l' hl'
    exact ⟨ys', by rw [upd_ne (fun (z : l' = p) => h4 (z ▸ hl'))]; exact hy, hz⟩
theorem Mut.new (m : Mut PL DL Wk K H0 F ws kv R H n) {p : Addr} {o : HO} (hp : H p = none) : Mut PL DL Wk K H0 F ws kv R (upd H p o) n := by
  have s := Same.new (o := o) hp
  refine ⟨m.s.trans s, m.kp.same s, s _ _ m.fF, fun x hx => ?_, fun p' hp' => ?_, fun l' hl' => ?_⟩
  · obtain ⟨t, p', nm, rfl, ht, hp'⟩ := m.pl x hx
    exact ⟨t, p', nm, rfl, s _ _ ht, hp'⟩
  · obtain ⟨xs', hx, hz, hr⟩ := m.plc p' hp'
    refine ⟨xs', s _ _ hx, hz, fun x mx => ?_⟩
    obtain ⟨t, r, rfl, ht⟩ := hr x mx
    refine ⟨t, r, rfl, ?_⟩
    unfold TupL at ht ⊢
    split at ht
    · exact s.tup ht
    · obtain ⟨l', a, b⟩ := ht
      exact ⟨l', s.tup a, b⟩
  · obtain ⟨ys', hy, hz⟩ := m.dlc l' hl'
    exact ⟨ys', s _ _ hy, hz⟩
end
/-- the two kinds of lists of what came back -/
def PLof (G : Hp) (H0 : Hp) (F : Addr) : Addr → Prop := fun p => H0 p = none ∧ p ≠ F ∧ ∃ xs rows, G p = some (.lst xs) ∧ 1 ≤ rows.length ∧ rows.length ≤ 1000 ∧ (∀ r ∈ rows, r.ok) ∧ Paired (RowV (fun a => H0 a = none ∧ a ≠ F) K G) xs rows
def DLof (G : Hp) (H0 : Hp) (F : Addr) : Addr → Prop := fun l => H0 l = none ∧ l ≠ F ∧ ∃ ys, G l = some (.lst ys) ∧ ys.length ≤ 60 ∧ ∃ y ∈ ys, ∀ a, y ≠ .ref a
theorem items_len {r : Tr} {ys : List V} (h : r.ok) (e : r.items = some ys) : ys.length ≤ 60 ∧ ∃ y ∈ ys, ∀ a, y ≠ .ref a := by
  cases r <;> (try (cases e; done))
  case numbers ns =>
    cases e
    obtain ⟨h1, h2, _⟩ := h
    refine ⟨by rw [List.length_map]; exact h2, ?_⟩
    cases ns with
    | nil => exact absurd h1 (by decide)
    | cons n ns => exact ⟨_, List.mem_cons_self, fun a z => by cases z⟩
  case table ns =>
    cases e
    obtain ⟨h1, h2, _⟩ := h
    refine ⟨by rw [List.length_map]; exact h2, ?_⟩
    cases ns with
    | nil => exact absurd h1 (by decide)
    | cons n ns => exact ⟨_, List.mem_cons_self, fun a z => by cases z⟩
theorem mut_start {H0 G G' : Hp} {F : Addr} {ws : List V} {kv : V} {R A : Prg} (hg : Good R) (hA : A.Perm R) (s : Same H0 G) (s' : Same G G') (hF : G F = some (.lst ws)) (hws : Paired (PartV (fun a => H0 a = none ∧ a ≠ F) K G) ws (bareP A)) (hk : ProgV (fun a => G a = none) K G' kv R) :
    Kinds (PLof (K := K) G H0 F) (DLof G H0 F) (fun a => G a = none) H0 F ∧ Mut (PLof (K := K) G H0 F) (DLof G H0 F) (fun a => G a = none) K H0 F ws kv R G' 0 := by
  refine ⟨⟨fun p hp => ?_, fun l hl => ?_⟩, ⟨s.trans s', hk, s' _ _ hF, fun x hx => ?_, fun p hp => ?_, fun l hl => ?_⟩⟩
  · obtain ⟨h1, h2, xs, rows, h3, h4, h5, h6, h7⟩ := hp
    refine ⟨h1, fun z => (by have z : G p = none := z; rw [h3] at z; cases z), h2, fun z => ?_⟩
    obtain ⟨_, _, ys, e, _, y, my, ny⟩ := z
    rw [h3] at e
    cases e
    obtain ⟨i, hi⟩ := List.getElem?_of_mem my
    obtain ⟨r, _, t, e, _⟩ := pAt h7 hi
    exact ny t e
  · obtain ⟨h1, h2, ys, h3, _⟩ := hl
    exact ⟨h1, fun z => (by have z : G l = none := z; rw [h3] at z; cases z), h2⟩
  · obtain ⟨i, hi⟩ := List.getElem?_of_mem hx
    obtain ⟨p, hp, t, l, xs, e, ht, hl, ⟨w1, w2⟩, hr⟩ := pAt hws hi
    obtain ⟨p0, hp0, rfl⟩ := List.mem_map.mp (List.mem_of_getElem? hp)
    have hgr := hg.rows p0 (hA.mem_iff.mp hp0)
    exact ⟨t, l, _, e, s' _ _ ht, w1, w2, xs, bareR p0.2, hl, hgr.lo, by have := hgr.hb; omega, fun r m => hgr.ok r (List.mem_filter.mp m).1, hr⟩
  · obtain ⟨h1, h2, xs, rows, h3, h4, h5, h6, h7⟩ := hp
    refine ⟨xs, s' _ _ h3, by rw [pLen h7]; exact h5, fun x mx => ?_⟩
    obtain ⟨i, hi⟩ := List.getElem?_of_mem mx
    obtain ⟨r, hr, t, e, ht⟩ := pAt h7 hi
    refine ⟨t, r, e, ?_⟩
    have hok := h6 r (List.mem_of_getElem? hr)
    unfold TupV at ht
    unfold TupL
    split at ht
    · rename_i ei
      try simp only [ei]
      exact s'.tup ht
    · rename_i ys ei
      try simp only [ei]
      obtain ⟨l, a, b, c1, c2⟩ := ht
      obtain ⟨q1, q2⟩ := items_len hok ei
      exact ⟨l, s'.tup a, c1, c2, ys, b, q1, q2⟩
  · obtain ⟨h1, h2, ys, h3, h4, _⟩ := hl
    exact ⟨ys, s' _ _ h3, h4⟩
end
end Fj
set_option maxHeartbeats 4000000
/-! _law_right -/
namespace Fj
open PySem PySem.Spec PyProof.Rows L2
open C8 (Met Mak InsC pe_mt0 pe_mk)
section
variable {P : Program} {w : World} {K : PySem.W.Frag} {mg : Str → Option Value} {base : Heap}
def spRight (K : PySem.W.Frag) : Sp := fun vs H Q _ => ∃ (v : V) (R : Prg), vs = [v] ∧ ProgV All K H v R ∧ Good R ∧ ∀ H', Same H H' → Q (.bl true) H'
abbrev slaw_right : Stmt := top 88
abbrev Nlaw_right : List Str := ["_law_program_here", "_law_word", "_law_found", "_law_part", "_law_rows", "_law_row", "_law_kept"]
theorem sclaw_right : FnScope Nlaw_right ["_law_program_here"] (defScope slaw_right) := ⟨rfl, rfl, rfl, by decide +kernel, rfl, by decide +kernel, by decide +kernel⟩
theorem kind_data (r : Tr) : inV (V.str r.kind) [V.str "numbers", .str "table"] = r.isData := by cases r <;> rfl
theorem TupL.hd {DL : Addr → Prop} {H : Hp} {t : Addr} {r : Tr} (h : TupL DL K H t r) : ∃ xs, SqT K H t (.str r.kind :: xs) := by
  unfold TupL at h
  split at h
  · exact ⟨_, h⟩
  · obtain ⟨l, h, _⟩ := h
    exact ⟨_, h⟩
theorem TupL.new {DL : Addr → Prop} {H H' : Hp} {t : Addr} {r : Tr} (s : Same H H') (h : TupL DL K H t r) : TupL DL K H' t r := by
  unfold TupL at h ⊢
  split at h
  · exact s.tup h
  · obtain ⟨l, a, b⟩ := h
    exact ⟨l, s.tup a, b⟩
theorem TupL.data {DL : Addr → Prop} {H : Hp} {t : Addr} {r : Tr} (h : TupL DL K H t r) (hd : r.isData = true) : ∃ l, SqT K H t [.str r.kind, .ref l] ∧ DL l := by
  cases r <;> (try (cases hd; done)) <;> exact h
theorem ok_law_right (F : FnAt K mg "_law_right" slaw_right ["_law_program_here"]) (T : Txt K mg) (G_law_told : Cal P w K mg base CX0 8 "_law_told" ["_law_program_here"] (spTold K)) (G_law_due : Cal P w K mg base CX0 2 "_law_due" ["_law_program_here"] (spDue K)) (G_law_bare : Cal P w K mg base CX0 1 "_law_bare" ["_law_program_here"] (spLBare K))
    (G_law_copied : Cal P w K mg base CX0 1 "_law_copied" ["_law_row"] (spCopied K)) (G_bound : Cal P w K mg base (L2.CX P w) 7 "bound" ["parts"] (spBound K mg)) : Cal P w K mg base CX0 9 "_law_right" ["_law_program_here"] (spRight K) := by
  refine cal_mk F sclaw_right (fun vs H Q E h => ?_) (fun f cdv A outer s H vs Q E hr h => ?_)
  · obtain ⟨v, r, rfl, _⟩ := h
    rfl
  · obtain ⟨v, R, rfl, hv, hg, q⟩ := h
    have nd := sclaw_right.nd
    refine ⟨_, (pss_cons (ps_asg (pe_cal G_law_told hr (by decide) rfl pass0 (pa_cons (pv 0) pa_nil)) (pg_tup rfl (pgs_cons (pg_name (i := 1) nd rfl (Or.inl rfl)) (pgs_cons (pg_name (i := 2) nd rfl (Or.inl rfl)) pgs_nil))))
      (pss_cons (ps_if (pt_cmpR (nedK (K := K) rfl hr.units) (pv 1) (pe_cal G_law_due hr (by decide) rfl pass0 (pa_cons (pv 0) pa_nil)) (nomark _)) (pss_one (ps_ret pe_bl)) pss_nil)
      (pss_cons (ps_if (pt_cmpR op_notNon (pv 1) pe_non (nomark _)) (pss_one (ps_ret pe_bl)) pss_nil)
      (pss_cons (ps_if (PW.pt (pw_or (pt_not (pt_val (pe_callB (isiK (K := K) rfl) (by rfl) T.n_isinstance (by decide +kernel) (pa_cons (pv 2) (pa_cons (pe_bltn (v := .ty "list") (by rfl) T.n_list (by decide +kernel) rfl) pa_nil))))) (pw_or1 (pt_cmpR (nedK (K := K) rfl hr.units) (pv 2) (pe_cal G_law_bare hr (by decide) rfl pass0 (pa_cons (pv 0) pa_nil)) (nomark _))))) (pss_one (ps_ret pe_bl)) pss_nil)
      (pss_cons (ps_setLc (i := 6) (te := tTup (tCons (tVar 3) (tCons (tLc (iList K (tVar 4)) (gName 5) tYes (tCall (spCopied K) [] E0 (tCons (tVar 5) tNil)) [5]) tNil))) (own := [("_law_part", 3), ("_law_rows", 4)]) (g := gTup K 2 (gCons (gName 3) (gCons (gName 4) (gNil)))) (tt := tYes) (by rfl) nd rfl rfl (sw_true rfl rfl rfl (by decide +kernel)) (pi_list (pv 0)) (blkOk_by (N := Nlaw_right) (sc := (defScope slaw_right)) (by decide +kernel)) (fun _ _ _ _ _ => (pg_tup rfl (pgs_cons (pg_name (i := 3) nd rfl (Or.inl rfl)) (pgs_cons (pg_name (i := 4) nd rfl (Or.inl rfl)) pgs_nil)))) (fun _ _ _ _ _ => pts_nil) (fun _ _ _ _ _ => (pe_tup (pa_cons (pv 3) (pa_cons (pe_lc (own := [("_law_row", 5)]) (g := gName 5) (tt := tYes) (by rfl) nd (pi_list (pv 4)) (blkOk_by (N := Nlaw_right) (sc := ({ kind := .function, names := [(".0", .local), ("_law_part", .local), ("_law_rows", .local)], isGenerator := false, isCoroutine := false, more := [] } : PySem.Scope)) (by decide +kernel)) (fun _ _ _ _ _ => (pg_name (i := 5) nd rfl (Or.inl rfl))) (fun _ _ _ _ _ => pts_nil) (fun _ _ _ _ _ => (pe_cal G_law_copied hr (by decide) rfl pass0 (pa_cons (pv 5) pa_nil)))) pa_nil)))))
      (pss_cons (ps_for PassesOwn.never rfl (pi_list (pv 2)) (pg_tup rfl (pgs_cons (pg_name (i := 3) nd rfl (Or.inl rfl)) (pgs_cons (pg_name (i := 4) nd rfl (Or.inl rfl)) pgs_nil))) (pss_cons (ps_for PassesOwn.never rfl (pi_list (pv 4)) (pg_name (i := 5) nd rfl (Or.inl rfl)) (pss_one (ps_if (pt_cmpR (inK (K := K) rfl) (pe_ix (ixtK (K := K) rfl) (pv 5) pe_int (fun _ _ => rfl)) (pe_tup (pa_cons pe_str (pa_cons pe_str pa_nil))) (by rfl)) (pss_one (ps_expr (pe_bm PySem.F.plainAttrs_list PySem.F.slot_list_append PySem.F.type_list_append mt_append (pe_ix (ixtK (K := K) rfl) (pv 5) pe_int (fun _ _ => rfl)) (pa_cons pe_str pa_nil)))) pss_nil)))
      (pss_one (ps_expr (pe_bm0 PySem.F.plainAttrs_list PySem.F.slot_list_clear PySem.F.type_list_clear mt_clear (pv 4))))))
      (pss_one (ps_ret (pe_and (pe_cmpR (eqdK (K := K) rfl hr.units) (pv 0) (pv 6) (nomark _)) (pe_one (pe_cmpR (eqdK (K := K) rfl hr.units) (pe_cal G_bound hr (by decide) rfl passL (pa_cons (pv 0) pa_nil)) (pe_cal G_law_bare hr (by decide) rfl pass0 (pa_cons (pv 0) pa_nil)) (nomark _)))))))))))), ?_⟩
    walk_at "h"
    refine ⟨v, R, rfl, hv, hg, fun t H1 a b s1 ht hnone hsome => ?_⟩
    walk_at "h"
    refine ⟨v, R, rfl, hv.same s1, hg, fun v' H2 s2 hdw => ?_⟩
    have s12 := s1.trans s2
    cases hd : dueP R with
    | some u =>
      obtain ⟨ha, hnn⟩ := hsome u hd
      rw [hd] at hdw
      have hsh := hg.due_shp hd
      refine go_neD (W := All) (W' := All) (d := u.d) (e := u.d) (ha.same s2) hdw (hsh.ok (by decide)) (hsh.ok (by decide)) ?_
      rw [eqv_self hsh]
      walk_at "h"
      exact q _ s12
    | none =>
      obtain ⟨rfl, F, ws, A, rfl, hFn, hF, hA, hsA, hws⟩ := hnone hd
      rw [hd] at hdw
      refine go_neD (W := All) (W' := All) (d := .none) (e := .none) .non hdw (by decide +kernel) (by decide +kernel) ?_
      walk_at "h"
      have hF2 := s2 _ _ hF
      have hws2 : Paired (PartV (fun a => H a = none ∧ a ≠ F) K H2) ws (bareP A) := pImp hws fun _ _ z => z.same s2
      have hFl : SqL K H2 F ws := .of hF2
      walk_at "h"
      refine ⟨v, R, rfl, hv.same s12, hg, fun F2 H3 ws2 B s3 hF3 hB hsB hws3 => ?_⟩
      have eAB : B = A := sorted_same hg.nd hB hA hsB hsA
      subst eAB
      have hshB := hg.shpB hA
      have hdF : DW All K H3 (.ref F) (progD (bareP B)) := ProgV.dw ⟨F, ws, rfl, s3 _ _ hF2, trivial, pImp hws2 fun _ _ z => (z.same s3).mono⟩
      have hdF2 : DW All K H3 (.ref F2) (progD (bareP B)) := ProgV.dw ⟨F2, ws2, rfl, hF3, trivial, hws3⟩
      refine go_neD (W := All) (W' := All) (d := progD (bareP B)) (e := progD (bareP B)) hdF hdF2 (hshB.ok (by decide)) (hshB.ok (by decide)) ?_
      rw [eqv_self hshB]
      walk_at "h"
      have s13 := s12.trans s3
      obtain ⟨l, ys, rfl, hl, _, hp⟩ := hv.same s13
      have hll : SqL K H3 l ys := .of hl
      walk_at "h"
      intro D hD
      have hpD : Paired (PartV (fun a => All a ∧ a ≠ D) K H3) ys R := pImp hp fun _ _ z => z.fresh hD
      refine lc_genL R (fun _ => true) (fun y p H4 => PartV (fun a => H3 a = none ∧ a ≠ D) K H4 y p) (fun y p H H' acc hDa b r => r.keep (.but b hDa fun a z => ⟨z, z.2⟩)) hll (pLen hp) (by have := hg.hi; omega) hD ?_ ?_
      · intro i x p H4 hx hp3 s4 hacc NY NN ny nn
        obtain ⟨p', e, hv4⟩ := pAt hpD hx
        rw [hp3] at e
        cases e
        have hgr := hg.rows p (List.mem_of_getElem? hp3)
        obtain ⟨t4, l2, xs2, rfl, ht4, hl2, _, hr2⟩ := hv4.same s4
        have hll2 : SqL K H4 l2 xs2 := .of hl2
        obtain ⟨accD, hacc⟩ := hacc
        walk_at "h"
        refine ⟨rfl, ?_⟩
        walk_at "h"
        intro D2 hD2
        have hD2F : D2 ≠ D := fun e => by rw [e, hacc] at hD2; cases hD2
        refine lc_genL p.2 (fun _ => true) (fun y r H5 => RowV (fun a => (H3 a = none ∧ a ≠ D) ∧ a ≠ D2) K H5 y r) (stable_row (W := fun a => H3 a = none ∧ a ≠ D)) hll2 (pLen hr2) (by have := hgr.hi; omega) hD2 ?_ ?_
        · intro j y r H5 hy hr5 s5 hacc2 NY2 NN2 ny2 nn2
          obtain ⟨r', e, hro⟩ := pAt hr2 hy
          rw [hr5] at e
          cases e
          obtain ⟨acc2, hacc2⟩ := hacc2
          walk_at "h"
          refine ⟨rfl, ?_⟩
          walk_at "h"
          refine ⟨y, r, rfl, (hro.same s5).mono, fun v6 H6 s6 hv6 => ?_⟩
          exact ny2 _ _ rfl s6 (hv6.keep (.same (Same.refl _) fun a ha => ⟨⟨same_none (s4.trans s5) ha, fun e => by rw [e, s5 _ _ hacc] at ha; cases ha⟩, fun e => by rw [e, hacc2] at ha; cases ha⟩))
        · intro H5 acc5 s5 hacc5 hp5
          rw [List.filter_eq_self.mpr (fun _ _ => rfl)] at hp5
          walk_at "h"
          refine ⟨sz_of (by simp), fun tp htp => ?_⟩
          have s6 := Same.new (o := .tup [V.str p.1, .ref D2]) htp
          exact ny _ _ rfl (s5.trans s6) ⟨tp, D2, acc5, rfl, upd_same, s6 _ _ hacc5, ⟨same_none s4 hD2, hD2F⟩, pImp hp5 fun _ _ z => z.keep (.same s6 fun _ z => z.1)⟩
      · intro H4 acc s4 hacc hpa
        rw [List.filter_eq_self.mpr (fun _ _ => rfl)] at hpa
        have hkp : ProgV (fun a => H3 a = none) K H4 (.ref D) R := ⟨D, acc, rfl, hacc, hD, pImp hpa fun _ _ z => z.keep (.same (Same.refl _) fun _ z => z.1)⟩
        have hwsG : Paired (PartV (fun a => H a = none ∧ a ≠ F) K H3) ws (bareP B) := pImp hws2 fun _ _ z => z.same s3
        obtain ⟨hkd, hmut⟩ := mut_start hg hA s13 s4 (s3 _ _ hF2) hwsG hkp
        generalize PLof (K := K) H3 H F = PL at hkd hmut
        generalize DLof H3 H F = DL at hkd hmut
        have hw4 : ws.length ≤ 4 := by
          rw [pLen hws]
          unfold bareP
          rw [List.length_map, hA.length_eq]
          exact hg.hi
        walk_at "h"
        refine ⟨F, rfl, ⟨_, .of hmut.fF⟩, ?_⟩
        refine for_list (xs := ws) (fun i σ H5 => ∃ (c d e : Option V) (n : Nat), σ = [some (.ref l), some .non, some (.ref F), c, d, e, some (.ref D)] ∧ Mut PL DL (fun a => H3 a = none) K H F ws (.ref D) R H5 n ∧ n ≤ 1000 * i)
          ⟨_, _, _, 0, rfl, hmut, Nat.zero_le _⟩ ?_ ?_ ?_
        · rintro i σ H5 _ ⟨c, d, e, n, rfl, m5, _⟩
          exact .of m5.fF
        · rintro i x σ H5 hx ⟨c, d, e, n, rfl, m5, hn⟩
          have hi : i < ws.length := (List.getElem?_eq_some_iff.mp hx).1
          obtain ⟨t5, p5, nm, rfl, ht5, hp5⟩ := m5.pl x (List.mem_of_getElem? hx)
          obtain ⟨xs5, hx5, hz5, _⟩ := m5.plc p5 hp5
          have hs5 : SqL K H5 p5 xs5 := .of hx5
          walk_at "h"
          refine for_list (xs := xs5) (fun j σ H6 => ∃ (e : Option V) (n' : Nat), σ = [some (.ref l), some .non, some (.ref F), some (.str nm), some (.ref p5), e, some (.ref D)] ∧ Mut PL DL (fun a => H3 a = none) K H F ws (.ref D) R H6 n' ∧ n' ≤ 1000 * i + j ∧ H6 p5 = some (.lst xs5))
            ⟨_, n, rfl, m5, by omega, hx5⟩ ?_ ?_ ?_
          · rintro j σ H6 _ ⟨e, n', rfl, m6, _, hx6⟩
            exact .of hx6
          · rintro j y σ H6 hy ⟨e, n', rfl, m6, hn', hx6⟩
            have hj : j < xs5.length := (List.getElem?_eq_some_iff.mp hy).1
            obtain ⟨xs6, hx6', hz6, hr6⟩ := m6.plc p5 hp5
            rw [hx6] at hx6'
            cases hx6'
            obtain ⟨t6, r, rfl, ht6⟩ := hr6 y (List.mem_of_getElem? hy)
            obtain ⟨hs, hhd⟩ := ht6.hd
            walk_at "h"
            refine go_ixT (v := .str r.kind) hhd (atI_nat (j := 0) rfl) ?_
            walk_at "h"
            refine ⟨sz_of (by simp), fun p7 hp7 => ?_⟩
            have s7 := Same.new (o := .tup [V.str "numbers", .str "table"]) hp7
            have m7 := m6.new (o := .tup [V.str "numbers", .str "table"]) hp7
            refine go_inS (.inr (.of upd_same)) rfl rfl ?_
            show ∃ k, V.bl (inV (V.str r.kind) [V.str "numbers", .str "table"]) = V.bl k ∧ _
            rw [kind_data]
            have ht7 := ht6.new s7
            have hx7 := s7 _ _ hx6
            generalize upd H6 p7 (.tup [V.str "numbers", .str "table"]) = H7 at *
            walk_at "h"
            refine ite2 (fun hdt => ?_) (fun hdt => ?_)
            · obtain ⟨l8, ht8, hl8⟩ := ht7.data hdt
              obtain ⟨zs, hzs, hzl⟩ := m7.dlc l8 hl8
              walk_at "h"
              refine ⟨go_tyL (.of hzs), ?_⟩
              walk_at "h"
              refine go_append hzs (sz_lt (by omega)) ?_
              refine ⟨_, n' + 1, rfl, m7.add hkd hl8 hzs, by omega, ?_⟩
              have hne : p5 ≠ l8 := fun z => (hkd.p0 p5 hp5).2.2.2 (z ▸ hl8)
              rw [upd_ne hne]
              exact hx7
            · exact ⟨_, n', rfl, m7, by omega, hx7⟩
          · rintro σ H6 ⟨e, n', rfl, m6, hn', hx6⟩
            walk_at "h"
            refine ⟨go_tyL (.of hx6), ?_⟩
            refine go_clear hx6 ?_
            walk_at "h"
            exact ⟨_, _, _, n', rfl, m6.clear hkd hp5 hx6, by omega⟩
        · rintro σ H5 ⟨c, d, e, n, rfl, m5, hn⟩
          have hv5 := hv.same m5.s
          have hsh := hg.shp
          walk_at "h"
          refine go_eqD (d := progD R) (e := progD R) hv5.dw m5.kp.dw (hsh.ok (by decide)) (hsh.ok (by decide)) ?_
          rw [eqv_self hsh]
          walk_at "h"
          refine ⟨.ref l, R, rfl, hv5, hg, fun _ F6 H6 ws6 A6 hF6n s6 hF6 hA6 hsA6 hws6 => ?_, fun u hu => by rw [hd] at hu; cases hu⟩
          walk_at "h"
          refine ⟨.ref l, R, rfl, hv5.same s6, hg, fun F7 H7 ws7 B7 s7 hF7 hB7 hsB7 hws7 => ?_⟩
          have eAB : B7 = A6 := sorted_same hg.nd hB7 hA6 hsB7 hsA6
          subst eAB
          have hshB := hg.shpB hA6
          have hdF : DW All K H7 (.ref F6) (progD (bareP B7)) := ProgV.dw ⟨F6, ws6, rfl, s7 _ _ hF6, trivial, pImp hws6 fun _ _ z => (z.same s7).mono⟩
          have hdF2 : DW All K H7 (.ref F7) (progD (bareP B7)) := ProgV.dw ⟨F7, ws7, rfl, hF7, trivial, hws7⟩
          refine go_eqD (W := All) (W' := All) (d := progD (bareP B7)) (e := progD (bareP B7)) hdF hdF2 (hshB.ok (by decide)) (hshB.ok (by decide)) ?_
          rw [eqv_self hshB]
          exact q _ (m5.s.trans (s6.trans s7))
end
end Fj
set_option maxHeartbeats 4000000
/-! _law_parts, _law_kinds, _law_goes_on, _law_name, _law_number -/
namespace Fj
open PySem PySem.Spec PyProof.Rows L2
open C8 (Met Mak InsC pe_mt0 pe_mk)
section
variable {P : Program} {w : World} {K : PySem.W.Frag} {mg : Str → Option Value} {base : Heap}
def Below (n s : Int) : Prop := 0 ≤ n ∧ n < s
abbrev slaw_parts : Stmt := top 68
abbrev Nlaw_parts : List Str := ["_law_cell", "_law_sizes", "_law_found", "_law_rest", "_law_k", "_law_size"]
theorem sclaw_parts : FnScope Nlaw_parts ["_law_cell", "_law_sizes"] (defScope slaw_parts) := ⟨rfl, rfl, rfl, by decide +kernel, rfl, by decide +kernel, by decide +kernel⟩
def spParts (K : PySem.W.Frag) : Sp := fun vs H Q _ => ∃ (c : Int) (a : Addr) (ss : List Int), vs = [.int c, .ref a] ∧ H a = some (.lst (ss.map V.int)) ∧ (∀ s ∈ ss, 0 < s ∧ s ≤ 10000000000) ∧ ss.length ≤ 100 ∧
  ∀ p H' ns, Same H H' → H' p = some (.lst (ns.map V.int)) → Paired Below ns ss → Q (.ref p) H'
theorem mod_below {a s : Int} (h : 0 < s) : Below (a % s) s := ⟨Int.emod_nonneg _ (by omega), Int.emod_lt_of_pos _ h⟩
theorem ok_law_parts (F : FnAt K mg "_law_parts" slaw_parts ["_law_cell", "_law_sizes"]) (T : Txt K mg) (G_law_mixed : Cal P w K mg base CX0 1 "_law_mixed" ["_law_cell", "_law_k"] spMixed) : Cal P w K mg base CX0 2 "_law_parts" ["_law_cell", "_law_sizes"] (spParts K) := by
  refine cal_mk F sclaw_parts (fun vs H Q E h => ?_) (fun f cdv A outer s H vs Q E hr h => ?_)
  · obtain ⟨c, a, ss, rfl, _⟩ := h
    rfl
  · obtain ⟨c, a, ss, rfl, ha, hs, hz, q⟩ := h
    have nd := sclaw_parts.nd
    refine ⟨_, (pss_cons (ps_set (i := 2) nd rfl (Or.inl rfl) (pe_lst pa_nil))
      (pss_cons (ps_set (i := 3) nd rfl (Or.inl rfl) (pe_op op_fdiv (pv 0) pe_int))
      (pss_cons (ps_for PassesOwn.never rfl (pi_enum (by rfl) T.n_enumerate (pa_cons (pv 1) pa_nil)) (pg_tup rfl (pgs_cons (pg_name (i := 4) nd rfl (Or.inl rfl)) (pgs_cons (pg_name (i := 5) nd rfl (Or.inl rfl)) pgs_nil))) (pss_one (ps_if (PW.pt (pw_and (pt_cmpR op_eq (pe_op op_mod (pv 0) pe_int) pe_int (nomark _)) (pw_and1 (pt_cmpR (notInK (K := K) rfl) (pv 3) (pe_tup (pa_cons pe_int (pa_cons (pe_un un_neg pe_int) pa_nil))) (by rfl))))) (pss_cons (ps_expr (pe_bm PySem.F.plainAttrs_list PySem.F.slot_list_append PySem.F.type_list_append mt_append (pv 2) (pa_cons (pe_op op_mod (pv 3) (pv 5)) pa_nil)))
      (pss_one (ps_set (i := 3) nd rfl (Or.inl rfl) (pe_op op_fdivW (pv 3) (pv 5))))) (pss_one (ps_expr (pe_bm PySem.F.plainAttrs_list PySem.F.slot_list_append PySem.F.type_list_append mt_append (pv 2) (pa_cons (pe_op op_mod (pe_op op_add (pe_cal G_law_mixed hr (by decide) rfl pass0 (pa_cons (pe_op op_fdiv (pv 0) pe_int) (pa_cons (pv 4) pa_nil))) (pe_op op_pow (pe_cal G_law_mixed hr (by decide) rfl pass0 (pa_cons (pe_op op_fdiv (pv 0) pe_int) (pa_cons (pe_op op_add (pv 4) pe_int) pa_nil))) pe_int)) (pv 5)) pa_nil)))))))
      (pss_one (ps_ret (pv 2)))))), ?_⟩
    walk_at "h"
    refine ⟨sz_of (by simp), fun D hD => ?_⟩
    have s0 := Same.new (o := .lst []) hD
    have haS : SqL K (upd H D (.lst [])) a (ss.map V.int) := .of (s0 _ _ ha)
    walk_at "h"
    refine go_I ⟨by decide, by decide⟩ ?_
    walk_at "h"
    refine ⟨a, _, rfl, haS, ?_⟩
    refine for_enum (xs := ss.map V.int) (fun i σ H2 => ∃ (r : Int) (x y : Option V) (ns : List Int), σ = [some (.int c), some (.ref a), some (.ref D), some (.int r), x, y] ∧ Same H H2 ∧ H2 D = some (.lst (ns.map V.int)) ∧ Paired Below ns (ss.take i))
      ⟨_, _, _, [], rfl, s0, upd_same, .nil⟩ ?_ ?_ ?_
    · rintro i σ H2 _ ⟨r, x, y, ns, rfl, s2, _⟩
      exact .of (s2 _ _ ha)
    · rintro i x σ H2 T2 hx ⟨r, x', y', ns, rfl, s2, hd, hb⟩ hT2
      rw [List.getElem?_map] at hx
      obtain ⟨sz, hsz, rfl⟩ := Option.map_eq_some_iff.mp hx
      obtain ⟨hs1, hs2⟩ := hs sz (List.mem_of_getElem? hsz)
      have hi : i < ss.length := (List.getElem?_eq_some_iff.mp hsz).1
      have s3 : Same H2 (upd H2 T2 (.tup [.int (i : Nat), .int sz])) := Same.new hT2
      have hT3 : SqT K (upd H2 T2 (.tup [.int (i : Nat), .int sz])) T2 [.int (i : Nat), .int sz] := .of upd_same
      have hd3 := s3 _ _ hd
      have nl : ns.length ≤ 100 := by
        rw [pLen hb, List.length_take]
        omega
      generalize upd H2 T2 (.tup [.int (i : Nat), .int sz]) = H3 at *
      have put : ∀ (n : Int) (H4 : Hp), Below n sz → Same H3 H4 → Same H (upd H4 D (.lst (ns.map V.int ++ [.int n]))) ∧ upd H4 D (.lst (ns.map V.int ++ [.int n])) D = some (.lst ((ns ++ [n]).map V.int)) ∧ Paired Below (ns ++ [n]) (ss.take (i + 1)) := fun n H4 hn s4 =>
        ⟨(s2.trans (s3.trans s4)).mut hD, by rw [List.map_append]; exact upd_same, by rw [take_snoc hsz]; exact pSnoc hb hn⟩
      walk_at "h"
      refine go_I (by decide) ?_
      walk_at "h"
      refine ite2 (fun h1 => ?_) (fun h1 => ?_)
      · walk_at "h"
        refine ⟨sz_of (by simp), fun p4 hp4 => ?_⟩
        have s4 := Same.new (o := .tup [V.int 0, .int (-1)]) hp4
        refine go_inS (.inr (.of upd_same)) rfl rfl ?_
        refine ⟨_, rfl, ?_⟩
        refine ite2 (fun h2 => ?_) (fun h2 => ?_)
        · walk_at "h"
          refine ⟨go_tyL (.of (s4 _ _ hd3)), ?_⟩
          walk_at "h"
          refine go_I hs1 ?_
          walk_at "h"
          refine go_append (s4 _ _ hd3) (sz_lt (by rw [List.length_map]; omega)) ?_
          walk_at "h"
          refine go_I (wide_div (b := 34) hs1 (by omega) (by decide) (by decide)) ?_
          walk_at "h"
          obtain ⟨b1, b2, b3⟩ := put _ _ (mod_below hs1) s4
          exact ⟨_, _, _, _, rfl, b1, b2, b3⟩
        · walk_at "h"
          refine ⟨go_tyL (.of (s4 _ _ hd3)), ?_⟩
          walk_at "h"
          refine go_I ⟨by decide, by decide⟩ ?_
          walk_at "h"
          refine ⟨_, _, rfl, by omega, by omega, fun z z0 z1 => ?_⟩
          walk_at "h"
          refine go_I ⟨by decide, by decide⟩ ?_
          walk_at "h"
          refine ⟨_, _, rfl, by omega, by omega, fun z' z0' z1' => ?_⟩
          walk_at "h"
          refine go_I ⟨by decide, by decide, by omega⟩ ?_
          walk_at "h"
          refine go_I hs1 ?_
          walk_at "h"
          refine go_append (s4 _ _ hd3) (sz_lt (by rw [List.length_map]; omega)) ?_
          walk_at "h"
          obtain ⟨b1, b2, b3⟩ := put _ _ (mod_below hs1) (s4)
          exact ⟨_, _, _, _, rfl, b1, b2, b3⟩
      · walk_at "h"
        refine ⟨go_tyL (.of ((Same.refl H3) _ _ hd3)), ?_⟩
        walk_at "h"
        refine go_I ⟨by decide, by decide⟩ ?_
        walk_at "h"
        refine ⟨_, _, rfl, by omega, by omega, fun z z0 z1 => ?_⟩
        walk_at "h"
        refine go_I ⟨by decide, by decide⟩ ?_
        walk_at "h"
        refine ⟨_, _, rfl, by omega, by omega, fun z' z0' z1' => ?_⟩
        walk_at "h"
        refine go_I ⟨by decide, by decide, by omega⟩ ?_
        walk_at "h"
        refine go_I hs1 ?_
        walk_at "h"
        refine go_append ((Same.refl H3) _ _ hd3) (sz_lt (by rw [List.length_map]; omega)) ?_
        walk_at "h"
        obtain ⟨b1, b2, b3⟩ := put _ _ (mod_below hs1) ((Same.refl H3))
        exact ⟨_, _, _, _, rfl, b1, b2, b3⟩
    · rintro σ H2 ⟨r, x, y, ns, rfl, s2, hd, hb⟩
      walk_at "h"
      rw [List.length_map, List.take_of_length_le (Nat.le_refl _)] at hb
      exact q D H2 ns s2 hd hb
/-! kinds -/
def kindsL : List Str := ["set", "add", "take", "say", "ask", "jump", "jumpif", "call", "back", "stop", "load", "jumpby", "alike", "numbers", "table", "say", "jumpif", "call", "set", "say"]
abbrev slaw_kinds : Stmt := top 69
abbrev Nlaw_kinds : List Str := ["_law_kinds_here"]
theorem sclaw_kinds : FnScope Nlaw_kinds [] (defScope slaw_kinds) := ⟨rfl, rfl, rfl, by decide +kernel, rfl, by decide +kernel, by decide +kernel⟩
def spKinds : Sp := fun vs H Q _ => vs = [] ∧ ∀ p H', Same H H' → H' p = some (.lst (kindsL.map V.str)) → Q (.ref p) H'
theorem ok_law_kinds (F : FnAt K mg "_law_kinds" slaw_kinds []) (T : Txt K mg) : Cal P w K mg base CX0 1 "_law_kinds" [] spKinds := by
  refine cal_mk F sclaw_kinds (fun vs H Q E h => ?_) (fun f cdv A outer s H vs Q E hr h => ?_)
  · obtain ⟨rfl, _⟩ := h
    rfl
  · obtain ⟨rfl, q⟩ := h
    have nd := sclaw_kinds.nd
    refine ⟨_, (pss_cons (ps_set (i := 0) nd rfl (Or.inl rfl) (pe_lst (pa_cons pe_str (pa_cons pe_str (pa_cons pe_str (pa_cons pe_str (pa_cons pe_str (pa_cons pe_str (pa_cons pe_str (pa_cons pe_str (pa_cons pe_str (pa_cons pe_str (pa_cons pe_str (pa_cons pe_str (pa_cons pe_str pa_nil)))))))))))))))
      (pss_one (ps_ret (pe_op op_cat (pv 0) (pe_lst (pa_cons pe_str (pa_cons pe_str (pa_cons pe_str (pa_cons pe_str (pa_cons pe_str (pa_cons pe_str (pa_cons pe_str pa_nil)))))))))))), ?_⟩
    walk_at "h"
    refine ⟨sz_of (by decide), fun l1 hl1 => ?_⟩
    have s1 := Same.new (o := .lst [V.str "set", .str "add", .str "take", .str "say", .str "ask", .str "jump", .str "jumpif", .str "call", .str "back", .str "stop", .str "load", .str "jumpby", .str "alike"]) hl1
    walk_at "h"
    refine ⟨sz_of (by decide), fun l2 hl2 => ?_⟩
    have s2 := Same.new (o := .lst [V.str "numbers", .str "table", .str "say", .str "jumpif", .str "call", .str "set", .str "say"]) hl2
    refine go_cat (s2 _ _ upd_same) upd_same (sz_of (by decide)) fun l3 hl3 => ?_
    exact q l3 _ (s1.trans (s2.trans (Same.new hl3))) upd_same
def goesL : List Str := ["set", "add", "take", "say", "ask", "jumpif", "call", "load", "alike"]
def goesK (k : Str) : Bool := inV (.str k) (goesL.map V.str)
def dataK (k : Str) : Bool := inV (.str k) [V.str "numbers", .str "table"]
abbrev slaw_goes_on : Stmt := top 70
abbrev Nlaw_goes_on : List Str := ["_law_kind"]
theorem sclaw_goes_on : FnScope Nlaw_goes_on ["_law_kind"] (defScope slaw_goes_on) := ⟨rfl, rfl, rfl, by decide +kernel, rfl, by decide +kernel, by decide +kernel⟩
def spGoesK : Sp := fun vs H Q _ => ∃ k : Str, vs = [.str k] ∧ ∀ H', Same H H' → Q (.bl (goesK k)) H'
theorem ok_law_goes_on (F : FnAt K mg "_law_goes_on" slaw_goes_on ["_law_kind"]) (T : Txt K mg) : Cal P w K mg base CX0 1 "_law_goes_on" ["_law_kind"] spGoesK := by
  refine cal_mk F sclaw_goes_on (fun vs H Q E h => ?_) (fun f cdv A outer s H vs Q E hr h => ?_)
  · obtain ⟨k, rfl, _⟩ := h
    rfl
  · obtain ⟨k, rfl, q⟩ := h
    have nd := sclaw_goes_on.nd
    refine ⟨_, (pss_one (ps_ret (pe_cmpR (inK (K := K) rfl) (pv 0) (pe_tup (pa_cons pe_str (pa_cons pe_str (pa_cons pe_str (pa_cons pe_str (pa_cons pe_str (pa_cons pe_str (pa_cons pe_str (pa_cons pe_str (pa_cons pe_str pa_nil)))))))))) (by rfl)))), ?_⟩
    walk_at "h"
    refine ⟨sz_of (by decide), fun l1 hl1 => ?_⟩
    exact go_inS (.inr (.of upd_same)) rfl rfl (q _ (Same.new hl1))
end
end Fj
set_option maxHeartbeats 4000000
/-! _law_skeleton -/
namespace Fj
open PySem PySem.Spec PyProof.Rows L2
open C8 (Met Mak InsC pe_mt0 pe_mk)
structure Bn where
  kind : Str
  b : Int
  c : Int
  m : Int
def Bn.ok (x : Bn) : Prop := x.kind ∈ kindsL ∧ Below x.b 4 ∧ Below x.c 4 ∧ Below x.m 10000000000
def Bn.d (x : Bn) : PyData := .tuple [.str x.kind, .int x.b, .int x.c, .int x.m]
def Chain (bs : List Bn) : Prop := ∀ (i : Nat) b c, bs[i]? = some b → bs[i + 1]? = some c → goesK b.kind = true → dataK c.kind = false
structure GoodB (bs : List Bn) : Prop where
  lo : 1 ≤ bs.length
  hi : bs.length ≤ 24
  ok : ∀ b ∈ bs, b.ok
  ch : Chain bs
  la : ∀ b, bs.getLast? = some b → goesK b.kind = false
theorem Chain.snoc {bs : List Bn} {b : Bn} (h : Chain bs) (hl : ∀ l, bs.getLast? = some l → goesK l.kind = true → dataK b.kind = false) : Chain (bs ++ [b]) := by
  intro i x y hx hy hg
  have hi1 : i + 1 < (bs ++ [b]).length := (List.getElem?_eq_some_iff.mp hy).1
  rw [List.length_append, List.length_singleton] at hi1
  rw [List.getElem?_append_left (by omega)] at hx
  by_cases e : i + 1 < bs.length
  · rw [List.getElem?_append_left e] at hy
    exact h i x y hx hy hg
  · have e2 : i + 1 = bs.length := by omega
    rw [e2, List.getElem?_append_right (Nat.le_refl _), Nat.sub_self] at hy
    have hy := Option.some.inj hy
    subst hy
    refine hl x ?_ hg
    rw [List.getLast?_eq_getElem?, ← hx]
    congr 1
    omega
section
variable {P : Program} {w : World} {K : PySem.W.Frag} {mg : Str → Option Value} {base : Heap}
def BoneV (H : Hp) (v : V) (x : Bn) : Prop := ∃ t, v = .ref t ∧ H t = some (.tup [.str x.kind, .int x.b, .int x.c, .int x.m])
theorem BoneV.same {H H' : Hp} {v : V} {x : Bn} (h : BoneV H v x) (s : Same H H') : BoneV H' v x := by
  obtain ⟨t, e, h⟩ := h
  exact ⟨t, e, s _ _ h⟩
theorem BoneV.but {D : Addr} {H H' : Hp} {acc : List V} {v : V} {x : Bn} (hD : H D = some (.lst acc)) (b : But D H H') (h : BoneV H v x) : BoneV H' v x := by
  obtain ⟨t, e, h⟩ := h
  exact ⟨t, e, b _ _ (fun z => by rw [z, hD] at h; cases h) h⟩
theorem BoneV.dw {H : Hp} {v : V} {x : Bn} (h : BoneV H v x) : DW All K H v x.d := by
  obtain ⟨t, rfl, h⟩ := h
  exact .tup (.of h) (.cons (.str _) (.cons (.int _) (.cons (.int _) (.cons (.int _) .nil))))
theorem kinds_lay : ∀ k ∈ kindsL, PyData.strOk k = true := by decide +kernel
theorem Bn.shp {x : Bn} (h : x.ok) : Shp 1 x.d := by
  unfold Bn.d
  apply Shp.tup
  intro d m
  simp only [List.mem_cons, List.not_mem_nil, or_false] at m
  rcases m with rfl | rfl | rfl | rfl
  · exact shp_str (kinds_lay _ h.1)
  · exact shp_int _
  · exact shp_int _
  · exact shp_int _
theorem bones_shp {bs : List Bn} (h : ∀ b ∈ bs, b.ok) : Shp 2 (.list (bs.map Bn.d)) := by
  apply Shp.lst
  intro d m
  obtain ⟨b, hb, rfl⟩ := List.mem_map.mp m
  exact Bn.shp (h b hb)
theorem pAtR {α β : Type} {F : α → β → Prop} : ∀ {l : List α} {m : List β} {i : Nat} {b : β}, Paired F l m → m[i]? = some b → ∃ a, l[i]? = some a ∧ F a b
  | _, _, _, _, .nil, e => by simp at e
  | _, _, 0, b, .cons r _, e => by simp at e; subst e; exact ⟨_, rfl, r⟩
  | _, _, i + 1, b, .cons _ t, e => by
    obtain ⟨a, h1, h2⟩ := pAtR (i := i) (b := b) t (by simpa using e)
    exact ⟨a, by simpa using h1, h2⟩
theorem cut4 {xs : List V} {a : Nat} {x1 x2 x3 x4 : V} (h1 : xs[a]? = some x1) (h2 : xs[a + 1]? = some x2) (h3 : xs[a + 2]? = some x3) (h4 : xs[a + 3]? = some x4) : cutV xs (some (a : Int)) (some ((a + 4 : Nat) : Int)) = [x1, x2, x3, x4] := by
  unfold cutV
  have l4 := (List.getElem?_eq_some_iff.mp h4).1
  rw [HT.sIx_nat, HT.sIx_nat, Nat.min_eq_left (by omega), Nat.min_eq_left (by omega), show a + 4 - a = 4 by omega]
  have e1 := split_at h1
  have d1 : xs.drop a = x1 :: xs.drop (a + 1) := List.drop_eq_getElem?_toList_append.trans (by rw [h1]; rfl)
  have d2 : xs.drop (a + 1) = x2 :: xs.drop (a + 2) := List.drop_eq_getElem?_toList_append.trans (by rw [h2]; rfl)
  have d3 : xs.drop (a + 2) = x3 :: xs.drop (a + 3) := List.drop_eq_getElem?_toList_append.trans (by rw [h3]; rfl)
  have d4 : xs.drop (a + 3) = x4 :: xs.drop (a + 4) := List.drop_eq_getElem?_toList_append.trans (by rw [h4]; rfl)
  rw [d1, d2, d3, d4]
  rfl
theorem atI_last {ys : List V} {y : V} : atI (ys ++ [y]) (-1) = some y := by
  unfold atI
  have e : ixN (ys ++ [y]).length (-1) = some ys.length := by
    rw [List.length_append, List.length_singleton]
    unfold ixN
    rw [if_neg (by decide), if_pos (by omega)]
    congr 1
    omega
  rw [e]
  show (ys ++ [y])[ys.length]? = some y
  rw [List.getElem?_append_right (Nat.le_refl _), Nat.sub_self]
  rfl
theorem last_of {F : V → Bn → Prop} {acc : List V} {bs : List Bn} {b : Bn} (h : Paired F acc bs) (hb : bs.getLast? = some b) : ∃ v, atI acc (-1) = some v ∧ F v b := by
  rw [List.getLast?_eq_getElem?] at hb
  obtain ⟨v, hv, hf⟩ := pAtR h hb
  have hl := pLen h
  have l1 := (List.getElem?_eq_some_iff.mp hv).1
  refine ⟨v, ?_, hf⟩
  have e : acc = acc.take (bs.length - 1) ++ [v] := by
    conv => lhs; rw [split_at hv]
    rw [List.drop_eq_nil_of_le (by omega)]
  rw [e]
  exact atI_last
theorem eqv_nil {ds : List PyData} : PyData.eqv (.list ds) (.list []) = ds.isEmpty := by
  cases ds with
  | nil => rfl
  | cons d ds => rw [PyData.eqv]; rfl
def sizes11 : List Int := [11, 20, 4, 4, 10000000000, 20, 4, 4, 10000000000, 20, 4, 4, 10000000000, 20, 4, 4, 10000000000, 20, 4, 4, 10000000000, 20, 4, 4, 10000000000, 20, 4, 4, 10000000000, 20, 4, 4, 10000000000, 20, 4, 4, 10000000000, 20, 4, 4, 10000000000, 20, 4, 4, 10000000000]
theorem sizes_at {k : Nat} (h : k < 11) : sizes11[1 + 4 * k]? = some 20 ∧ sizes11[1 + 4 * k + 1]? = some 4 ∧ sizes11[1 + 4 * k + 2]? = some 4 ∧ sizes11[1 + 4 * k + 3]? = some 10000000000 := by
  have : ∀ k : Fin 11, sizes11[1 + 4 * k.1]? = some 20 ∧ sizes11[1 + 4 * k.1 + 1]? = some 4 ∧ sizes11[1 + 4 * k.1 + 2]? = some 4 ∧ sizes11[1 + 4 * k.1 + 3]? = some 10000000000 := by decide +kernel
  exact this ⟨k, h⟩
abbrev slaw_skeleton : Stmt := top 71
abbrev Nlaw_skeleton : List Str := ["_law_cell", "_law_most", "_law_parts_here", "_law_found", "_law_k", "_law_kind", "_law_b", "_law_c", "_law_more", "_law_row"]
theorem sclaw_skeleton : FnScope Nlaw_skeleton ["_law_cell", "_law_most"] (defScope slaw_skeleton) := ⟨rfl, rfl, rfl, by decide +kernel, rfl, by decide +kernel, by decide +kernel⟩
def spSkel (K : PySem.W.Frag) : Sp := fun vs H Q _ => ∃ c : Int, vs = [.int c, .int 11] ∧ ∀ p H' xs bs, H p = none → Same H H' → H' p = some (.lst xs) → Paired (BoneV H') xs bs → GoodB bs → Q (.ref p) H'
theorem ok_law_skeleton (F : FnAt K mg "_law_skeleton" slaw_skeleton ["_law_cell", "_law_most"]) (T : Txt K mg) (G_law_parts : Cal P w K mg base CX0 2 "_law_parts" ["_law_cell", "_law_sizes"] (spParts K)) (G_law_kinds : Cal P w K mg base CX0 1 "_law_kinds" [] spKinds) (G_law_goes_on : Cal P w K mg base CX0 1 "_law_goes_on" ["_law_kind"] spGoesK) : Cal P w K mg base CX0 3 "_law_skeleton" ["_law_cell", "_law_most"] (spSkel K) := by
  refine cal_mk F sclaw_skeleton (fun vs H Q E h => ?_) (fun f cdv A outer s H vs Q E hr h => ?_)
  · obtain ⟨c, rfl, _⟩ := h
    rfl
  · obtain ⟨c, rfl, q⟩ := h
    have nd := sclaw_skeleton.nd
    refine ⟨_, (pss_cons (ps_set (i := 2) nd rfl (Or.inl rfl) (pe_cal G_law_parts hr (by decide) rfl pass0 (pa_cons (pv 0) (pa_cons (pe_op op_cat (pe_lst (pa_cons (pv 1) pa_nil)) (pe_op op_rep (pe_lst (pa_cons pe_int (pa_cons pe_int (pa_cons pe_int (pa_cons (pe_op op_pow pe_int pe_int) pa_nil))))) (pv 1))) pa_nil))))
      (pss_cons (ps_set (i := 3) nd rfl (Or.inl rfl) (pe_lst pa_nil))
      (pss_cons (ps_for PassesOwn.never rfl (pi_range1 (by rfl) T.n_range (pa_cons (pe_op op_add pe_int (pe_ix (ixlK (K := K) rfl) (pv 2) pe_int (fun _ _ => rfl))) pa_nil)) (pg_name (i := 4) nd rfl (Or.inl rfl)) (pss_cons (ps_asg (pe_slice (sllK (K := K) rfl) (pv 2) (po_some (pe_op op_add pe_int (pe_op op_mul pe_int (pv 4)))) (po_some (pe_op op_add pe_int (pe_op op_mul pe_int (pv 4))))) (pg_unl rfl (pgs_cons (pg_name (i := 5) nd rfl (Or.inl rfl)) (pgs_cons (pg_name (i := 6) nd rfl (Or.inl rfl)) (pgs_cons (pg_name (i := 7) nd rfl (Or.inl rfl)) (pgs_cons (pg_name (i := 8) nd rfl (Or.inl rfl)) pgs_nil))))))
      (pss_cons (ps_set (i := 9) nd rfl (Or.inl rfl) (pe_tup (pa_cons (pe_ix (ixlK (K := K) rfl) (pe_cal0 G_law_kinds hr (by decide) rfl pass0) (pv 5) (fun _ _ => rfl)) (pa_cons (pv 6) (pa_cons (pv 7) (pa_cons (pv 8) pa_nil))))))
      (pss_cons (ps_if (PW.pt (pw_and (pt_cmpR (inK (K := K) rfl) (pe_ix (ixtK (K := K) rfl) (pv 9) pe_int (fun _ _ => rfl)) (pe_tup (pa_cons pe_str (pa_cons pe_str pa_nil))) (by rfl)) (pw_and (pt_cmpR (nedK (K := K) rfl hr.units) (pv 3) (pe_lst pa_nil) (nomark _)) (pw_and1 (pt_val (pe_cal G_law_goes_on hr (by decide) rfl pass0 (pa_cons (pe_ix (ixtK (K := K) rfl) (pe_ix (ixlK (K := K) rfl) (pv 3) (pe_un un_neg pe_int) (fun _ _ => rfl)) pe_int (fun _ _ => rfl)) pa_nil))))))) (pss_one (ps_expr (pe_bm PySem.F.plainAttrs_list PySem.F.slot_list_append PySem.F.type_list_append mt_append (pv 3) (pa_cons (pe_tup (pa_cons pe_str (pa_cons pe_int (pa_cons pe_int (pa_cons pe_int pa_nil))))) pa_nil)))) pss_nil)
      (pss_one (ps_expr (pe_bm PySem.F.plainAttrs_list PySem.F.slot_list_append PySem.F.type_list_append mt_append (pv 3) (pa_cons (pv 9) pa_nil))))))))
      (pss_cons (ps_if (pt_val (pe_cal G_law_goes_on hr (by decide) rfl pass0 (pa_cons (pe_ix (ixtK (K := K) rfl) (pe_ix (ixlK (K := K) rfl) (pv 3) (pe_un un_neg pe_int) (fun _ _ => rfl)) pe_int (fun _ _ => rfl)) pa_nil))) (pss_one (ps_expr (pe_bm PySem.F.plainAttrs_list PySem.F.slot_list_append PySem.F.type_list_append mt_append (pv 3) (pa_cons (pe_tup (pa_cons (pe_ix (ixlK (K := K) rfl) (pe_lst (pa_cons pe_str (pa_cons pe_str pa_nil))) (pe_op op_mod (pe_ix (ixlK (K := K) rfl) (pv 2) pe_int (fun _ _ => rfl)) pe_int) (fun _ _ => rfl)) (pa_cons pe_int (pa_cons pe_int (pa_cons pe_int pa_nil))))) pa_nil)))) pss_nil)
      (pss_one (ps_ret (pv 3))))))), ?_⟩
    walk_at "h"
    refine ⟨sz_of (by simp), fun l1 hl1 => ?_⟩
    have s1 := Same.new (o := .lst [V.int 11]) hl1
    walk_at "h"
    refine go_I ⟨by decide, by decide, by decide⟩ ?_
    walk_at "h"
    refine ⟨sz_of (by simp), fun l2 hl2 => ?_⟩
    have s2 := Same.new (o := .lst [V.int 20, .int 4, .int 4, .int (10 ^ (10 : Int).toNat)]) hl2
    walk_at "h"
    refine ⟨l2, 11, _, rfl, rfl, upd_same, by decide, by decide, sz_of (by decide), fun l3 hl3 => ?_⟩
    have s3 := s2.trans (Same.new (o := .lst (List.replicate (11 : Int).toNat [V.int 20, .int 4, .int 4, .int (10 ^ (10 : Int).toNat)]).flatten) hl3)
    refine go_cat (s3 _ _ upd_same) upd_same (sz_of (by decide)) fun l4 hl4 => ?_
    have s4 := s3.trans (Same.new (o := .lst ([V.int 11] ++ (List.replicate (11 : Int).toNat [V.int 20, .int 4, .int 4, .int (10 ^ (10 : Int).toNat)]).flatten)) hl4)
    have s14 := s1.trans s4
    walk_at "h"
    refine ⟨c, l4, sizes11, rfl, upd_same, by decide +kernel, by decide, fun pA H5 ns s5 hpA hns => ?_⟩
    have sA := s14.trans s5
    obtain ⟨n0, hn0, hb0⟩ := pAtR (i := 0) hns rfl
    obtain ⟨nx, hnx, _⟩ := pAtR (i := 2) hns rfl
    have hAS : SqL K H5 pA (ns.map V.int) := .of hpA
    have at_ : ∀ {i : Nat} {n : Int}, ns[i]? = some n → (ns.map V.int)[i]? = some (.int n) := fun h => by rw [List.getElem?_map, h]; rfl
    walk_at "h"
    refine ⟨sz_of (by simp), fun D hD => ?_⟩
    have s6 : Same H5 (upd H5 D (.lst [])) := Same.new hD
    have hD6 : upd H5 D (.lst []) D = some (.lst []) := upd_same
    have hD0 := same_none sA hD
    walk_at "h"
    refine go_ixL (s6.seq hAS) (atI_nat (j := 0) (at_ hn0)) ?_
    walk_at "h"
    obtain ⟨b01, b02⟩ := hb0
    refine ⟨_, rfl, by omega, by omega, ?_⟩
    refine for_range (fun k σ H7 => ∃ (a b c' d e f : Option V) (acc : List V) (bs : List Bn), σ = [some (.int c), some (.int 11), some (.ref pA), some (.ref D), a, b, c', d, e, f] ∧ Same H5 H7 ∧ H7 D = some (.lst acc) ∧ Paired (BoneV H7) acc bs ∧ bs.length ≤ 2 * k ∧ (1 ≤ k → 1 ≤ bs.length) ∧ (∀ x ∈ bs, x.ok) ∧ Chain bs)
      ⟨none, none, none, none, none, none, [], [], rfl, s6, hD6, .nil, by simp, fun h => absurd h (by decide), fun _ m => (nomatch m), fun i b c h => by simp at h⟩ ?_ ?_
    · rintro k σ H7 hk ⟨a, b, c', d, e, f, acc, bs, rfl, s7, hD7, hacc, hlen, _, hok, hch⟩
      have hk11 : k < 11 := by omega
      obtain ⟨z1, z2, z3, z4⟩ := sizes_at hk11
      obtain ⟨n1, hn1, hb1⟩ := pAtR hns z1
      obtain ⟨n2, hn2, hb2⟩ := pAtR hns z2
      obtain ⟨n3, hn3, hb3⟩ := pAtR hns z3
      obtain ⟨n4, hn4, hb4⟩ := pAtR hns z4
      have hcut := cut4 (at_ hn1) (at_ hn2) (at_ hn3) (at_ hn4)
      have ei : (1 : Int) + 4 * (0 + (k : Int)) = ((1 + 4 * k : Nat) : Int) := by omega
      have ej : (5 : Int) + 4 * (0 + (k : Int)) = ((1 + 4 * k + 4 : Nat) : Int) := by omega
      walk_at "h"
      refine go_I (.inl (by decide)) ?_
      walk_at "h"
      refine go_I (.inl (by decide)) ?_
      walk_at "h"
      refine go_slL (s7.seq hAS) fun p8 hp8 => ?_
      rw [ei, ej, hcut]
      have s8 := Same.new (o := .lst [V.int n1, .int n2, .int n3, .int n4]) hp8
      refine go_gUnl (.of upd_same) rfl ?_
      walk_at "h"
      refine ⟨rfl, fun p9 H9 s9 hp9 => ?_⟩
      obtain ⟨m1, rfl⟩ : ∃ m1 : Nat, n1 = m1 := ⟨n1.toNat, by have := hb1.1; omega⟩
      have hm1 : m1 < 20 := by have := hb1.2; omega
      obtain ⟨kd, hkd⟩ : ∃ kd, kindsL[m1]? = some kd := ⟨_, List.getElem?_eq_getElem hm1⟩
      walk_at "h"
      refine go_ixL (.of hp9) (atI_nat (v := .str kd) (by rw [List.getElem?_map, hkd]; rfl)) ?_
      walk_at "h"
      refine ⟨sz_of (by simp), fun tR htR => ?_⟩
      have s10 := Same.new (o := .tup [V.str kd, .int n2, .int n3, .int n4]) htR
      have s710 := s8.trans (s9.trans s10)
      have hR : upd H9 tR (.tup [V.str kd, .int n2, .int n3, .int n4]) tR = some (.tup [V.str kd, .int n2, .int n3, .int n4]) := upd_same
      have hD10 := s710 _ _ hD7
      have hacc10 : Paired (BoneV (upd H9 tR (.tup [V.str kd, .int n2, .int n3, .int n4]))) acc bs := pImp hacc fun _ _ z => z.same s710
      have s510 := s7.trans s710
      generalize upd H9 tR (.tup [V.str kd, .int n2, .int n3, .int n4]) = H10 at *
      have hbn : Bn.ok ⟨kd, n2, n3, n4⟩ := ⟨List.mem_of_getElem? hkd, hb2, hb3, hb4⟩
      have hal := pLen hacc10
      have fin : ∀ (H' : Hp) (acc' : List V) (bs' : List Bn) (σ' : L2.St), Same H10 H' → H' D = some (.lst acc') → Paired (BoneV H') acc' bs' → bs'.length ≤ 2 * k + 1 → (∀ x ∈ bs', x.ok) → Chain (bs' ++ [⟨kd, n2, n3, n4⟩]) → σ' = [some (.int c), some (.int 11), some (.ref pA), some (.ref D), some (.int (0 + (k : Int))), some (.int (m1 : Nat)), some (.int n2), some (.int n3), some (.int n4), some (.ref tR)] →
          ∃ (a b c' d e f : Option V) (acc : List V) (bs : List Bn), σ' = [some (.int c), some (.int 11), some (.ref pA), some (.ref D), a, b, c', d, e, f] ∧ Same H5 (upd H' D (.lst (acc' ++ [.ref tR]))) ∧ (upd H' D (.lst (acc' ++ [.ref tR]))) D = some (.lst acc) ∧ Paired (BoneV (upd H' D (.lst (acc' ++ [.ref tR])))) acc bs ∧ bs.length ≤ 2 * (k + 1) ∧ (1 ≤ k + 1 → 1 ≤ bs.length) ∧ (∀ x ∈ bs, x.ok) ∧ Chain bs := fun H' acc' bs' σ' s' hD' hp' hl' ho' hc' hσ =>
        ⟨_, _, _, _, _, _, acc' ++ [.ref tR], bs' ++ [⟨kd, n2, n3, n4⟩], hσ, (s510.trans s').mut hD, upd_same, pSnoc (pImp hp' fun _ _ z => z.but hD' But.upd) (BoneV.but hD' But.upd ⟨tR, rfl, s' _ _ hR⟩), by rw [List.length_append, List.length_singleton]; omega, fun _ => by rw [List.length_append, List.length_singleton]; omega, fun x m => by
          rcases List.mem_append.mp m with m | m
          · exact ho' x m
          · rw [List.mem_singleton.mp m]; exact hbn, hc'⟩
      have hR' : SqT K H10 tR [.str kd, .int n2, .int n3, .int n4] := .of hR
      have hal' : acc.length ≤ 100 := by omega
      walk_at "h"
      refine ⟨sz_of (by simp), fun p11 hp11 => ?_⟩
      have s11 := Same.new (o := .tup [V.str "numbers", .str "table"]) hp11
      refine go_inS (.inr (.of upd_same)) rfl rfl ?_
      refine ⟨_, rfl, ?_⟩
      refine ite2 (fun hdk => ?_) (fun hdk => ?_)
      · have hdk : dataK kd = true := hdk
        walk_at "h"
        refine ⟨sz_of (by simp), fun l12 hl12 => ?_⟩
        have s12 := s11.trans (Same.new (o := .lst []) hl12)
        refine go_neD (W := All) (W' := All) (d := .list (bs.map Bn.d)) (e := .list []) (.lst (.of (s12 _ _ hD10) trivial) (dws_of_paired (enc := Bn.d) (fun _ _ z => BoneV.dw (BoneV.same z s12)) hacc10)) (.lst (.of upd_same trivial) .nil) ((bones_shp hok).ok (by decide)) (by decide +kernel) ?_
        rw [eqv_nil]
        cases hbs : bs.getLast? with
        | none =>
          rw [List.getLast?_eq_none_iff] at hbs
          subst hbs
          walk_at "h"
          refine ⟨go_tyL (.of (s12 _ _ hD10)), ?_⟩
          walk_at "h"
          refine go_append (s12 _ _ hD10) (sz_lt (by omega)) ?_
          exact fin _ acc [] _ s12 (s12 _ _ hD10) (pImp hacc10 fun _ _ z => z.same s12) (by simp) hok (Chain.snoc hch fun l h => by cases h) rfl
        | some lb =>
          have hne : (bs.map Bn.d).isEmpty = false := by
            cases bs with
            | nil => cases hbs
            | cons _ _ => rfl
          rw [hne]
          walk_at "h"
          obtain ⟨v, hv, tl, rfl, htl⟩ := last_of hacc10 hbs
          refine go_ixL (.of (s12 _ _ hD10)) hv ?_
          walk_at "h"
          have htl' := SqT.of (K := K) (s12 _ _ htl)
          walk_at "h"
          refine ⟨lb.kind, rfl, fun H13 s13 => ?_⟩
          refine ⟨_, rfl, ?_⟩
          have s1213 := s12.trans s13
          refine ite2 (fun hgk => ?_) (fun hgk => ?_)
          · walk_at "h"
            refine ⟨go_tyL (.of (s1213 _ _ hD10)), ?_⟩
            walk_at "h"
            refine ⟨sz_of (by simp), fun tB htB => ?_⟩
            have s14 := Same.new (o := .tup [V.str "back", .int 0, .int 0, .int 0]) htB
            have s1214 := s1213.trans s14
            have hD14 := s1214 _ _ hD10
            walk_at "h"
            refine go_append hD14 (sz_lt (by omega)) ?_
            walk_at "h"
            have hb15 : BoneV (upd H13 tB (.tup [V.str "back", .int 0, .int 0, .int 0])) (.ref tB) ⟨"back", 0, 0, 0⟩ := ⟨tB, rfl, upd_same⟩
            have hpp : Paired (BoneV (upd (upd H13 tB (.tup [V.str "back", .int 0, .int 0, .int 0])) D (.lst (acc ++ [.ref tB])))) (acc ++ [.ref tB]) (bs ++ [⟨"back", 0, 0, 0⟩]) := pSnoc (pImp hacc10 fun _ _ z => (z.same s1214).but hD14 But.upd) (hb15.but hD14 But.upd)
            have hR16 : upd (upd H13 tB (.tup [V.str "back", .int 0, .int 0, .int 0])) D (.lst (acc ++ [.ref tB])) tR = some (.tup [V.str kd, .int n2, .int n3, .int n4]) := by
              rw [upd_ne (fun e => by rw [e, hD10] at hR; cases hR)]
              exact s1214 _ _ hR
            refine ⟨go_tyL (.of upd_same), ?_⟩
            walk_at "h"
            refine go_append upd_same (sz_lt (by rw [List.length_append, List.length_singleton]; omega)) ?_
            have ch1 : Chain (bs ++ [⟨"back", 0, 0, 0⟩]) := Chain.snoc hch fun _ _ _ => by decide +kernel
            refine ⟨_, _, _, _, _, _, acc ++ [.ref tB] ++ [.ref tR], bs ++ [⟨"back", 0, 0, 0⟩] ++ [⟨kd, n2, n3, n4⟩], rfl, ?_, upd_same, pSnoc (pImp hpp fun _ _ z => z.but upd_same But.upd) (BoneV.but upd_same But.upd ⟨tR, rfl, hR16⟩), ?_, ?_, ?_, ?_⟩
            · exact ((s510.trans s1214).mut hD).mut hD
            · simp only [List.length_append, List.length_singleton]; omega
            · intro _; simp only [List.length_append, List.length_singleton]; omega
            · intro x m
              rcases List.mem_append.mp m with m | m
              · rcases List.mem_append.mp m with m | m
                · exact hok x m
                · rw [List.mem_singleton.mp m]; exact ⟨by decide +kernel, ⟨by decide, by decide⟩, ⟨by decide, by decide⟩, ⟨by decide, by decide⟩⟩
              · rw [List.mem_singleton.mp m]; exact hbn
            · refine Chain.snoc ch1 fun l h1 h2 => ?_
              rw [List.getLast?_append] at h1
              have h1 := Option.some.inj h1
              subst h1
              exact absurd h2 (by decide +kernel)
          · walk_at "h"
            refine ⟨go_tyL (.of (s1213 _ _ hD10)), ?_⟩
            walk_at "h"
            refine go_append (s1213 _ _ hD10) (sz_lt (by omega)) ?_
            refine fin _ acc bs _ s1213 (s1213 _ _ hD10) (pImp hacc10 fun _ _ z => z.same s1213) (by omega) hok (Chain.snoc hch fun l h h2 => ?_) rfl
            rw [hbs] at h
            cases h
            exact absurd h2 (by simpa using hgk)
      · have hdk : dataK kd = false := (Bool.not_eq_true _).mp hdk
        walk_at "h"
        refine ⟨go_tyL (.of (s11 _ _ hD10)), ?_⟩
        walk_at "h"
        refine go_append (s11 _ _ hD10) (sz_lt (by omega)) ?_
        exact fin _ acc bs _ s11 (s11 _ _ hD10) (pImp hacc10 fun _ _ z => z.same s11) (by omega) hok (Chain.snoc hch fun l h h2 => hdk) rfl
    · rintro σ H7 ⟨a, b, c', d, e, f, acc, bs, rfl, s7, hD7, hacc, hlen, hpos, hok, hch⟩
      have hp1 : 1 ≤ bs.length := hpos (by omega)
      cases hbs : bs.getLast? with
      | none =>
        rw [List.getLast?_eq_none_iff] at hbs
        subst hbs
        exact absurd hp1 (by decide)
      | some lb =>
        obtain ⟨v, hv, tl, rfl, htl⟩ := last_of hacc hbs
        have htl' := SqT.of (K := K) htl
        walk_at "h"
        refine go_ixL (.of hD7) hv ?_
        walk_at "h"
        refine ⟨lb.kind, rfl, fun H8 s8 => ?_⟩
        have hD8 := s8 _ _ hD7
        have hacc8 : Paired (BoneV H8) acc bs := pImp hacc fun _ _ z => z.same s8
        have s08 := sA.trans (s7.trans s8)
        walk_at "h"
        refine ite2 (fun hgk => ?_) (fun hgk => ?_)
        · walk_at "h"
          refine ⟨go_tyL (.of hD8), ?_⟩
          walk_at "h"
          refine ⟨sz_of (by simp), fun l9 hl9 => ?_⟩
          have s9 := Same.new (o := .lst [V.str "stop", .str "back"]) hl9
          walk_at "h"
          refine go_ixL ((s7.trans (s8.trans s9)).seq hAS) (atI_nat (j := 2) (at_ hnx)) ?_
          walk_at "h"
          refine go_I (by decide) ?_
          obtain ⟨m2, hm2, em2⟩ : ∃ m2 : Nat, m2 < 2 ∧ nx % 2 = m2 := ⟨(nx % 2).toNat, by omega, by omega⟩
          rw [em2]
          obtain ⟨sk, hsk, hs2⟩ : ∃ sk : Str, [V.str "stop", .str "back"][m2]? = some (.str sk) ∧ (sk ∈ kindsL ∧ dataK sk = false ∧ goesK sk = false) := by
            rcases m2 with _ | _ | m2
            · exact ⟨"stop", rfl, by decide +kernel⟩
            · exact ⟨"back", rfl, by decide +kernel⟩
            · omega
          refine go_ixL (.of upd_same) (atI_nat hsk) ?_
          walk_at "h"
          refine ⟨sz_of (by simp), fun tB htB => ?_⟩
          have s10 := s9.trans (Same.new (o := .tup [V.str sk, .int 0, .int 0, .int 0]) htB)
          have hD10 := s10 _ _ hD8
          walk_at "h"
          have hal := pLen hacc8
          refine go_append hD10 (sz_lt (by omega)) ?_
          walk_at "h"
          refine q D _ (acc ++ [.ref tB]) (bs ++ [⟨sk, 0, 0, 0⟩]) hD0 ((s08.trans s10).mut hD0) upd_same ?_ ⟨?_, ?_, ?_, ?_, ?_⟩
          · exact pSnoc (pImp hacc8 fun _ _ z => (z.same s10).but hD10 But.upd) (BoneV.but hD10 But.upd ⟨tB, rfl, upd_same⟩)
          · rw [List.length_append, List.length_singleton]; omega
          · rw [List.length_append, List.length_singleton]; omega
          · intro x m
            rcases List.mem_append.mp m with m | m
            · exact hok x m
            · rw [List.mem_singleton.mp m]; exact ⟨hs2.1, (⟨by decide, by decide⟩ : Below 0 4), (⟨by decide, by decide⟩ : Below 0 4), (⟨by decide, by decide⟩ : Below 0 10000000000)⟩
          · exact Chain.snoc hch fun _ _ _ => hs2.2.1
          · intro b h1
            rw [List.getLast?_append] at h1
            have h1 := Option.some.inj h1
            subst h1
            exact hs2.2.2
        · walk_at "h"
          refine q D H8 acc bs hD0 s08 hD8 hacc8 ⟨hp1, by omega, hok, hch, fun b h1 => ?_⟩
          rw [hbs] at h1
          cases h1
          simpa using hgk
end
end Fj
set_option maxHeartbeats 4000000
/-! _law_name, _law_number, _law_gone, _law_filled -/
namespace Fj
open PySem PySem.Spec PyProof.Rows L2
open C8 (Met Mak InsC pe_mt0 pe_mk)
def sgn (i : Nat) : Str := ⟨#[small.cps.toList.getD i 0]⟩
def nameS (p k : Nat) : Str := (sgn p ++ sgn (k / 26)) ++ sgn (k % 26)
instance (z : Str) : Decidable (IsW z) := decidable_of_iff (1 ≤ z.length ∧ z.length ≤ 8 ∧ ∀ c ∈ z.cps.toList, c ∈ small.cps.toList) ⟨fun h => ⟨h.1, h.2.1, h.2.2⟩, fun h => ⟨h.lo, h.hi, h.sg⟩⟩
theorem nameS_w {p k : Nat} (hp : p < 4) (hk : k < 30) : IsW (nameS p k) := by
  have : ∀ (p : Fin 4) (k : Fin 30), IsW (nameS p.1 k.1) := by decide +kernel
  exact this ⟨p, hp⟩ ⟨k, hk⟩
theorem nameS_inj {p k p' k' : Nat} (hp : p < 4) (hk : k < 30) (hp' : p' < 4) (hk' : k' < 30) (e : nameS p k = nameS p' k') : p = p' ∧ k = k' := by
  have : ∀ (p : Fin 4) (k : Fin 30) (p' : Fin 4) (k' : Fin 30), nameS p.1 k.1 = nameS p'.1 k'.1 → p.1 = p'.1 ∧ k.1 = k'.1 := by decide +kernel
  exact this ⟨p, hp⟩ ⟨k, hk⟩ ⟨p', hp'⟩ ⟨k', hk'⟩ e
section
variable {P : Program} {w : World} {K : PySem.W.Frag} {mg : Str → Option Value} {base : Heap}
abbrev slaw_name : Stmt := top 72
abbrev Nlaw_name : List Str := ["_law_p", "_law_k", "_law_letters"]
theorem sclaw_name : FnScope Nlaw_name ["_law_p", "_law_k"] (defScope slaw_name) := ⟨rfl, rfl, rfl, by decide +kernel, rfl, by decide +kernel, by decide +kernel⟩
def spName : Sp := fun vs H Q _ => ∃ p k : Nat, vs = [.int p, .int k] ∧ p < 4 ∧ k < 30 ∧ Q (.str (nameS p k)) H
theorem sgn_at {σ : L2.St} {H : Hp} {Q : VK} {i : Nat} (h : i < 26) (q : Q (.str (sgn i)) H) : rIxS (.str "abcdefghijklmnopqrstuvwxyz") (.int i) H Q := by
  refine go_ixS (c := small.cps.toList.getD i 0) (by decide) (atI_nat ?_) q
  have : ∀ i : Fin 26, small.cps.toList[i.1]? = some (small.cps.toList.getD i.1 0) := by decide +kernel
  exact this ⟨i, h⟩
theorem ok_law_name (F : FnAt K mg "_law_name" slaw_name ["_law_p", "_law_k"]) (T : Txt K mg) : Cal P w K mg base CX0 1 "_law_name" ["_law_p", "_law_k"] spName := by
  refine cal_mk F sclaw_name (fun vs H Q E h => ?_) (fun f cdv A outer s H vs Q E hr h => ?_)
  · obtain ⟨p, k, rfl, _⟩ := h
    rfl
  · obtain ⟨p, k, rfl, hp, hk, q⟩ := h
    have nd := sclaw_name.nd
    refine ⟨_, (pss_cons (ps_set (i := 2) nd rfl (Or.inl rfl) pe_str)
      (pss_one (ps_ret (pe_op op_addStr (pe_op op_addStr (pe_ix ix_str (pv 2) (pv 0) (fun _ _ => rfl)) (pe_ix ix_str (pv 2) (pe_op op_fdiv (pv 1) pe_int) (fun _ _ => rfl))) (pe_ix ix_str (pv 2) (pe_op op_mod (pv 1) pe_int) (fun _ _ => rfl)))))), ?_⟩
    walk_at "h"
    refine sgn_at (σ := []) (by omega) ?_
    walk_at "h"
    refine go_I ⟨by decide, by decide⟩ ?_
    rw [show ((k : Int) / 26) = ((k / 26 : Nat) : Int) by omega]
    refine sgn_at (σ := []) (by omega) ?_
    refine go_addStr (by show 1 + 1 ≤ 100000; decide) ?_
    walk_at "h"
    refine go_I (by decide) ?_
    rw [show ((k : Int) % 26) = ((k % 26 : Nat) : Int) by omega]
    refine sgn_at (σ := []) (by omega) ?_
    refine go_addStr ?_ q
    have e : (sgn p ++ sgn (k / 26)).length = 2 := rfl
    rw [e]
    show 2 + 1 ≤ 100000
    decide
abbrev slaw_number : Stmt := top 73
abbrev Nlaw_number : List Str := ["_law_more"]
theorem sclaw_number : FnScope Nlaw_number ["_law_more"] (defScope slaw_number) := ⟨rfl, rfl, rfl, by decide +kernel, rfl, by decide +kernel, by decide +kernel⟩
def spNumber : Sp := fun vs H Q _ => ∃ m : Int, vs = [.int m] ∧ ∀ z H', Same H H' → Tr.Pl z → Q (.int z) H'
theorem ok_law_number (F : FnAt K mg "_law_number" slaw_number ["_law_more"]) (T : Txt K mg) : Cal P w K mg base CX0 1 "_law_number" ["_law_more"] spNumber := by
  refine cal_mk F sclaw_number (fun vs H Q E h => ?_) (fun f cdv A outer s H vs Q E hr h => ?_)
  · obtain ⟨m, rfl, _⟩ := h
    rfl
  · obtain ⟨m, rfl, q⟩ := h
    have nd := sclaw_number.nd
    refine ⟨_, (pss_one (ps_ret (pe_ix (ixlK (K := K) rfl) (pe_lst (pa_cons (pe_op op_sub (pe_op op_mod (pv 0) pe_int) pe_int) (pa_cons (pe_op op_sub (pe_op op_mod (pv 0) pe_int) pe_int) (pa_cons (pe_op op_sub (pe_op op_mod (pv 0) pe_int) pe_int) pa_nil)))) (pe_op op_mod (pe_op op_fdiv (pv 0) pe_int) pe_int) (fun _ _ => rfl)))), ?_⟩
    have b1 := mod_below (a := m) (s := 7) (by decide)
    have b2 := mod_below (a := m) (s := 41) (by decide)
    have b3 := mod_below (a := m) (s := 4294967296) (by decide)
    unfold Below at b1 b2 b3
    walk_at "h"
    refine go_I (by decide) ?_
    walk_at "h"
    refine go_I (by decide) ?_
    walk_at "h"
    refine go_I (by decide) ?_
    walk_at "h"
    refine ⟨sz_of (by simp), fun l hl => ?_⟩
    walk_at "h"
    refine go_I ⟨by decide, by decide⟩ ?_
    walk_at "h"
    refine go_I (by decide) ?_
    obtain ⟨m2, hm2, em2⟩ : ∃ m2 : Nat, m2 < 3 ∧ m / 9 % 3 = m2 := ⟨(m / 9 % 3).toNat, by omega, by omega⟩
    rw [em2]
    have s1 := Same.new (o := .lst [V.int (m % 7 - 2), .int (m % 41 - 20), .int (m % 4294967296 - 2147483648)]) hl
    obtain ⟨z, hz, hp⟩ : ∃ z, [V.int (m % 7 - 2), .int (m % 41 - 20), .int (m % 4294967296 - 2147483648)][m2]? = some (.int z) ∧ Tr.Pl z := by
      unfold Tr.Pl
      rcases m2 with _ | _ | _ | m2
      · exact ⟨_, rfl, by omega, by omega⟩
      · exact ⟨_, rfl, by omega, by omega⟩
      · exact ⟨_, rfl, by omega, by omega⟩
      · omega
    refine go_ixL (.of upd_same) (atI_nat hz) ?_
    exact q z _ s1 hp
theorem go_pick {H : Hp} {Q : VK} {l : Addr} {zs : List Str} {m : Int} (h : SqL K H l (zs.map V.str)) (hne : 1 ≤ zs.length) (q : ∀ z ∈ zs, Q (.str z) H) : rIxL K (.ref l) (.int (m % ((zs.map V.str).length : Int))) H Q := by
  rw [List.length_map]
  obtain ⟨n, hn, en⟩ : ∃ n : Nat, n < zs.length ∧ m % (zs.length : Int) = n := ⟨(m % (zs.length : Int)).toNat, by
    have h1 := Int.emod_nonneg m (show (zs.length : Int) ≠ 0 by omega)
    have h2 := Int.emod_lt_of_pos m (show (0 : Int) < zs.length by omega)
    omega, by
    have h1 := Int.emod_nonneg m (show (zs.length : Int) ≠ 0 by omega)
    omega⟩
  rw [en]
  exact go_ixL h (atI_nat (v := .str zs[n]) (by rw [List.getElem?_map, List.getElem?_eq_getElem hn]; rfl)) (q _ (List.getElem_mem hn))
abbrev slaw_gone : Stmt := top 75
abbrev Nlaw_gone : List Str := ["_law_kind", "_law_b", "_law_name_here"]
theorem sclaw_gone : FnScope Nlaw_gone ["_law_kind", "_law_b", "_law_name_here"] (defScope slaw_gone) := ⟨rfl, rfl, rfl, by decide +kernel, rfl, by decide +kernel, by decide +kernel⟩
end
section
variable {K : PySem.W.Frag} {g : TG} {te : TE} {vs : List Nat} {σ : L2.St} {H1 : Hp} {D : Addr} {Qd : Hp → Prop}
theorem lc_genR {n : Nat} (R : V → Prop) (hz : n ≤ 100000) (hD : H1 D = none)
    (hs : ∀ (i : Nat) H, i < n → Same H1 H → ∀ (NY : VK), (∀ y H4, Same H H4 → R y → NY y H4) → g (.int (0 + (i : Int))) (wipe σ vs) H fun σ2 H2 => wipe σ2 vs = wipe σ vs ∧ te σ2 H2 NY)
    (hd : ∀ H acc, Same H1 H → H D = some (.lst acc) → acc.length = n → (∀ y ∈ acc, R y) → Qd H) :
    ∃ W : Nat → Nat → Hp → Prop, (∃ m, W 0 m (upd H1 D (.lst []))) ∧ ∀ i m H, W i m H →
      ((Itr 0 n).stop i H ∧ Qd H) ∨ ((Itr 0 n).go i H ∧ ∃ Nx : Hp → Prop, (∀ H', Nx H' → ∃ m', m' < m ∧ W (i + 1) m' H') ∧ ∀ x H', (Itr 0 n).yld i H x H' → g x (wipe σ vs) H' fun σ2 H2 => wipe σ2 vs = wipe σ vs ∧ tYes σ2 H2 fun b H3 =>
        if b = true then te σ2 H3 fun y H4 => ∃ acc, H4 D = some (.lst acc) ∧ acc.length < sizeLine ∧ Nx (upd H4 D (.lst (acc ++ [y]))) else Nx H3) := by
  refine lc_gen (Itr 0 n) (List.range n) (fun _ => true) (fun y _ _ => R y) (fun _ _ _ _ _ _ _ r => r) (by rw [List.length_range]; exact hz) hD (fun i H h s => by rw [List.length_range] at h; exact h) (fun H s => by rw [List.length_range]; exact Nat.le_refl n) ?_ ?_
  · intro i x p H H' hp s y NY NN ny nn
    obtain ⟨rfl, rfl⟩ := y
    have hi : i < n := by
      have := (List.getElem?_eq_some_iff.mp hp).1
      rw [List.length_range] at this
      exact this
    exact hs i _ hi s NY fun y H4 s4 r => ny y H4 rfl s4 r
  · intro H acc s ha hp
    rw [List.filter_eq_self.mpr (fun _ _ => rfl)] at hp
    refine hd H acc s ha (by rw [pLen hp, List.length_range]) fun y m => ?_
    obtain ⟨i, hi⟩ := List.getElem?_of_mem m
    obtain ⟨_, _, r⟩ := pAt hp hi
    exact r
theorem all_ints {R : Int → Prop} : ∀ {acc : List V}, (∀ y ∈ acc, ∃ n, y = V.int n ∧ R n) → ∃ ns : List Int, acc = ns.map V.int ∧ ∀ n ∈ ns, R n
  | [], _ => ⟨[], rfl, fun _ m => (nomatch m)⟩
  | y :: acc, h => by
    obtain ⟨n, rfl, r⟩ := h y List.mem_cons_self
    obtain ⟨ns, rfl, rs⟩ := all_ints (acc := acc) fun y m => h y (List.mem_cons_of_mem _ m)
    refine ⟨n :: ns, rfl, fun m hm => ?_⟩
    rcases List.mem_cons.mp hm with rfl | hm
    · exact r
    · exact rs m hm
theorem all_strs {R : Str → Prop} : ∀ {acc : List V}, (∀ y ∈ acc, ∃ n, y = V.str n ∧ R n) → ∃ ns : List Str, acc = ns.map V.str ∧ ∀ n ∈ ns, R n
  | [], _ => ⟨[], rfl, fun _ m => (nomatch m)⟩
  | y :: acc, h => by
    obtain ⟨n, rfl, r⟩ := h y List.mem_cons_self
    obtain ⟨ns, rfl, rs⟩ := all_strs (acc := acc) fun y m => h y (List.mem_cons_of_mem _ m)
    refine ⟨n :: ns, rfl, fun m hm => ?_⟩
    rcases List.mem_cons.mp hm with rfl | hm
    · exact r
    · exact rs m hm
end
end Fj
set_option maxHeartbeats 4000000
/-! _law_gone, _law_filled -/
namespace Fj
open PySem PySem.Spec PyProof.Rows L2
open C8 (Met Mak InsC pe_mt0 pe_mk)
section
variable {P : Program} {w : World} {K : PySem.W.Frag} {mg : Str → Option Value} {base : Heap}
/-- the row that comes of a bone -/
structure Fits (k : Str) (r : Tr) : Prop where
  ok : r.ok
  nm : r.nm = true
  g : r.goes = goesK k
  d : r.isData = dataK k
def goneL : List Str := ["jumpif", "jump", "call", "back", "stop"]
def spGone (K : PySem.W.Frag) : Sp := fun vs H Q _ => ∃ (k : Str) (b : Int) (z : Str), vs = [.str k, .int b, .str z] ∧ k ∈ goneL ∧ Below b 4 ∧ IsW z ∧ ∀ v' H' r, Same H H' → RowV (fun a => H a = none) K H' v' r → Fits k r → Q v' H'
theorem ok_law_gone (F : FnAt K mg "_law_gone" slaw_gone ["_law_kind", "_law_b", "_law_name_here"]) (T : Txt K mg) : Cal P w K mg base CX0 1 "_law_gone" ["_law_kind", "_law_b", "_law_name_here"] (spGone K) := by
  refine cal_mk F sclaw_gone (fun vs H Q E h => ?_) (fun f cdv A outer s H vs Q E hr h => ?_)
  · obtain ⟨k, b, z, rfl, _⟩ := h
    rfl
  · obtain ⟨k, b, z, rfl, hk, hb, hz, q⟩ := h
    have nd := sclaw_gone.nd
    refine ⟨_, (pss_cons (ps_if (pt_cmpR op_eq (pv 0) pe_str (nomark _)) (pss_one (ps_ret (pe_tup (pa_cons (pv 0) (pa_cons (pv 1) (pa_cons (pv 2) pa_nil)))))) pss_nil)
      (pss_cons (ps_if (pt_cmpR (inK (K := K) rfl) (pv 0) (pe_tup (pa_cons pe_str (pa_cons pe_str pa_nil))) (by rfl)) (pss_one (ps_ret (pe_tup (pa_cons (pv 0) (pa_cons (pv 2) pa_nil))))) pss_nil)
      (pss_one (ps_ret (pe_tup (pa_cons (pv 0) pa_nil)))))), ?_⟩
    unfold goneL at hk
    simp only [List.mem_cons, List.not_mem_nil, or_false] at hk
    rcases hk with rfl | rfl | rfl | rfl | rfl
    · walk_at "h"
      refine ⟨sz_of (by simp), fun tp htp => ?_⟩
      exact q (.ref tp) _ (.jumpif b z) (Same.new htp) ⟨tp, rfl, .of upd_same⟩ ⟨⟨hb, hz⟩, rfl, by rfl, by rfl⟩
    · walk_at "h"
      refine ⟨sz_of (by simp), fun p hp => ?_⟩
      have s1 := Same.new (o := .tup [V.str "jump", .str "call"]) hp
      refine go_inS (.inr (.of upd_same)) rfl rfl ?_
      walk_at "h"
      refine ⟨sz_of (by simp), fun tp htp => ?_⟩
      exact q (.ref tp) _ (.jump z) (s1.trans (Same.new htp)) ⟨tp, rfl, .of upd_same⟩ ⟨hz, rfl, by rfl, by rfl⟩
    · walk_at "h"
      refine ⟨sz_of (by simp), fun p hp => ?_⟩
      have s1 := Same.new (o := .tup [V.str "jump", .str "call"]) hp
      refine go_inS (.inr (.of upd_same)) rfl rfl ?_
      walk_at "h"
      refine ⟨sz_of (by simp), fun tp htp => ?_⟩
      exact q (.ref tp) _ (.call z) (s1.trans (Same.new htp)) ⟨tp, rfl, .of upd_same⟩ ⟨hz, rfl, by rfl, by rfl⟩
    · walk_at "h"
      refine ⟨sz_of (by simp), fun p hp => ?_⟩
      have s1 := Same.new (o := .tup [V.str "jump", .str "call"]) hp
      refine go_inS (.inr (.of upd_same)) rfl rfl ?_
      walk_at "h"
      refine ⟨sz_of (by simp), fun tp htp => ?_⟩
      exact q (.ref tp) _ .back (s1.trans (Same.new htp)) ⟨tp, rfl, .of upd_same⟩ ⟨trivial, rfl, by rfl, by rfl⟩
    · walk_at "h"
      refine ⟨sz_of (by simp), fun p hp => ?_⟩
      have s1 := Same.new (o := .tup [V.str "jump", .str "call"]) hp
      refine go_inS (.inr (.of upd_same)) rfl rfl ?_
      walk_at "h"
      refine ⟨sz_of (by simp), fun tp htp => ?_⟩
      exact q (.ref tp) _ .stop (s1.trans (Same.new htp)) ⟨tp, rfl, .of upd_same⟩ ⟨trivial, rfl, by rfl, by rfl⟩
theorem dws_strs {W : Addr → Prop} {H : Hp} : ∀ {zs : List Str}, DWs W K H (zs.map V.str) (zs.map PyData.str)
  | [] => .nil
  | z :: zs => .cons (.str z) dws_strs
theorem strs_shp {zs : List Str} (h : ∀ z ∈ zs, IsW z) : Shp 1 (.list (zs.map PyData.str)) := by
  apply Shp.lst
  intro d m
  obtain ⟨z, hz, rfl⟩ := List.mem_map.mp m
  exact (h z hz).shp
/-- zs == [] -/
theorem eq_empty {H : Hp} {Q : VK} {l : Addr} {zs : List Str} (h : H l = some (.lst (zs.map V.str))) (hw : ∀ z ∈ zs, IsW z) (q : ∀ p, H p = none → Q (.bl zs.isEmpty) (upd H p (.lst []))) :
    ([] : List V).length ≤ sizeLine ∧ ∀ p, H p = none → rEqD K (.ref l) (.ref p) (upd H p (.lst [])) Q := by
  refine ⟨sz_of (by simp), fun p hp => ?_⟩
  have s := Same.new (o := .lst []) hp
  refine go_eqD (W := All) (W' := All) (d := .list (zs.map PyData.str)) (e := .list []) (.lst (.of (s _ _ h) trivial) dws_strs) (.lst (.of upd_same trivial) .nil) ((strs_shp hw).ok (by decide)) (by decide +kernel) ?_
  rw [eqv_nil]
  have e : (zs.map PyData.str).isEmpty = zs.isEmpty := by cases zs <;> rfl
  rw [e]
  exact q p hp
def kinds15 : List Str := ["set", "add", "take", "say", "ask", "jump", "jumpif", "call", "back", "stop", "load", "jumpby", "alike", "numbers", "table"]
theorem kinds_15 : ∀ k ∈ kindsL, k ∈ kinds15 := by decide +kernel
abbrev slaw_filled : Stmt := top 74
abbrev Nlaw_filled : List Str := ["_law_row", "_law_code", "_law_numbers", "_law_tables", "_law_kind", "_law_b", "_law_c", "_law_more", "_law_name_here", "_law_some", "_law_j"]
theorem sclaw_filled : FnScope Nlaw_filled ["_law_row", "_law_code", "_law_numbers", "_law_tables"] (defScope slaw_filled) := ⟨rfl, rfl, rfl, by decide +kernel, rfl, by decide +kernel, by decide +kernel⟩
def spFilled (K : PySem.W.Frag) : Sp := fun vs H Q _ => ∃ (v : V) (x : Bn) (lc ln lt : Addr) (zc zn zt : List Str), vs = [v, .ref lc, .ref ln, .ref lt] ∧ BoneV H v x ∧ x.ok ∧ H lc = some (.lst (zc.map V.str)) ∧ H ln = some (.lst (zn.map V.str)) ∧ H lt = some (.lst (zt.map V.str)) ∧
  1 ≤ zc.length ∧ zc.length ≤ 1000 ∧ zn.length ≤ 1000 ∧ zt.length ≤ 1000 ∧ (∀ z ∈ zc, IsW z) ∧ (∀ z ∈ zn, IsW z) ∧ (∀ z ∈ zt, IsW z) ∧ ∀ v' H' r, Same H H' → RowV (fun a => H a = none) K H' v' r → Fits x.kind r → Q v' H'
set_option maxHeartbeats 40000000 in
theorem ok_law_filled (F : FnAt K mg "_law_filled" slaw_filled ["_law_row", "_law_code", "_law_numbers", "_law_tables"]) (T : Txt K mg) (G_law_number : Cal P w K mg base CX0 1 "_law_number" ["_law_more"] spNumber) (G_law_gone : Cal P w K mg base CX0 1 "_law_gone" ["_law_kind", "_law_b", "_law_name_here"] (spGone K)) : Cal P w K mg base CX0 2 "_law_filled" ["_law_row", "_law_code", "_law_numbers", "_law_tables"] (spFilled K) := by
  refine cal_mk F sclaw_filled (fun vs H Q E h => ?_) (fun f cdv A outer s H vs Q E hr h => ?_)
  · obtain ⟨v, x, lc, ln, lt, zc, zn, zt, rfl, _⟩ := h
    rfl
  · obtain ⟨v, x, lc, ln, lt, zc, zn, zt, rfl, ⟨t, rfl, ht⟩, hx, hc, hn, htb, c1, c2, c3, c4, wc, wn, wt, q⟩ := h
    have nd := sclaw_filled.nd
    refine ⟨_, (pss_cons (ps_asg (pv 0) (pg_tup rfl (pgs_cons (pg_name (i := 4) nd rfl (Or.inl rfl)) (pgs_cons (pg_name (i := 5) nd rfl (Or.inl rfl)) (pgs_cons (pg_name (i := 6) nd rfl (Or.inl rfl)) (pgs_cons (pg_name (i := 7) nd rfl (Or.inr rfl)) pgs_nil))))))
      (pss_cons (ps_set (i := 8) nd rfl (Or.inl rfl) (pe_ix (ixlK (K := K) rfl) (pv 1) (pe_op op_mod (pv 7) (pe_callB (lenK (K := K) rfl) (by rfl) T.n_len (by decide +kernel) (pa_cons (pv 1) pa_nil))) (fun _ _ => rfl)))
      (pss_cons (ps_if (PW.pt (pw_or (PW.pt (pw_and (pt_cmpR op_eq (pv 4) pe_str (nomark _)) (pw_and1 (pt_cmpR (eqdK (K := K) rfl hr.units) (pv 2) (pe_lst pa_nil) (nomark _))))) (pw_or1 (PW.pt (pw_and (pt_cmpR op_eq (pv 4) pe_str (nomark _)) (pw_and1 (pt_cmpR op_eq (pe_op op_mod (pv 7) pe_int) pe_int (nomark _)))))))) (pss_one (ps_ret (pe_tup (pa_cons pe_str (pa_cons (pv 5) pa_nil))))) pss_nil)
      (pss_cons (ps_if (PW.pt (pw_and (pt_cmpR op_eq (pv 4) pe_str (nomark _)) (pw_and1 (pt_cmpR (eqdK (K := K) rfl hr.units) (pv 3) (pe_lst pa_nil) (nomark _))))) (pss_one (ps_ret (pe_tup (pa_cons pe_str pa_nil)))) pss_nil)
      (pss_cons (ps_if (pt_cmpR op_eq (pv 4) pe_str (nomark _)) (pss_one (ps_ret (pe_tup (pa_cons (pv 4) (pa_cons (pv 5) (pa_cons (pv 6) (pa_cons (pe_ix (ixlK (K := K) rfl) (pv 2) (pe_op op_mod (pv 7) (pe_callB (lenK (K := K) rfl) (by rfl) T.n_len (by decide +kernel) (pa_cons (pv 2) pa_nil))) (fun _ _ => rfl)) pa_nil))))))) pss_nil)
      (pss_cons (ps_if (pt_cmpR op_eq (pv 4) pe_str (nomark _)) (pss_one (ps_ret (pe_tup (pa_cons (pv 4) (pa_cons (pv 5) (pa_cons (pe_ix (ixlK (K := K) rfl) (pv 3) (pe_op op_mod (pv 7) (pe_callB (lenK (K := K) rfl) (by rfl) T.n_len (by decide +kernel) (pa_cons (pv 3) pa_nil))) (fun _ _ => rfl)) pa_nil)))))) pss_nil)
      (pss_cons (ps_if (pt_cmpR op_eq (pv 4) pe_str (nomark _)) (pss_cons (ps_set (i := 9) nd rfl (Or.inl rfl) (pe_op op_cat (pe_op op_cat (pv 1) (pv 2)) (pv 3)))
      (pss_one (ps_ret (pe_tup (pa_cons (pv 4) (pa_cons (pv 5) (pa_cons (pe_ix (ixlK (K := K) rfl) (pv 9) (pe_op op_mod (pv 7) (pe_callB (lenK (K := K) rfl) (by rfl) T.n_len (by decide +kernel) (pa_cons (pv 9) pa_nil))) (fun _ _ => rfl)) (pa_cons (pe_ix (ixlK (K := K) rfl) (pv 9) (pe_op op_mod (pe_op op_fdiv (pv 7) pe_int) (pe_callB (lenK (K := K) rfl) (by rfl) T.n_len (by decide +kernel) (pa_cons (pv 9) pa_nil))) (fun _ _ => rfl)) pa_nil)))))))) pss_nil)
      (pss_cons (ps_if (pt_cmpR op_eq (pv 4) pe_str (nomark _)) (pss_one (ps_ret (pe_tup (pa_cons (pv 4) (pa_cons (pe_lc (own := [("_law_j", 10)]) (g := gName 10) (tt := tYes) (by rfl) nd (pi_range1 (by rfl) T.n_range (pa_cons (pe_op op_add pe_int (pe_op op_mod (pv 7) pe_int)) pa_nil)) (blkOk_by (N := Nlaw_filled) (sc := (defScope slaw_filled)) (by decide +kernel)) (fun _ _ _ _ _ => (pg_name (i := 10) nd rfl (Or.inl rfl))) (fun _ _ _ _ _ => pts_nil) (fun _ _ _ _ _ => (pe_cal G_law_number hr (by decide) rfl pass0 (pa_cons (pe_op op_add (pe_op op_fdiv (pv 7) pe_int) (pe_op op_mul pe_int (pv 10))) pa_nil)))) pa_nil))))) pss_nil)
      (pss_cons (ps_if (pt_cmpR op_eq (pv 4) pe_str (nomark _)) (pss_one (ps_ret (pe_tup (pa_cons (pv 4) (pa_cons (pe_lc (own := [("_law_j", 10)]) (g := gName 10) (tt := tYes) (by rfl) nd (pi_range1 (by rfl) T.n_range (pa_cons (pe_op op_add pe_int (pe_op op_mod (pv 7) pe_int)) pa_nil)) (blkOk_by (N := Nlaw_filled) (sc := (defScope slaw_filled)) (by decide +kernel)) (fun _ _ _ _ _ => (pg_name (i := 10) nd rfl (Or.inl rfl))) (fun _ _ _ _ _ => pts_nil) (fun _ _ _ _ _ => (pe_ix (ixlK (K := K) rfl) (pv 1) (pe_op op_mod (pe_op op_add (pe_op op_fdiv (pv 7) pe_int) (pe_op op_mul pe_int (pv 10))) (pe_callB (lenK (K := K) rfl) (by rfl) T.n_len (by decide +kernel) (pa_cons (pv 1) pa_nil))) (fun _ _ => rfl)))) pa_nil))))) pss_nil)
      (pss_cons (ps_if (pt_cmpR op_eq (pv 4) pe_str (nomark _)) (pss_one (ps_ret (pe_tup (pa_cons (pv 4) (pa_cons (pv 5) (pa_cons (pe_cal G_law_number hr (by decide) rfl pass0 (pa_cons (pv 7) pa_nil)) pa_nil)))))) pss_nil)
      (pss_cons (ps_if (pt_cmpR (inK (K := K) rfl) (pv 4) (pe_tup (pa_cons pe_str (pa_cons pe_str pa_nil))) (by rfl)) (pss_one (ps_ret (pe_tup (pa_cons (pv 4) (pa_cons (pv 5) (pa_cons (pv 6) pa_nil)))))) pss_nil)
      (pss_cons (ps_if (pt_cmpR (inK (K := K) rfl) (pv 4) (pe_tup (pa_cons pe_str (pa_cons pe_str pa_nil))) (by rfl)) (pss_one (ps_ret (pe_tup (pa_cons (pv 4) (pa_cons (pv 5) pa_nil))))) pss_nil)
      (pss_one (ps_ret (pe_cal G_law_gone hr (by decide) rfl pass0 (pa_cons (pv 4) (pa_cons (pv 5) (pa_cons (pv 8) pa_nil)))))))))))))))))), ?_⟩
    obtain ⟨kd, b, c, m⟩ := x
    obtain ⟨hk, hb, hcc, hm⟩ := hx
    dsimp only at ht hk hb hcc hm q
    have hk := kinds_15 _ hk
    have ht' : SqT K H t [.str kd, .int b, .int c, .int m] := .of ht
    have hcS : SqL K H lc (zc.map V.str) := .of hc
    have hnS : SqL K H ln (zn.map V.str) := .of hn
    have htS : SqL K H lt (zt.map V.str) := .of htb
    have lm : ∀ zs : List Str, (zs.map V.str).length = zs.length := fun zs => List.length_map ..
    walk_at "h"
    refine go_I (by rw [lm]; omega) ?_
    refine go_pick hcS c1 fun z0 hz0 => ?_
    have wz0 := wc z0 hz0
    walk_at "h"
    unfold kinds15 at hk
    simp only [List.mem_cons, List.not_mem_nil, or_false] at hk
    rcases hk with rfl | rfl | rfl | rfl | rfl | rfl | rfl | rfl | rfl | rfl | rfl | rfl | rfl | rfl | rfl
    · -- set
      walk_at "h"
      refine ⟨m, rfl, fun z H1 s1 hz => ?_⟩
      walk_at "h"
      refine ⟨sz_of (by simp), fun tp htp => ?_⟩
      exact q (.ref tp) _ (.set b z) (s1.trans (Same.new htp)) ⟨tp, rfl, .of upd_same⟩ ⟨⟨hb, hz⟩, rfl, by rfl, by rfl⟩
    · -- add
      walk_at "h"
      refine ⟨sz_of (by simp), fun p hp => ?_⟩
      have s1 := Same.new (o := .tup [V.str "add", .str "take"]) hp
      refine go_inS (.inr (.of upd_same)) rfl rfl ?_
      walk_at "h"
      refine ⟨sz_of (by simp), fun tp htp => ?_⟩
      exact q (.ref tp) _ (.add b c) (s1.trans (Same.new htp)) ⟨tp, rfl, .of upd_same⟩ ⟨⟨hb, hcc⟩, rfl, by rfl, by rfl⟩
    · -- take
      walk_at "h"
      refine ⟨sz_of (by simp), fun p hp => ?_⟩
      have s1 := Same.new (o := .tup [V.str "add", .str "take"]) hp
      refine go_inS (.inr (.of upd_same)) rfl rfl ?_
      walk_at "h"
      refine ⟨sz_of (by simp), fun tp htp => ?_⟩
      exact q (.ref tp) _ (.take b c) (s1.trans (Same.new htp)) ⟨tp, rfl, .of upd_same⟩ ⟨⟨hb, hcc⟩, rfl, by rfl, by rfl⟩
    · -- say
      walk_at "h"
      refine ⟨sz_of (by simp), fun p hp => ?_⟩
      have s1 := Same.new (o := .tup [V.str "add", .str "take"]) hp
      refine go_inS (.inr (.of upd_same)) rfl rfl ?_
      walk_at "h"
      refine ⟨sz_of (by simp), fun p2 hp2 => ?_⟩
      have s2 := s1.trans (Same.new (o := .tup [V.str "say", .str "ask"]) hp2)
      refine go_inS (.inr (.of upd_same)) rfl rfl ?_
      walk_at "h"
      refine ⟨sz_of (by simp), fun tp htp => ?_⟩
      exact q (.ref tp) _ (.say b) (s2.trans (Same.new htp)) ⟨tp, rfl, .of upd_same⟩ ⟨hb, rfl, by rfl, by rfl⟩
    · -- ask
      walk_at "h"
      refine ⟨sz_of (by simp), fun p hp => ?_⟩
      have s1 := Same.new (o := .tup [V.str "add", .str "take"]) hp
      refine go_inS (.inr (.of upd_same)) rfl rfl ?_
      walk_at "h"
      refine ⟨sz_of (by simp), fun p2 hp2 => ?_⟩
      have s2 := s1.trans (Same.new (o := .tup [V.str "say", .str "ask"]) hp2)
      refine go_inS (.inr (.of upd_same)) rfl rfl ?_
      walk_at "h"
      refine ⟨sz_of (by simp), fun tp htp => ?_⟩
      exact q (.ref tp) _ (.ask b) (s2.trans (Same.new htp)) ⟨tp, rfl, .of upd_same⟩ ⟨hb, rfl, by rfl, by rfl⟩
    iterate 5
      · -- jump, jumpif, call, back, stop
        walk_at "h"
        refine ⟨sz_of (by simp), fun p hp => ?_⟩
        have s1 := Same.new (o := .tup [V.str "add", .str "take"]) hp
        refine go_inS (.inr (.of upd_same)) rfl rfl ?_
        walk_at "h"
        refine ⟨sz_of (by simp), fun p2 hp2 => ?_⟩
        have s2 := s1.trans (Same.new (o := .tup [V.str "say", .str "ask"]) hp2)
        refine go_inS (.inr (.of upd_same)) rfl rfl ?_
        walk_at "h"
        exact ⟨_, b, z0, rfl, by decide +kernel, hb, wz0, fun v' H' r s' hv' hf => q v' H' r (s2.trans s') (hv'.keep (.same (Same.refl _) fun _ z => same_none s2 z)) hf⟩
    · -- load
      walk_at "h"
      refine eq_empty hn wn fun p hp => ?_
      have s1 := Same.new (o := .lst []) hp
      cases zn with
      | nil =>
        walk_at "h"
        refine ⟨sz_of (by simp), fun tp htp => ?_⟩
        exact q (.ref tp) _ (.say b) (s1.trans (Same.new htp)) ⟨tp, rfl, .of upd_same⟩ ⟨hb, rfl, by rfl, by rfl⟩
      | cons z1 zs1 =>
        have hnS1 := s1.seq hnS
        walk_at "h"
        refine go_I (by rw [lm]; simp) ?_
        refine go_pick hnS1 (by simp) fun z2 hz2 => ?_
        walk_at "h"
        refine ⟨sz_of (by simp), fun tp htp => ?_⟩
        exact q (.ref tp) _ (.load b c z2) (s1.trans (Same.new htp)) ⟨tp, rfl, .of upd_same⟩ ⟨⟨hb, hcc, wn z2 hz2⟩, rfl, by rfl, by rfl⟩
    · -- jumpby
      walk_at "h"
      refine eq_empty htb wt fun p hp => ?_
      have s1 := Same.new (o := .lst []) hp
      cases zt with
      | nil =>
        walk_at "h"
        refine ⟨sz_of (by simp), fun tp htp => ?_⟩
        exact q (.ref tp) _ .back (s1.trans (Same.new htp)) ⟨tp, rfl, .of upd_same⟩ ⟨trivial, rfl, by rfl, by rfl⟩
      | cons z1 zs1 =>
        have htS1 := s1.seq htS
        walk_at "h"
        refine go_I (by rw [lm]; simp) ?_
        refine go_pick htS1 (by simp) fun z2 hz2 => ?_
        walk_at "h"
        refine ⟨sz_of (by simp), fun tp htp => ?_⟩
        exact q (.ref tp) _ (.jumpby b z2) (s1.trans (Same.new htp)) ⟨tp, rfl, .of upd_same⟩ ⟨⟨hb, wt z2 hz2⟩, rfl, by rfl, by rfl⟩
    · -- alike
      walk_at "h"
      refine go_I (by decide) ?_
      walk_at "h"
      refine ite2 (fun h5 => ?_) (fun h5 => ?_)
      · walk_at "h"
        refine ⟨sz_of (by simp), fun tp htp => ?_⟩
        exact q (.ref tp) _ (.say b) (Same.new htp) ⟨tp, rfl, .of upd_same⟩ ⟨hb, rfl, by rfl, by rfl⟩
      · walk_at "h"
        refine go_cat hc hn (sz_of (by rw [lm, lm]; omega)) fun p1 hp1 => ?_
        have s1 := Same.new (o := .lst (zc.map V.str ++ zn.map V.str)) hp1
        walk_at "h"
        refine go_cat upd_same (s1 _ _ htb) (sz_of (by rw [List.length_append, lm, lm, lm]; omega)) fun p2 hp2 => ?_
        have s2 := s1.trans (Same.new (o := .lst (zc.map V.str ++ zn.map V.str ++ zt.map V.str)) hp2)
        have hS : SqL K (upd (upd H p1 (.lst (zc.map V.str ++ zn.map V.str))) p2 (.lst (zc.map V.str ++ zn.map V.str ++ zt.map V.str))) p2 ((zc ++ zn ++ zt).map V.str) := .of (by rw [List.map_append, List.map_append]; exact upd_same)
        have wS : ∀ z ∈ zc ++ zn ++ zt, IsW z := fun z m => by
          rcases List.mem_append.mp m with m | m
          · rcases List.mem_append.mp m with m | m
            · exact wc z m
            · exact wn z m
          · exact wt z m
        have lS : 1 ≤ (zc ++ zn ++ zt).length := by rw [List.length_append, List.length_append]; omega
        walk_at "h"
        refine go_I (by rw [lm]; omega) ?_
        refine go_pick hS lS fun z2 hz2 => ?_
        walk_at "h"
        refine go_I ⟨by decide, by decide⟩ ?_
        walk_at "h"
        refine go_I (by rw [lm]; omega) ?_
        refine go_pick hS lS fun z3 hz3 => ?_
        walk_at "h"
        refine ⟨sz_of (by simp), fun tp htp => ?_⟩
        exact q (.ref tp) _ (.alike b z2 z3) (s2.trans (Same.new htp)) ⟨tp, rfl, .of upd_same⟩ ⟨⟨hb, wS z2 hz2, wS z3 hz3⟩, rfl, by rfl, by rfl⟩
    · -- numbers
      walk_at "h"
      refine go_I (by decide) ?_
      have b4 := mod_below (a := m) (s := 4) (by decide)
      unfold Below at b4
      walk_at "h"
      refine ⟨_, rfl, by omega, by omega, ?_⟩
      intro D hD
      refine lc_genR (fun y => ∃ n, y = V.int n ∧ Tr.Pl n) (by omega) hD ?_ ?_
      · intro i H1 hi s1 NY ny
        walk_at "h"
        refine ⟨rfl, ?_⟩
        walk_at "h"
        refine go_I ⟨by decide, by decide⟩ ?_
        walk_at "h"
        refine go_I (.inl (by decide)) ?_
        walk_at "h"
        exact ⟨_, rfl, fun z H2 s2 hz => ny _ _ s2 ⟨z, rfl, hz⟩⟩
      · intro H1 acc s1 hacc hal hall
        obtain ⟨ns, rfl, hns⟩ := all_ints hall
        rw [List.length_map] at hal
        walk_at "h"
        refine ⟨sz_of (by simp), fun tp htp => ?_⟩
        have s2 := Same.new (o := .tup [V.str "numbers", .ref D]) htp
        exact q (.ref tp) _ (.numbers ns) (s1.trans s2) ⟨tp, rfl, D, .of upd_same, s2 _ _ hacc, hD⟩ ⟨⟨by omega, by omega, hns⟩, rfl, by rfl, by rfl⟩
    · -- table
      walk_at "h"
      refine go_I (by decide) ?_
      have b4 := mod_below (a := m) (s := 4) (by decide)
      unfold Below at b4
      walk_at "h"
      refine ⟨_, rfl, by omega, by omega, ?_⟩
      intro D hD
      refine lc_genR (fun y => ∃ n, y = V.str n ∧ IsW n) (by omega) hD ?_ ?_
      · intro i H1 hi s1 NY ny
        have hcS1 := s1.seq hcS
        walk_at "h"
        refine ⟨rfl, ?_⟩
        walk_at "h"
        refine go_I ⟨by decide, by decide⟩ ?_
        walk_at "h"
        refine go_I (.inl (by decide)) ?_
        walk_at "h"
        refine go_I (by rw [lm]; omega) ?_
        refine go_pick hcS1 c1 fun z2 hz2 => ?_
        exact ny _ _ (Same.refl _) ⟨z2, rfl, wc z2 hz2⟩
      · intro H1 acc s1 hacc hal hall
        obtain ⟨ns, rfl, hns⟩ := all_strs hall
        rw [List.length_map] at hal
        walk_at "h"
        refine ⟨sz_of (by simp), fun tp htp => ?_⟩
        have s2 := Same.new (o := .tup [V.str "table", .ref D]) htp
        exact q (.ref tp) _ (.table ns) (s1.trans s2) ⟨tp, rfl, D, .of upd_same, s2 _ _ hacc, hD⟩ ⟨⟨by omega, by omega, hns⟩, rfl, by rfl, by rfl⟩
end
end Fj
set_option maxHeartbeats 4000000
/-! _law_no_code, _law_marked_names, _law_exchanged -/
namespace Fj
open PySem PySem.Spec PyProof.Rows L2
open C8 (Met Mak InsC pe_mt0 pe_mk)
section
variable {P : Program} {w : World} {K : PySem.W.Frag} {mg : Str → Option Value} {base : Heap}
abbrev slaw_no_code : Stmt := top 76
abbrev Nlaw_no_code : List Str := ["_law_rows", "_law_row"]
theorem sclaw_no_code : FnScope Nlaw_no_code ["_law_rows"] (defScope slaw_no_code) := ⟨rfl, rfl, rfl, by decide +kernel, rfl, by decide +kernel, by decide +kernel⟩
def BonesV (H : Hp) (v : V) (bs : List Bn) : Prop := ∃ l xs, v = .ref l ∧ H l = some (.lst xs) ∧ Paired (BoneV H) xs bs
def noCode (bs : List Bn) : Bool := bs.all fun b => dataK b.kind
def spNoCode : Sp := fun vs H Q _ => ∃ (v : V) (bs : List Bn), vs = [v] ∧ BonesV H v bs ∧ (∀ b ∈ bs, b.ok) ∧ bs.length ≤ 100 ∧ ∀ H', Same H H' → Q (.bl (noCode bs)) H'
theorem stable_bone {D : Addr} : Stable (α := Bn) D (fun y p H => BoneV H y p) := fun y p H H' acc hD b r => r.but hD b
theorem ok_law_no_code (F : FnAt K mg "_law_no_code" slaw_no_code ["_law_rows"]) (T : Txt K mg) : Cal P w K mg base CX0 1 "_law_no_code" ["_law_rows"] spNoCode := by
  refine cal_mk F sclaw_no_code (fun vs H Q E h => ?_) (fun f cdv A outer s H vs Q E hr h => ?_)
  · obtain ⟨v, x, rfl, _⟩ := h
    rfl
  · obtain ⟨v, bs, rfl, ⟨l, xs, rfl, hl, hp⟩, hok, hz, q⟩ := h
    have nd := sclaw_no_code.nd
    refine ⟨_, (pss_one (ps_ret (pe_cmpR (eqdK (K := K) rfl hr.units) (pe_lc (own := [("_law_row", 1)]) (g := gName 1) (by rfl) nd (pi_list (pv 0)) (blkOk_by (N := Nlaw_no_code) (sc := (defScope slaw_no_code)) (by decide +kernel)) (fun _ _ _ _ _ => (pg_name (i := 1) nd rfl (Or.inl rfl))) (fun _ _ _ _ _ => (pts_one (pt_cmpR (notInK (K := K) rfl) (pe_ix (ixtK (K := K) rfl) (pv 1) pe_int (fun _ _ => rfl)) (pe_tup (pa_cons pe_str (pa_cons pe_str pa_nil))) (by rfl)))) (fun _ _ _ _ _ => (pv 1))) (pe_lst pa_nil) (nomark _)))), ?_⟩
    have hll : SqL K H l xs := .of hl
    walk_at "h"
    intro D hD
    refine lc_genL bs (fun b => !dataK b.kind) (fun y b H => BoneV H y b) stable_bone hll (pLen hp) (by omega) hD ?_ ?_
    · intro i x b H1 hx hb s1 _ NY NN ny nn
      obtain ⟨b', e, hv⟩ := pAt hp hx
      rw [hb] at e
      cases e
      obtain ⟨t, rfl, ht⟩ := hv.same s1
      have ht' := SqT.of (K := K) ht
      walk_at "h"
      refine ⟨rfl, ?_⟩
      walk_at "h"
      refine ⟨sz_of (by simp), fun p hp2 => ?_⟩
      have s2 := Same.new (o := .tup [V.str "numbers", .str "table"]) hp2
      refine go_inS (.inr (.of upd_same)) rfl rfl ?_
      refine ⟨_, rfl, ?_⟩
      refine ite2 (fun hi => ?_) (fun hi => ?_)
      · walk_at "h"
        exact ny _ _ hi s2 (BoneV.same ⟨t, rfl, ht⟩ s2)
      · exact nn _ ((Bool.not_eq_true _).mp hi) s2
    · intro H1 acc s1 hacc hp1
      walk_at "h"
      refine ⟨sz_of (by simp), fun p hp2 => ?_⟩
      have s2 := Same.new (o := .lst []) hp2
      refine go_eqD (W := All) (W' := All) (d := .list ((bs.filter fun b => !dataK b.kind).map Bn.d)) (e := .list []) (.lst (.of (s2 _ _ hacc) trivial) (dws_of_paired (enc := Bn.d) (fun _ _ z => BoneV.dw (BoneV.same z s2)) hp1)) (.lst (.of upd_same trivial) .nil) ((bones_shp fun b m => hok b (List.mem_filter.mp m).1).ok (by decide)) (by decide +kernel) ?_
      rw [eqv_nil]
      have e : ((bs.filter fun b => !dataK b.kind).map Bn.d).isEmpty = noCode bs := by
        unfold noCode
        clear hl hp hok hz hll hp1 q
        induction bs with
        | nil => rfl
        | cons b bs ih =>
          cases hb : dataK b.kind with
          | true => rw [List.filter_cons_of_neg (by simp [hb]), List.all_cons, hb, ih]; rfl
          | false => rw [List.filter_cons_of_pos (by simp [hb]), List.all_cons, hb]; rfl
      rw [e]
      exact q _ (s1.trans s2)
abbrev slaw_marked_names : Stmt := top 77
abbrev Nlaw_marked_names : List Str := ["_law_program_here", "_law_found", "_law_part", "_law_rows", "_law_row"]
theorem sclaw_marked_names : FnScope Nlaw_marked_names ["_law_program_here"] (defScope slaw_marked_names) := ⟨rfl, rfl, rfl, by decide +kernel, rfl, by decide +kernel, by decide +kernel⟩
def spMarkedN (K : PySem.W.Frag) : Sp := fun vs H Q _ => ∃ (v : V) (R : Prg), vs = [v] ∧ ProgV All K H v R ∧ Good R ∧ ∀ p H' (zs : List Str), Same H H' → H' p = some (.lst (zs.map V.str)) → (∀ z ∈ zs, IsW z) → zs.length ≤ 1000 → Q (.ref p) H'
theorem ok_law_marked_names (F : FnAt K mg "_law_marked_names" slaw_marked_names ["_law_program_here"]) (T : Txt K mg) : Cal P w K mg base CX0 1 "_law_marked_names" ["_law_program_here"] (spMarkedN K) := by
  refine cal_mk F sclaw_marked_names (fun vs H Q E h => ?_) (fun f cdv A outer s H vs Q E hr h => ?_)
  · obtain ⟨v, x, rfl, _⟩ := h
    rfl
  · obtain ⟨v, R, rfl, ⟨l, ys, rfl, hl, _, hp⟩, hg, q⟩ := h
    have nd := sclaw_marked_names.nd
    refine ⟨_, (pss_cons (ps_set (i := 1) nd rfl (Or.inl rfl) (pe_lst pa_nil))
      (pss_cons (ps_for PassesOwn.never rfl (pi_list (pv 0)) (pg_tup rfl (pgs_cons (pg_name (i := 2) nd rfl (Or.inl rfl)) (pgs_cons (pg_name (i := 3) nd rfl (Or.inl rfl)) pgs_nil))) (pss_one (ps_set (i := 1) nd rfl (Or.inl rfl) (pe_op op_cat (pv 1) (pe_lc (own := [("_law_row", 4)]) (g := gName 4) (by rfl) nd (pi_list (pv 3)) (blkOk_by (N := Nlaw_marked_names) (sc := (defScope slaw_marked_names)) (by decide +kernel)) (fun _ _ _ _ _ => (pg_name (i := 4) nd rfl (Or.inl rfl))) (fun _ _ _ _ _ => (pts_one (pt_cmpR op_eq (pe_ix (ixtK (K := K) rfl) (pv 4) pe_int (fun _ _ => rfl)) pe_str (nomark _)))) (fun _ _ _ _ _ => (pe_ix (ixtK (K := K) rfl) (pv 4) pe_int (fun _ _ => rfl))))))))
      (pss_one (ps_ret (pv 1))))), ?_⟩
    walk_at "h"
    refine ⟨sz_of (by simp), fun l0 hl0 => ?_⟩
    have s0 := Same.new (o := .lst []) hl0
    have hl1 := s0 _ _ hl
    have h00 : upd H l0 (.lst []) l0 = some (.lst []) := upd_same
    walk_at "h"
    refine for_list (xs := ys) (fun i σ H2 => ∃ (a b c : Option V) (D : Addr) (zs : List Str), σ = [some (.ref l), some (.ref D), a, b, c] ∧ Same H H2 ∧ H2 D = some (.lst (zs.map V.str)) ∧ (∀ z ∈ zs, IsW z) ∧ zs.length ≤ 60 * i)
      ⟨none, none, none, l0, [], rfl, s0, h00, fun _ m => (nomatch m), by simp⟩ ?_ ?_ ?_
    · rintro i σ H2 _ ⟨a, b, c, D, zs, rfl, s2, _⟩
      exact .of (s2 _ _ hl)
    · rintro i x σ H2 hx ⟨a, b, c, D, zs, rfl, s2, hD, hw, hlen⟩
      obtain ⟨p, hp1, hv⟩ := pAt hp hx
      have hgr := hg.rows p (List.mem_of_getElem? hp1)
      have hi : i < R.length := (List.getElem?_eq_some_iff.mp hp1).1
      have g4 := hg.hi
      obtain ⟨t, l2, xs2, rfl, ht, hl2, _, hr2⟩ := hv.same s2
      have hll2 : SqL K H2 l2 xs2 := .of hl2
      walk_at "h"
      intro D5 hD5
      refine lc_genL p.2 (fun r => !r.nm) (fun y r _ => ∃ z s, r = .mark z s ∧ y = .str z) (fun _ _ _ _ _ _ _ r => r) hll2 (pLen hr2) (by have := hgr.hi; omega) hD5 ?_ ?_
      · intro m y7 r7 H7 hy7 hr7 s7 _ NY NN ny nn
        obtain ⟨r7', e7, hro⟩ := pAt hr2 hy7
        rw [hr7] at e7
        cases e7
        obtain ⟨t7, rfl, ht7⟩ := hro.same s7
        walk_at "h"
        refine ⟨rfl, ?_⟩
        walk_at "h"
        refine go_hd ht7 ?_
        walk_at "h"
        rw [kind_mark]
        refine ite2 (fun hi => ?_) (fun hi => ?_)
        · cases r7 <;> (try (cases hi; done))
          case mark z s =>
            have ht8 : SqT K H7 t7 [.str "mark", .str z, .bl s] := ht7
            walk_at "h"
            exact ny _ _ rfl (Same.refl _) ⟨z, s, rfl, rfl⟩
        · exact nn _ ((Bool.not_eq_true _).mp hi) (Same.refl _)
      · intro H7 acc s7 hacc hpa
        have hz7 : ∃ zs7 : List Str, acc = zs7.map V.str ∧ (∀ z ∈ zs7, IsW z) ∧ zs7.length ≤ 60 := by
          have hall : ∀ y ∈ acc, ∃ n, y = V.str n ∧ IsW n := fun y m => by
            obtain ⟨i, hi⟩ := List.getElem?_of_mem m
            obtain ⟨r, hr, z, s, rfl, rfl⟩ := pAt hpa hi
            exact ⟨z, rfl, hgr.ok _ (List.mem_filter.mp (List.mem_of_getElem? hr)).1⟩
          obtain ⟨ns, rfl, hns⟩ := all_strs hall
          refine ⟨ns, rfl, hns, ?_⟩
          have e1 := pLen hpa
          rw [List.length_map] at e1
          have e2 := List.length_filter_le (fun r : Tr => !r.nm) p.2
          have := hgr.hi
          omega
        obtain ⟨zs7, rfl, hw7, hl7⟩ := hz7
        walk_at "h"
        refine go_cat (s7 _ _ hD) hacc (sz_of (by rw [List.length_map, List.length_map]; omega)) fun p8 hp8 => ?_
        have s8 := Same.new (o := .lst (zs.map V.str ++ zs7.map V.str)) hp8
        walk_at "h"
        refine ⟨_, _, _, p8, zs ++ zs7, rfl, s2.trans (s7.trans s8), by rw [List.map_append]; exact upd_same, fun z m => ?_, by rw [List.length_append]; omega⟩
        rcases List.mem_append.mp m with m | m
        · exact hw z m
        · exact hw7 z m
    · rintro σ H2 ⟨a, b, c, D, zs, rfl, s2, hD, hw, hlen⟩
      walk_at "h"
      have e0 := pLen hp
      have := hg.hi
      exact q D H2 zs s2 hD hw (by omega)
end
end Fj
set_option maxHeartbeats 4000000
/-! _law_exchanged -/
namespace Fj
open PySem PySem.Spec PyProof.Rows L2
open C8 (Met Mak InsC pe_mt0 pe_mk)
section
variable {P : Program} {w : World} {K : PySem.W.Frag} {mg : Str → Option Value} {base : Heap}
/-- of the same kind, for the checks -/
structure Akin (r r' : Tr) : Prop where
  ok : r'.ok
  nm : r'.nm = true
  g : r'.goes = r.goes
  d : r'.isData = r.isData
abbrev slaw_exchanged : Stmt := top 79
abbrev Nlaw_exchanged : List Str := ["_law_row", "_law_names", "_law_cell", "_law_name_here", "_law_at"]
theorem sclaw_exchanged : FnScope Nlaw_exchanged ["_law_row", "_law_names", "_law_cell"] (defScope slaw_exchanged) := ⟨rfl, rfl, rfl, by decide +kernel, rfl, by decide +kernel, by decide +kernel⟩
def spExch (K : PySem.W.Frag) : Sp := fun vs H Q _ => ∃ (v : V) (r : Tr) (ln : Addr) (zs : List Str) (c : Int), vs = [v, .ref ln, .int c] ∧ RowV All K H v r ∧ r.ok ∧ r.nm = true ∧ H ln = some (.lst (zs.map V.str)) ∧ (∀ z ∈ zs, IsW z) ∧ zs.length ≤ 1000 ∧ ∀ v' H' r', Same H H' → RowV All K H' v' r' → Akin r r' → Q v' H'
theorem catT1 {H : Hp} {Q : VK} {a b : Addr} {xs ys : List V} (ha : SqT K H a xs) (hb : SqT K H b ys) (hx : xs ≠ []) (hy : ys ≠ []) (hz : xs.length + ys.length ≤ 100000) (q : ∀ p, H p = none → Q (.ref p) (upd H p (.tup (xs ++ ys)))) : rCatT K (.ref a) (.ref b) H Q :=
  ⟨a, b, xs, ys, rfl, rfl, ha, hb, hx, sz_of hz, fun e => absurd e hy, fun _ => q⟩
theorem ok_law_exchanged (F : FnAt K mg "_law_exchanged" slaw_exchanged ["_law_row", "_law_names", "_law_cell"]) (T : Txt K mg) : Cal P w K mg base CX0 1 "_law_exchanged" ["_law_row", "_law_names", "_law_cell"] (spExch K) := by
  refine cal_mk F sclaw_exchanged (fun vs H Q E h => ?_) (fun f cdv A outer s H vs Q E hr h => ?_)
  · obtain ⟨v, r, ln, zs, c, rfl, _⟩ := h
    rfl
  · obtain ⟨v, r, ln, zs, c, rfl, ⟨t, rfl, ht⟩, hok, hnm, hn, hw, hzl, q⟩ := h
    have nd := sclaw_exchanged.nd
    refine ⟨_, (pss_cons (ps_set (i := 3) nd rfl (Or.inl rfl) (pe_ix (ixlK (K := K) rfl) (pe_op op_cat (pv 1) (pe_lst (pa_cons pe_str pa_nil))) (pe_op op_mod (pe_op op_fdiv (pv 2) pe_int) (pe_op op_add pe_int (pe_callB (lenK (K := K) rfl) (by rfl) T.n_len (by decide +kernel) (pa_cons (pv 1) pa_nil)))) (fun _ _ => rfl)))
      (pss_cons (ps_if (pt_cmpR (inK (K := K) rfl) (pe_ix (ixtK (K := K) rfl) (pv 0) pe_int (fun _ _ => rfl)) (pe_tup (pa_cons pe_str (pa_cons pe_str (pa_cons pe_str (pa_cons pe_str (pa_cons pe_str pa_nil)))))) (by rfl)) (pss_one (ps_ret (pe_op op_catT (pe_slice (sltK (K := K) rfl) (pv 0) po_none (po_some (pe_un un_neg pe_int))) (pe_tup (pa_cons (pv 3) pa_nil))))) pss_nil)
      (pss_cons (ps_if (PW.pt (pw_and (pt_cmpR op_eq (pe_ix (ixtK (K := K) rfl) (pv 0) pe_int (fun _ _ => rfl)) pe_str (nomark _)) (pw_and1 (pt_cmpR op_eq (pe_op op_mod (pv 2) pe_int) pe_int (nomark _))))) (pss_one (ps_ret (pe_op op_catT (pe_slice (sltK (K := K) rfl) (pv 0) po_none (po_some pe_int)) (pe_tup (pa_cons (pv 3) (pa_cons (pe_ix (ixtK (K := K) rfl) (pv 0) pe_int (fun _ _ => rfl)) pa_nil)))))) pss_nil)
      (pss_cons (ps_if (pt_cmpR op_eq (pe_ix (ixtK (K := K) rfl) (pv 0) pe_int (fun _ _ => rfl)) pe_str (nomark _)) (pss_one (ps_ret (pe_op op_catT (pe_slice (sltK (K := K) rfl) (pv 0) po_none (po_some pe_int)) (pe_tup (pa_cons (pv 3) pa_nil))))) pss_nil)
      (pss_cons (ps_if (pt_cmpR op_eq (pe_ix (ixtK (K := K) rfl) (pv 0) pe_int (fun _ _ => rfl)) pe_str (nomark _)) (pss_cons (ps_set (i := 4) nd rfl (Or.inl rfl) (pe_op op_mod (pv 2) (pe_callB (lenK (K := K) rfl) (by rfl) T.n_len (by decide +kernel) (pa_cons (pe_ix (ixtK (K := K) rfl) (pv 0) pe_int (fun _ _ => rfl)) pa_nil))))
      (pss_one (ps_ret (pe_tup (pa_cons (pe_ix (ixtK (K := K) rfl) (pv 0) pe_int (fun _ _ => rfl)) (pa_cons (pe_op op_cat (pe_op op_cat (pe_slice (sllK (K := K) rfl) (pe_ix (ixtK (K := K) rfl) (pv 0) pe_int (fun _ _ => rfl)) po_none (po_some (pv 4))) (pe_lst (pa_cons (pv 3) pa_nil))) (pe_slice (sllK (K := K) rfl) (pe_ix (ixtK (K := K) rfl) (pv 0) pe_int (fun _ _ => rfl)) (po_some (pe_op op_add (pv 4) pe_int)) po_none)) pa_nil)))))) pss_nil)
      (pss_one (ps_ret (pv 0)))))))), ?_⟩
    have hnS : SqL K H ln (zs.map V.str) := .of hn
    walk_at "h"
    refine ⟨sz_of (by simp), fun l1 hl1 => ?_⟩
    have s1 := Same.new (o := .lst [V.str "zzz"]) hl1
    refine go_cat (s1 _ _ hn) upd_same (sz_of (by rw [List.length_map]; simp; omega)) fun l2 hl2 => ?_
    have s2 := s1.trans (Same.new (o := .lst (zs.map V.str ++ [V.str "zzz"])) hl2)
    have hS : SqL K (upd (upd H l1 (.lst [V.str "zzz"])) l2 (.lst (zs.map V.str ++ [V.str "zzz"]))) l2 ((zs ++ [Str.ofString "zzz"]).map V.str) := .of (by rw [List.map_append]; exact upd_same)
    have hn2 := s2.seq hnS
    have ht2 := ht.keep (W' := All) (.same s2 fun _ z => z)
    generalize upd (upd H l1 (.lst [V.str "zzz"])) l2 (.lst (zs.map V.str ++ [V.str "zzz"])) = H2 at *
    walk_at "h"
    refine go_I ⟨by decide, by decide⟩ ?_
    walk_at "h"
    refine go_I (by omega) ?_
    have el : (1 : Int) + ((zs.map V.str).length : Int) = (((zs ++ [Str.ofString "zzz"]).map V.str).length : Int) := by
      rw [List.length_map, List.length_map, List.length_append]
      simp
      omega
    rw [el]
    refine go_pick hS (by rw [List.length_append]; simp) fun z hz => ?_
    have hzw : IsW z := by
      rcases List.mem_append.mp hz with m | m
      · exact hw z m
      · rw [List.mem_singleton.mp m]; decide +kernel
    clear hz el hS
    have q2 : ∀ v' H' r', Same H2 H' → RowV All K H' v' r' → Akin r r' → Q v' H' := fun v' H' r' s' => q v' H' r' (s2.trans s')
    clear q
    have kv : ∀ p, H2 p = none → Same H2 (upd H2 p (.tup [V.str "jump", .str "call", .str "jumpif", .str "jumpby", .str "load"])) := fun p hp => Same.new hp
    cases r <;> (try (cases hnm; done)) <;> dsimp only [Tr.ok] at hok
    case numbers ns =>
      obtain ⟨l, hx1, hl, _⟩ := id ht2
      dsimp only [Tr.kind] at hx1
      walk_at "h"
      refine ⟨sz_of (by simp), fun p hp => ?_⟩
      have s3 := kv p hp
      refine go_inS (.inr (.of upd_same)) rfl rfl ?_
      have hx2 := s3.tup hx1
      walk_at "h"
      exact q2 _ _ (.numbers ns) s3 ⟨t, rfl, ht2.keep (.same s3 fun _ z => z)⟩ ⟨hok, rfl, rfl, rfl⟩
    case table us =>
      obtain ⟨l, hx1, hl, _⟩ := id ht2
      dsimp only [Tr.kind] at hx1
      obtain ⟨o1, o2, o3⟩ := hok
      walk_at "h"
      refine ⟨sz_of (by simp), fun p hp => ?_⟩
      have s3 := kv p hp
      refine go_inS (.inr (.of upd_same)) rfl rfl ?_
      have hx2 := s3.tup hx1
      have hl3 := s3 _ _ hl
      have hlS : SqL K (upd H2 p (.tup [V.str "jump", .str "call", .str "jumpif", .str "jumpby", .str "load"])) l (us.map V.str) := .of hl3
      generalize upd H2 p (.tup [V.str "jump", .str "call", .str "jumpif", .str "jumpby", .str "load"]) = H3 at *
      walk_at "h"
      refine go_I (by rw [List.length_map]; omega) ?_
      rw [List.length_map]
      obtain ⟨n, hn', en⟩ : ∃ n : Nat, n < us.length ∧ c % (us.length : Int) = n := ⟨(c % (us.length : Int)).toNat, by
        have h1 := Int.emod_nonneg c (show (us.length : Int) ≠ 0 by omega)
        have h2 := Int.emod_lt_of_pos c (show (0 : Int) < us.length by omega)
        omega, by
        have h1 := Int.emod_nonneg c (show (us.length : Int) ≠ 0 by omega)
        omega⟩
      rw [en]
      walk_at "h"
      refine go_slL hlS fun p4 hp4 => ?_
      rw [cut_to]
      have s4 := Same.new (o := .lst ((us.map V.str).take n)) hp4
      walk_at "h"
      refine ⟨sz_of (by simp), fun p5 hp5 => ?_⟩
      have s5 := Same.new (o := .lst [V.str z]) hp5
      refine go_cat (s5 _ _ upd_same) upd_same (sz_of (by rw [List.length_take, List.length_map]; simp; omega)) fun p6 hp6 => ?_
      have s6 := Same.new (o := .lst ((us.map V.str).take n ++ [V.str z])) hp6
      have s46 := s4.trans (s5.trans s6)
      have hx6 := s46.tup hx2
      have hl6 := s46.seq hlS
      walk_at "h"
      refine go_slL hl6 fun p7 hp7 => ?_
      have e1 : cutV (us.map V.str) (some ((n : Int) + 1)) none = (us.map V.str).drop (n + 1) := cut_from (us.map V.str) (n + 1)
      rw [e1]
      have s7 := Same.new (o := .lst ((us.map V.str).drop (n + 1))) hp7
      refine go_cat (s7 _ _ upd_same) upd_same (sz_of (by rw [List.length_append, List.length_take, List.length_drop, List.length_map]; simp; omega)) fun p8 hp8 => ?_
      have s8 := Same.new (o := .lst ((us.map V.str).take n ++ [V.str z] ++ (us.map V.str).drop (n + 1))) hp8
      walk_at "h"
      refine ⟨sz_of (by simp), fun tp htp => ?_⟩
      have s9 := Same.new (o := .tup [V.str "table", .ref p8]) htp
      refine q2 (.ref tp) _ (.table (us.take n ++ [z] ++ us.drop (n + 1))) (s3.trans (s46.trans (s7.trans (s8.trans s9)))) ⟨tp, rfl, p8, .of upd_same, s9 _ _ ?_, trivial⟩ ⟨⟨?_, ?_, fun x m => ?_⟩, rfl, rfl, rfl⟩
      · rw [List.map_append, List.map_append, List.map_take, List.map_drop]
        exact upd_same
      · simp only [List.length_append, List.length_take, List.length_drop, List.length_singleton]; omega
      · simp only [List.length_append, List.length_take, List.length_drop, List.length_singleton]; omega
      · rcases List.mem_append.mp m with m | m
        · rcases List.mem_append.mp m with m | m
          · exact o3 x (List.mem_of_mem_take m)
          · rw [List.mem_singleton.mp m]; exact hzw
        · exact o3 x (List.mem_of_mem_drop m)
    case alike b y x =>
      have hx1 : SqT K H2 t [.str "alike", .int b, .str y, .str x] := ht2
      walk_at "h"
      refine ⟨sz_of (by simp), fun p hp => ?_⟩
      have s3 := kv p hp
      refine go_inS (.inr (.of upd_same)) rfl rfl ?_
      have hx2 := s3.tup hx1
      generalize upd H2 p (.tup [V.str "jump", .str "call", .str "jumpif", .str "jumpby", .str "load"]) = H3 at *
      walk_at "h"
      refine go_I (by decide) ?_
      walk_at "h"
      refine ite2 (fun h5 => ?_) (fun h5 => ?_)
      · walk_at "h"
        refine ⟨t, _, rfl, hx2, (by show ¬ (HT.sIx 4 0 none = 0 ∧ HT.sIx 4 4 (some 2) = 4); decide +kernel), fun p4 hp4 => ?_⟩
        have s4 := Same.new (o := .tup (cutV [V.str "alike", .int b, .str y, .str x] none (some 2))) hp4
        have hx4 := s4.tup hx2
        walk_at "h"
        refine ⟨sz_of (by simp), fun p5 hp5 => ?_⟩
        have s5 := Same.new (o := .tup [V.str z, .str x]) hp5
        refine catT1 (xs := [V.str "alike", .int b]) (s5.tup (.of upd_same)) (.of upd_same) (by simp) (by simp) (by simp) fun p6 hp6 => ?_
        exact q2 (.ref p6) _ (.alike b z x) (s3.trans (s4.trans (s5.trans (Same.new hp6)))) ⟨p6, rfl, .of upd_same⟩ ⟨⟨hok.1, hzw, hok.2.2⟩, rfl, rfl, rfl⟩
      · walk_at "h"
        refine ⟨t, _, rfl, hx2, (by show ¬ (HT.sIx 4 0 none = 0 ∧ HT.sIx 4 4 (some 3) = 4); decide +kernel), fun p4 hp4 => ?_⟩
        have s4 := Same.new (o := .tup (cutV [V.str "alike", .int b, .str y, .str x] none (some 3))) hp4
        walk_at "h"
        refine ⟨sz_of (by simp), fun p5 hp5 => ?_⟩
        have s5 := Same.new (o := .tup [V.str z]) hp5
        refine catT1 (xs := [V.str "alike", .int b, .str y]) (s5.tup (.of upd_same)) (.of upd_same) (by simp) (by simp) (by simp) fun p6 hp6 => ?_
        exact q2 (.ref p6) _ (.alike b y z) (s3.trans (s4.trans (s5.trans (Same.new hp6)))) ⟨p6, rfl, .of upd_same⟩ ⟨⟨hok.1, hok.2.1, hzw⟩, rfl, rfl, rfl⟩
    case jump y =>
      have hx1 : SqT K H2 t [.str "jump", .str y] := ht2
      walk_at "h"
      refine ⟨sz_of (by simp), fun p hp => ?_⟩
      have s3 := kv p hp
      refine go_inS (.inr (.of upd_same)) rfl rfl ?_
      have hx2 := s3.tup hx1
      walk_at "h"
      refine ⟨t, _, rfl, hx2, (by show ¬ (HT.sIx 2 0 none = 0 ∧ HT.sIx 2 2 (some (-1)) = 2); decide +kernel), fun p4 hp4 => ?_⟩
      have s4 := Same.new (o := .tup (cutV [V.str "jump", .str y] none (some (-1)))) hp4
      walk_at "h"
      refine ⟨sz_of (by simp), fun p5 hp5 => ?_⟩
      have s5 := Same.new (o := .tup [V.str z]) hp5
      refine catT1 (xs := [V.str "jump"]) (s5.tup (.of upd_same)) (.of upd_same) (by simp) (by simp) (by simp) fun p6 hp6 => ?_
      exact q2 (.ref p6) _ (.jump z) (s3.trans (s4.trans (s5.trans (Same.new hp6)))) ⟨p6, rfl, .of upd_same⟩ ⟨hzw, rfl, rfl, rfl⟩
    case call y =>
      have hx1 : SqT K H2 t [.str "call", .str y] := ht2
      walk_at "h"
      refine ⟨sz_of (by simp), fun p hp => ?_⟩
      have s3 := kv p hp
      refine go_inS (.inr (.of upd_same)) rfl rfl ?_
      have hx2 := s3.tup hx1
      walk_at "h"
      refine ⟨t, _, rfl, hx2, (by show ¬ (HT.sIx 2 0 none = 0 ∧ HT.sIx 2 2 (some (-1)) = 2); decide +kernel), fun p4 hp4 => ?_⟩
      have s4 := Same.new (o := .tup (cutV [V.str "call", .str y] none (some (-1)))) hp4
      walk_at "h"
      refine ⟨sz_of (by simp), fun p5 hp5 => ?_⟩
      have s5 := Same.new (o := .tup [V.str z]) hp5
      refine catT1 (xs := [V.str "call"]) (s5.tup (.of upd_same)) (.of upd_same) (by simp) (by simp) (by simp) fun p6 hp6 => ?_
      exact q2 (.ref p6) _ (.call z) (s3.trans (s4.trans (s5.trans (Same.new hp6)))) ⟨p6, rfl, .of upd_same⟩ ⟨hzw, rfl, rfl, rfl⟩
    case jumpif b y =>
      have hx1 : SqT K H2 t [.str "jumpif", .int b, .str y] := ht2
      walk_at "h"
      refine ⟨sz_of (by simp), fun p hp => ?_⟩
      have s3 := kv p hp
      refine go_inS (.inr (.of upd_same)) rfl rfl ?_
      have hx2 := s3.tup hx1
      walk_at "h"
      refine ⟨t, _, rfl, hx2, (by show ¬ (HT.sIx 3 0 none = 0 ∧ HT.sIx 3 3 (some (-1)) = 3); decide +kernel), fun p4 hp4 => ?_⟩
      have s4 := Same.new (o := .tup (cutV [V.str "jumpif", .int b, .str y] none (some (-1)))) hp4
      walk_at "h"
      refine ⟨sz_of (by simp), fun p5 hp5 => ?_⟩
      have s5 := Same.new (o := .tup [V.str z]) hp5
      refine catT1 (xs := [V.str "jumpif", .int b]) (s5.tup (.of upd_same)) (.of upd_same) (by simp) (by simp) (by simp) fun p6 hp6 => ?_
      exact q2 (.ref p6) _ (.jumpif b z) (s3.trans (s4.trans (s5.trans (Same.new hp6)))) ⟨p6, rfl, .of upd_same⟩ ⟨⟨hok.1, hzw⟩, rfl, rfl, rfl⟩
    case jumpby b y =>
      have hx1 : SqT K H2 t [.str "jumpby", .int b, .str y] := ht2
      walk_at "h"
      refine ⟨sz_of (by simp), fun p hp => ?_⟩
      have s3 := kv p hp
      refine go_inS (.inr (.of upd_same)) rfl rfl ?_
      have hx2 := s3.tup hx1
      walk_at "h"
      refine ⟨t, _, rfl, hx2, (by show ¬ (HT.sIx 3 0 none = 0 ∧ HT.sIx 3 3 (some (-1)) = 3); decide +kernel), fun p4 hp4 => ?_⟩
      have s4 := Same.new (o := .tup (cutV [V.str "jumpby", .int b, .str y] none (some (-1)))) hp4
      walk_at "h"
      refine ⟨sz_of (by simp), fun p5 hp5 => ?_⟩
      have s5 := Same.new (o := .tup [V.str z]) hp5
      refine catT1 (xs := [V.str "jumpby", .int b]) (s5.tup (.of upd_same)) (.of upd_same) (by simp) (by simp) (by simp) fun p6 hp6 => ?_
      exact q2 (.ref p6) _ (.jumpby b z) (s3.trans (s4.trans (s5.trans (Same.new hp6)))) ⟨p6, rfl, .of upd_same⟩ ⟨⟨hok.1, hzw⟩, rfl, rfl, rfl⟩
    case load b cc y =>
      have hx1 : SqT K H2 t [.str "load", .int b, .int cc, .str y] := ht2
      walk_at "h"
      refine ⟨sz_of (by simp), fun p hp => ?_⟩
      have s3 := kv p hp
      refine go_inS (.inr (.of upd_same)) rfl rfl ?_
      have hx2 := s3.tup hx1
      walk_at "h"
      refine ⟨t, _, rfl, hx2, (by show ¬ (HT.sIx 4 0 none = 0 ∧ HT.sIx 4 4 (some (-1)) = 4); decide +kernel), fun p4 hp4 => ?_⟩
      have s4 := Same.new (o := .tup (cutV [V.str "load", .int b, .int cc, .str y] none (some (-1)))) hp4
      walk_at "h"
      refine ⟨sz_of (by simp), fun p5 hp5 => ?_⟩
      have s5 := Same.new (o := .tup [V.str z]) hp5
      refine catT1 (xs := [V.str "load", .int b, .int cc]) (s5.tup (.of upd_same)) (.of upd_same) (by simp) (by simp) (by simp) fun p6 hp6 => ?_
      exact q2 (.ref p6) _ (.load b cc z) (s3.trans (s4.trans (s5.trans (Same.new hp6)))) ⟨p6, rfl, .of upd_same⟩ ⟨⟨hok.1, hok.2.1, hzw⟩, rfl, rfl, rfl⟩
    all_goals
      have hx1 := ht2
      dsimp only [TupV, Tr.items, Tr.vs, Tr.kind, Tr.flat] at hx1
      walk_at "h"
      refine ⟨sz_of (by simp), fun p hp => ?_⟩
      have s3 := kv p hp
      refine go_inS (.inr (.of upd_same)) rfl rfl ?_
      have hx2 := s3.tup hx1
      walk_at "h"
      exact q2 _ _ _ s3 ⟨t, rfl, ht2.keep (.same s3 fun _ z => z)⟩ ⟨hok, rfl, rfl, rfl⟩
end
end Fj
set_option maxHeartbeats 4000000
/-! what stays when a row is exchanged -/
namespace Fj
open PySem PySem.Spec PyProof.Rows L2
open C8 (Met Mak InsC pe_mt0 pe_mk)
def sk (r : Tr) : Bool × Bool × Bool := (r.nm, r.goes, r.isData)
theorem endsW_eq (rows : Rows) (i : Nat) : endsW rows i = match rows[i]? with
    | none => true
    | some r => if r.nm then (!r.goes || (behind rows i).any Tr.code) else (behind rows i).isSome := by
  unfold endsW
  cases h : rows[i]? with
  | none => rfl
  | some r =>
    cases r <;> (cases behind rows i <;> rfl)
theorem bare_sk (rows : Rows) : (bareR rows).map sk = (rows.map sk).filter (·.1) := by
  unfold bareR
  rw [List.filter_map]
  rfl
theorem behind_sk (rows : Rows) (i : Nat) : (behind rows i).map sk = (((rows.map sk).drop (i + 1)).filter (·.1)).head? := by
  unfold behind
  rw [← List.head?_map, bare_sk, List.map_drop]
theorem sk_code {r r' : Tr} (h : sk r = sk r') : r.code = r'.code := by
  unfold sk at h
  unfold Tr.code
  rw [(Prod.mk.inj h).1, (Prod.mk.inj (Prod.mk.inj h).2).2]
theorem opt_any {a b : Option Tr} (h : a.map sk = b.map sk) : a.any Tr.code = b.any Tr.code ∧ a.isSome = b.isSome := by
  cases a <;> cases b <;> simp at h
  · exact ⟨rfl, rfl⟩
  · exact ⟨sk_code h, rfl⟩
theorem endsW_sk {a b : Rows} (h : a.map sk = b.map sk) (i : Nat) : endsW a i = endsW b i := by
  rw [endsW_eq, endsW_eq]
  have hb : (behind a i).map sk = (behind b i).map sk := by rw [behind_sk, behind_sk, h]
  obtain ⟨h1, h2⟩ := opt_any hb
  have hi : (a[i]?).map sk = (b[i]?).map sk := by rw [← List.getElem?_map, ← List.getElem?_map, h]
  cases ha : a[i]? with
  | none =>
    rw [ha] at hi
    cases hbb : b[i]? with
    | none => rfl
    | some y => rw [hbb] at hi; cases hi
  | some x =>
    rw [ha] at hi
    cases hbb : b[i]? with
    | none => rw [hbb] at hi; cases hi
    | some y =>
      rw [hbb] at hi
      have e : sk x = sk y := Option.some.inj hi
      unfold sk at e
      show (if x.nm = true then _ else _) = (if y.nm = true then _ else _)
      rw [(Prod.mk.inj e).1, (Prod.mk.inj (Prod.mk.inj e).2).1, h1, h2]
theorem GoodR.sk {a b : Rows} (g : GoodR a) (h : b.map sk = a.map sk) (ok : ∀ r ∈ b, r.ok) : GoodR b := by
  have hl : b.length = a.length := by have := congrArg List.length h; rwa [List.length_map, List.length_map] at this
  have hb : (bareR b).length = (bareR a).length := by
    have := congrArg List.length (show (bareR b).map Fj.sk = (bareR a).map Fj.sk by rw [bare_sk, bare_sk, h])
    rwa [List.length_map, List.length_map] at this
  have hf := filter_len Tr.nm a
  have hf' := filter_len Tr.nm b
  have l := g.lo
  have m := g.hm
  have hh := g.hb
  unfold bareR at hb l hh
  exact ⟨ok, by unfold bareR; omega, by rw [hl]; exact g.hi, by omega, by unfold bareR; omega, fun i hi => by rw [endsW_sk h]; exact g.e i (by omega)⟩
theorem ents_cons_nm {part : Str} {k : Nat} {r : Tr} {b : Rows} (h : r.nm = true) : ents part k (r :: b) = ents part (k + 1) b := by
  cases r <;> first | rfl | cases h
theorem Good.exch {R : Prg} (g : Good R) {i k : Nat} {p : Str × Rows} {r r' : Tr} (hp : R[i]? = some p) (hr : p.2[k]? = some r) (hn : r.nm = true) (a : Akin r r') : Good (R.take i ++ (p.1, p.2.take k ++ r' :: p.2.drop (k + 1)) :: R.drop (i + 1)) := by
  have e := split_at hp
  have er := split_at hr
  have hm := List.mem_of_getElem? hp
  have hsk : (p.2.take k ++ r' :: p.2.drop (k + 1)).map sk = p.2.map sk := by
    conv => rhs; rw [er]
    rw [List.map_append, List.map_append, List.map_cons, List.map_cons]
    congr 2
    unfold sk
    rw [a.nm, hn, a.g, a.d]
  have hfst : (R.take i ++ (p.1, p.2.take k ++ r' :: p.2.drop (k + 1)) :: R.drop (i + 1)).map Prod.fst = R.map Prod.fst := by
    conv => rhs; rw [e]
    rw [List.map_append, List.map_append, List.map_cons, List.map_cons]
  have hlen : (R.take i ++ (p.1, p.2.take k ++ r' :: p.2.drop (k + 1)) :: R.drop (i + 1)).length = R.length := by
    have := congrArg List.length hfst
    rwa [List.length_map, List.length_map] at this
  have hnew : GoodR (p.2.take k ++ r' :: p.2.drop (k + 1)) := (g.rows p hm).sk hsk fun x m => by
    rcases List.mem_append.mp m with m | m
    · exact (g.rows p hm).ok x (List.mem_of_mem_take m)
    · rcases List.mem_cons.mp m with rfl | m
      · exact a.ok
      · exact (g.rows p hm).ok x (List.mem_of_mem_drop m)
  have hq : ∀ q ∈ R.take i ++ (p.1, p.2.take k ++ r' :: p.2.drop (k + 1)) :: R.drop (i + 1), q ∈ R ∨ q = (p.1, p.2.take k ++ r' :: p.2.drop (k + 1)) := fun q m => by
    rcases List.mem_append.mp m with m | m
    · exact .inl (List.mem_of_mem_take m)
    · rcases List.mem_cons.mp m with rfl | m
      · exact .inr rfl
      · exact .inl (List.mem_of_mem_drop m)
  have hents : ents p.1 0 (p.2.take k ++ r' :: p.2.drop (k + 1)) = ents p.1 0 p.2 := by
    conv => rhs; rw [er]
    rw [ents_append, ents_append, ents_cons_nm a.nm, ents_cons_nm hn]
  have hmk : entsP (R.take i ++ (p.1, p.2.take k ++ r' :: p.2.drop (k + 1)) :: R.drop (i + 1)) = entsP R := by
    conv => rhs; rw [e]
    rw [entsP_append, entsP_append]
    show _ ++ (ents p.1 0 (p.2.take k ++ r' :: p.2.drop (k + 1)) ++ entsP (R.drop (i + 1))) = _ ++ (ents p.1 0 p.2 ++ entsP (R.drop (i + 1)))
    rw [hents]
  refine ⟨by rw [hlen]; exact g.lo, by rw [hlen]; exact g.hi, by rw [hfst]; exact g.nd, fun q m => ?_, fun q m => ?_, ?_⟩
  · rcases hq q m with m | rfl
    · exact g.pw q m
    · exact g.pw p hm
  · rcases hq q m with m | rfl
    · exact g.rows q m
    · exact hnew
  · unfold namesP
    rw [hmk]
    exact g.mks
end Fj
set_option maxHeartbeats 4000000
/-! _law_spoilt -/
namespace Fj
open PySem PySem.Spec PyProof.Rows L2
open C8 (Met Mak InsC pe_mt0 pe_mk)
section
variable {P : Program} {w : World} {K : PySem.W.Frag} {mg : Str → Option Value} {base : Heap}
theorem pTake {α β : Type} {F : α → β → Prop} : ∀ {l : List α} {m : List β} (n : Nat), Paired F l m → Paired F (l.take n) (m.take n)
  | _, _, 0, _ => .nil
  | _, _, _ + 1, .nil => .nil
  | _, _, n + 1, .cons r t => .cons r (pTake n t)
theorem pApp {α β : Type} {F : α → β → Prop} : ∀ {l l' : List α} {m m' : List β}, Paired F l m → Paired F l' m' → Paired F (l ++ l') (m ++ m')
  | _, _, _, _, .nil, h => h
  | _, _, _, _, .cons r t, h => .cons r (pApp t h)
theorem mod_nat {c : Int} {n : Nat} (h : 1 ≤ n) : ∃ k : Nat, k < n ∧ c % (n : Int) = k := ⟨(c % (n : Int)).toNat, by
  have h1 := Int.emod_nonneg c (show (n : Int) ≠ 0 by omega)
  have h2 := Int.emod_lt_of_pos c (show (0 : Int) < n by omega)
  omega, by
  have h1 := Int.emod_nonneg c (show (n : Int) ≠ 0 by omega)
  omega⟩
theorem ints_shp {ks : List Nat} : Shp 1 (.list (ks.map fun k : Nat => PyData.int k)) := by
  apply Shp.lst
  intro d m
  obtain ⟨z, _, rfl⟩ := List.mem_map.mp m
  exact shp_int _
abbrev slaw_spoilt : Stmt := top 80
abbrev Nlaw_spoilt : List Str := ["_law_program_here", "_law_names", "_law_cell", "_law_at", "_law_part", "_law_rows", "_law_k", "_law_asking", "_law_told_here"]
theorem sclaw_spoilt : FnScope Nlaw_spoilt ["_law_program_here", "_law_names", "_law_cell"] (defScope slaw_spoilt) := ⟨rfl, rfl, rfl, by decide +kernel, rfl, by decide +kernel, by decide +kernel⟩
def asksAt (rows : Rows) (k : Nat) : Bool := (rows[k]?).any fun r => !r.asked.isEmpty
def spSpoilt (K : PySem.W.Frag) : Sp := fun vs H Q _ => ∃ (v : V) (R : Prg) (ln : Addr) (zs : List Str) (c : Int), vs = [v, .ref ln, .int c] ∧ ProgV All K H v R ∧ Good R ∧ H ln = some (.lst (zs.map V.str)) ∧ (∀ z ∈ zs, IsW z) ∧ zs.length ≤ 1000 ∧ ∀ v' H' R', Same H H' → ProgV All K H' v' R' → Good R' → Q v' H'
theorem ok_law_spoilt (F : FnAt K mg "_law_spoilt" slaw_spoilt ["_law_program_here", "_law_names", "_law_cell"]) (T : Txt K mg) (G_law_asked : Cal P w K mg base CX0 1 "_law_asked" ["_law_row"] (spLAsked K)) (G_law_exchanged : Cal P w K mg base CX0 1 "_law_exchanged" ["_law_row", "_law_names", "_law_cell"] (spExch K)) : Cal P w K mg base CX0 2 "_law_spoilt" ["_law_program_here", "_law_names", "_law_cell"] (spSpoilt K) := by
  refine cal_mk F sclaw_spoilt (fun vs H Q E h => ?_) (fun f cdv A outer s H vs Q E hr h => ?_)
  · obtain ⟨v, r, ln, zs, c, rfl, _⟩ := h
    rfl
  · obtain ⟨v, R, ln, zs, c, rfl, hv, hg, hn, hw, hzl, q⟩ := h
    have nd := sclaw_spoilt.nd
    refine ⟨_, (pss_cons (ps_set (i := 3) nd rfl (Or.inl rfl) (pe_op op_mod (pv 2) (pe_callB (lenK (K := K) rfl) (by rfl) T.n_len (by decide +kernel) (pa_cons (pv 0) pa_nil))))
      (pss_cons (ps_asg (pe_ix (ixlK (K := K) rfl) (pv 0) (pv 3) (fun _ _ => rfl)) (pg_tup rfl (pgs_cons (pg_name (i := 4) nd rfl (Or.inl rfl)) (pgs_cons (pg_name (i := 5) nd rfl (Or.inr rfl)) pgs_nil))))
      (pss_cons (ps_setLc (i := 7) (own := [("_law_k", 6)]) (g := gName 6) (by rfl) nd rfl rfl (sw_true rfl rfl rfl (by decide +kernel)) (pi_range1 (by rfl) T.n_range (pa_cons (pe_callB (lenK (K := K) rfl) (by rfl) T.n_len (by decide +kernel) (pa_cons (pv 5) pa_nil)) pa_nil)) (blkOk_by (N := Nlaw_spoilt) (sc := (defScope slaw_spoilt)) (by decide +kernel)) (fun _ _ _ _ _ => (pg_name (i := 6) nd rfl (Or.inl rfl))) (fun _ _ _ _ _ => (pts_one (pt_cmpR (nedK (K := K) rfl hr.units) (pe_cal G_law_asked hr (by decide) rfl pass0 (pa_cons (pe_ix (ixlK (K := K) rfl) (pv 5) (pv 6) (fun _ _ => rfl)) pa_nil)) (pe_lst pa_nil) (nomark _)))) (fun _ _ _ _ _ => (pv 6)))
      (pss_cons (ps_if (pt_cmpR (eqdK (K := K) rfl hr.units) (pv 7) (pe_lst pa_nil) (nomark _)) (pss_one (ps_ret (pv 0))) pss_nil)
      (pss_cons (ps_set (i := 6) nd rfl (Or.inl rfl) (pe_ix (ixlK (K := K) rfl) (pv 7) (pe_op op_mod (pe_op op_fdiv (pv 2) pe_int) (pe_callB (lenK (K := K) rfl) (by rfl) T.n_len (by decide +kernel) (pa_cons (pv 7) pa_nil))) (fun _ _ => rfl)))
      (pss_cons (ps_set (i := 8) nd rfl (Or.inl rfl) (pe_op op_cat (pe_op op_cat (pe_slice (sllK (K := K) rfl) (pv 5) po_none (po_some (pv 6))) (pe_lst (pa_cons (pe_cal G_law_exchanged hr (by decide) rfl pass0 (pa_cons (pe_ix (ixlK (K := K) rfl) (pv 5) (pv 6) (fun _ _ => rfl)) (pa_cons (pv 1) (pa_cons (pe_op op_fdiv (pv 2) pe_int) pa_nil)))) pa_nil))) (pe_slice (sllK (K := K) rfl) (pv 5) (po_some (pe_op op_add (pv 6) pe_int)) po_none)))
      (pss_one (ps_ret (pe_op op_cat (pe_op op_cat (pe_slice (sllK (K := K) rfl) (pv 0) po_none (po_some (pv 3))) (pe_lst (pa_cons (pe_tup (pa_cons (pv 4) (pa_cons (pv 8) pa_nil))) pa_nil))) (pe_slice (sllK (K := K) rfl) (pv 0) (po_some (pe_op op_add (pv 3) pe_int)) po_none)))))))))), ?_⟩
    obtain ⟨l, ys, rfl, hl, _, hp⟩ := id hv
    have hll : SqL K H l ys := .of hl
    have hpl := pLen hp
    have g1 := hg.lo
    have g4 := hg.hi
    walk_at "h"
    refine go_I (by omega) ?_
    obtain ⟨n, hn1, en⟩ := mod_nat (c := c) (n := ys.length) (by omega)
    rw [en]
    walk_at "h"
    obtain ⟨x, hx⟩ : ∃ x, ys[n]? = some x := ⟨_, List.getElem?_eq_getElem hn1⟩
    obtain ⟨p, hp1, hvp⟩ := pAt hp hx
    have hgr := hg.rows p (List.mem_of_getElem? hp1)
    obtain ⟨t, l2, xs2, rfl, ht, hl2, _, hr2⟩ := id hvp
    have hll2 : SqL K H l2 xs2 := .of hl2
    have e2 := pLen hr2
    have e60 := hgr.hi
    refine go_ixL hll (atI_nat hx) ?_
    walk_at "h"
    refine ⟨_, rfl, by omega, by omega, ?_⟩
    intro D hD
    have hnat : ((xs2.length : Int)).toNat = xs2.length := by omega
    rw [hnat]
    refine lc_gen (Itr 0 xs2.length) (List.range xs2.length) (asksAt p.2) (fun y k _ => y = .int (k : Nat)) (fun _ _ _ _ _ _ _ r => r) (by rw [List.length_range]; omega) hD (fun i H h s => by rw [List.length_range] at h; exact h) (fun H s => by rw [List.length_range]; exact Nat.le_refl _) ?_ ?_
    · rintro i x k H1 H2 hk s1 ⟨rfl, rfl⟩ NY NN ny nn
      have hi : i < xs2.length := by
        have := (List.getElem?_eq_some_iff.mp hk).1
        rw [List.length_range] at this
        exact this
      have ek : k = i := by
        rw [List.getElem?_range hi] at hk
        exact (Option.some.inj hk).symm
      subst ek
      obtain ⟨y, hy⟩ : ∃ y, xs2[k]? = some y := ⟨_, List.getElem?_eq_getElem hi⟩
      obtain ⟨r, hrk, hro⟩ := pAt hr2 hy
      have hll3 := s1.seq hll2
      rw [Int.zero_add]
      walk_at "h"
      refine ⟨rfl, ?_⟩
      walk_at "h"
      refine go_ixL hll3 (atI_nat hy) ?_
      walk_at "h"
      refine ⟨y, r, rfl, hro.same s1, fun pA H3 s3 hA => ?_⟩
      walk_at "h"
      refine ⟨sz_of (by simp), fun p4 hp4 => ?_⟩
      have s4 := Same.new (o := .lst []) hp4
      refine go_neD (W := All) (W' := All) (d := .list (r.asked.map PyData.str)) (e := .list []) (.lst (.of (s4 _ _ hA) trivial) dws_strs) (.lst (.of upd_same trivial) .nil) ((strs_shp (Tr.ask_ok (hgr.ok r (List.mem_of_getElem? hrk)))).ok (by decide)) (by decide +kernel) ?_
      rw [eqv_nil]
      have ea : (!(r.asked.map PyData.str).isEmpty) = asksAt p.2 k := by
        unfold asksAt
        rw [hrk]
        show _ = !r.asked.isEmpty
        cases r.asked <;> rfl
      rw [ea]
      refine ⟨_, rfl, ?_⟩
      refine ite2 (fun hi => ?_) (fun hi => ?_)
      · walk_at "h"
        exact ny _ _ hi (s3.trans s4) rfl
      · exact nn _ ((Bool.not_eq_true _).mp hi) (s3.trans s4)
    · intro H1 acc s1 hacc hpa
      obtain ⟨ks, hks⟩ : ∃ ks, ks = (List.range xs2.length).filter (asksAt p.2) := ⟨_, rfl⟩
      rw [← hks] at hpa
      have eacc : acc = ks.map fun k : Nat => V.int k := paired_eq hpa
      subst eacc
      have hkm : ∀ k ∈ ks, k < xs2.length ∧ asksAt p.2 k = true := fun k m => by
        rw [hks] at m
        obtain ⟨m1, m2⟩ := List.mem_filter.mp m
        exact ⟨List.mem_range.mp m1, m2⟩
      clear hks hpa
      walk_at "h"
      refine ⟨sz_of (by simp), fun p4 hp4 => ?_⟩
      have s4 := Same.new (o := .lst []) hp4
      have hdws : ∀ {W : Addr → Prop} {H : Hp} {ks : List Nat}, DWs W K H (ks.map fun k : Nat => V.int k) (ks.map fun k : Nat => PyData.int k) := fun {W H ks} => by
        induction ks with
        | nil => exact .nil
        | cons k ks ih => exact .cons (.int _) ih
      refine go_eqD (W := All) (W' := All) (d := .list (ks.map fun k : Nat => PyData.int k)) (e := .list []) (.lst (.of (s4 _ _ hacc) trivial) hdws) (.lst (.of upd_same trivial) .nil) (ints_shp.ok (by decide)) (by decide +kernel) ?_
      rw [eqv_nil]
      have s14 := s1.trans s4
      have hD4 := s4 _ _ hacc
      generalize upd H1 p4 (.lst []) = H4 at *
      cases ks with
      | nil =>
        walk_at "h"
        exact q _ _ R s14 (hv.same s14) hg
      | cons k0 ks0 =>
        have hDS : SqL K H4 D ((k0 :: ks0).map fun k : Nat => V.int k) := .of hD4
        have hlen : ((k0 :: ks0).map fun k : Nat => V.int k).length = (k0 :: ks0).length := List.length_map ..
        walk_at "h"
        refine go_I ⟨by decide, by decide⟩ ?_
        walk_at "h"
        refine go_I (by rw [hlen]; simp) ?_
        rw [hlen]
        obtain ⟨m, hm, em⟩ := mod_nat (c := c / 5) (n := (k0 :: ks0).length) (by simp)
        rw [em]
        obtain ⟨k, hk⟩ : ∃ k, (k0 :: ks0)[m]? = some k := ⟨_, List.getElem?_eq_getElem hm⟩
        refine go_ixL hDS (atI_nat (v := .int (k : Nat)) (by rw [List.getElem?_map, hk]; rfl)) ?_
        obtain ⟨hkl, hka⟩ := hkm k (List.mem_of_getElem? hk)
        obtain ⟨y, hy⟩ : ∃ y, xs2[k]? = some y := ⟨_, List.getElem?_eq_getElem hkl⟩
        obtain ⟨r, hrk, hro⟩ := pAt hr2 hy
        have hrn : r.nm = true := by
          unfold asksAt at hka
          rw [hrk] at hka
          have hka : (!r.asked.isEmpty) = true := hka
          cases r <;> first | rfl | cases hka
        have hll4 := s14.seq hll2
        walk_at "h"
        refine go_slL hll4 fun p5 hp5 => ?_
        rw [cut_to]
        have s5 := Same.new (o := .lst (xs2.take k)) hp5
        have hll5 := s5.seq hll4
        walk_at "h"
        refine go_ixL hll5 (atI_nat hy) ?_
        walk_at "h"
        refine go_I ⟨by decide, by decide⟩ ?_
        refine ⟨y, r, ln, zs, _, rfl, hro.same (s14.trans s5), hgr.ok r (List.mem_of_getElem? hrk), hrn, (s14.trans s5) _ _ hn, hw, hzl, fun v6 H6 r6 s6 hv6 ha6 => ?_⟩
        have hv6 : RowV All K H6 v6 r6 := hv6
        have s56 := s5.trans s6
        have h56 : H6 p5 = some (.lst (xs2.take k)) := s6 _ _ upd_same
        walk_at "h"
        refine ⟨sz_of (by simp), fun p7 hp7 => ?_⟩
        have s7 := Same.new (o := .lst [v6]) hp7
        refine go_cat (s7 _ _ h56) upd_same (sz_of (by rw [List.length_take]; simp; omega)) fun p8 hp8 => ?_
        have s8 := Same.new (o := .lst (xs2.take k ++ [v6])) hp8
        have s68 := s7.trans s8
        have hll8 := (s56.trans s68).seq hll4
        have h8 : upd (upd H6 p7 (.lst [v6])) p8 (.lst (xs2.take k ++ [v6])) p8 = some (.lst (xs2.take k ++ [v6])) := upd_same
        have hv8 := hv6.same s68
        have s18 := s14.trans (s56.trans s68)
        generalize upd (upd H6 p7 (.lst [v6])) p8 (.lst (xs2.take k ++ [v6])) = H8 at *
        walk_at "h"
        refine go_slL hll8 fun p9 hp9 => ?_
        have e1 : cutV xs2 (some ((k : Int) + 1)) none = xs2.drop (k + 1) := cut_from xs2 (k + 1)
        rw [e1]
        have s9 := Same.new (o := .lst (xs2.drop (k + 1))) hp9
        refine go_cat (s9 _ _ h8) upd_same (sz_of (by rw [List.length_append, List.length_take, List.length_drop]; simp; omega)) fun pT hpT => ?_
        have sT := Same.new (o := .lst (xs2.take k ++ [v6] ++ xs2.drop (k + 1))) hpT
        have s9T := s9.trans sT
        have hT : upd (upd H8 p9 (.lst (xs2.drop (k + 1)))) pT (.lst (xs2.take k ++ [v6] ++ xs2.drop (k + 1))) pT = some (.lst (xs2.take k ++ [v6] ++ xs2.drop (k + 1))) := upd_same
        have hv9 := hv8.same s9T
        have s1T := s18.trans s9T
        generalize upd (upd H8 p9 (.lst (xs2.drop (k + 1)))) pT (.lst (xs2.take k ++ [v6] ++ xs2.drop (k + 1))) = HT at *
        have hllT := s1T.seq hll
        walk_at "h"
        refine go_slL hllT fun q1 hq1 => ?_
        rw [cut_to]
        have t1 := Same.new (o := .lst (ys.take n)) hq1
        have hq1' : upd HT q1 (.lst (ys.take n)) q1 = some (.lst (ys.take n)) := upd_same
        generalize upd HT q1 (.lst (ys.take n)) = G1 at *
        walk_at "h"
        refine ⟨sz_of (by simp), fun tp htp => ?_⟩
        have t2 := Same.new (o := .tup [V.str p.1, .ref pT]) htp
        have htp' : upd G1 tp (.tup [V.str p.1, .ref pT]) tp = some (.tup [V.str p.1, .ref pT]) := upd_same
        generalize upd G1 tp (.tup [V.str p.1, .ref pT]) = G2 at *
        walk_at "h"
        refine ⟨sz_of (by simp), fun q3 hq3 => ?_⟩
        have t3 := Same.new (o := .lst [V.ref tp]) hq3
        refine go_cat ((t2.trans t3) _ _ hq1') upd_same (sz_of (by rw [List.length_take]; simp; omega)) fun q4 hq4 => ?_
        have t4 := Same.new (o := .lst (ys.take n ++ [V.ref tp])) hq4
        have t34 := t3.trans t4
        have hq4' : upd (upd G2 q3 (.lst [V.ref tp])) q4 (.lst (ys.take n ++ [V.ref tp])) q4 = some (.lst (ys.take n ++ [V.ref tp])) := upd_same
        generalize upd (upd G2 q3 (.lst [V.ref tp])) q4 (.lst (ys.take n ++ [V.ref tp])) = G4 at *
        have t14 := t1.trans (t2.trans t34)
        have hllG := t14.seq hllT
        walk_at "h"
        refine go_slL hllG fun q5 hq5 => ?_
        have e3 : cutV ys (some ((n : Int) + 1)) none = ys.drop (n + 1) := cut_from ys (n + 1)
        rw [e3]
        have t5 := Same.new (o := .lst (ys.drop (n + 1))) hq5
        refine go_cat (t5 _ _ hq4') upd_same (sz_of (by rw [List.length_append, List.length_take, List.length_drop]; simp; omega)) fun q6 hq6 => ?_
        have t6 := Same.new (o := .lst (ys.take n ++ [V.ref tp] ++ ys.drop (n + 1))) hq6
        have hq6' : upd (upd G4 q5 (.lst (ys.drop (n + 1)))) q6 (.lst (ys.take n ++ [V.ref tp] ++ ys.drop (n + 1))) q6 = some (.lst (ys.take n ++ [V.ref tp] ++ ys.drop (n + 1))) := upd_same
        have t56 := t5.trans t6
        generalize upd (upd G4 q5 (.lst (ys.drop (n + 1)))) q6 (.lst (ys.take n ++ [V.ref tp] ++ ys.drop (n + 1))) = G6 at *
        have tAll := t14.trans t56
        have sAll := s1T.trans tAll
        refine q (.ref q6) _ (R.take n ++ (p.1, p.2.take k ++ r6 :: p.2.drop (k + 1)) :: R.drop (n + 1)) sAll ⟨q6, _, rfl, hq6', trivial, ?_⟩ (hg.exch hp1 hrk hrn ha6)
        rw [List.append_assoc]
        refine pApp (pImp (pTake n hp) fun _ _ z => z.same sAll) (.cons ⟨tp, pT, xs2.take k ++ [v6] ++ xs2.drop (k + 1), rfl, (t34.trans t56) _ _ htp', tAll _ _ hT, trivial, ?_⟩ (pImp (pDrop (n + 1) hp) fun _ _ z => z.same sAll))
        rw [List.append_assoc]
        exact pApp (pImp (pTake k hr2) fun _ _ z => z.same sAll) (.cons (hv9.same tAll) (pImp (pDrop (k + 1) hr2) fun _ _ z => z.same sAll))
end
end Fj
set_option maxHeartbeats 4000000
/-! the built program is good -/
namespace Fj
open PySem PySem.Spec PyProof.Rows L2
open C8 (Met Mak InsC pe_mt0 pe_mk)
structure GoodC (bs : List Bn) : Prop where
  lo : 1 ≤ bs.length
  hi : bs.length ≤ 26
  ok : ∀ b ∈ bs, b.ok
  ch : Chain bs
  la : ∀ b, bs.getLast? = some b → goesK b.kind = false
theorem GoodB.c {bs : List Bn} (g : GoodB bs) : GoodC bs := ⟨g.lo, Nat.le_trans g.hi (by decide), g.ok, g.ch, g.la⟩
theorem GoodB.pre {bs : List Bn} (g : GoodB bs) : GoodC (⟨"say", 0, 0, 0⟩ :: ⟨"stop", 0, 0, 0⟩ :: bs) := by
  refine ⟨by simp, by have := g.hi; simp only [List.length_cons]; omega, fun b m => ?_, fun i b c hb hc hg => ?_, fun b hb => ?_⟩
  · rcases List.mem_cons.mp m with rfl | m
    · exact ⟨by decide +kernel, ⟨by decide, by decide⟩, ⟨by decide, by decide⟩, ⟨by decide, by decide⟩⟩
    · rcases List.mem_cons.mp m with rfl | m
      · exact ⟨by decide +kernel, ⟨by decide, by decide⟩, ⟨by decide, by decide⟩, ⟨by decide, by decide⟩⟩
      · exact g.ok b m
  · match i with
    | 0 =>
      have hc := Option.some.inj hc
      subst hc
      decide +kernel
    | 1 =>
      have hb := Option.some.inj hb
      subst hb
      exact absurd hg (by decide +kernel)
    | i + 2 => exact g.ch i b c hb hc hg
  · have e : (⟨"say", 0, 0, 0⟩ :: ⟨"stop", 0, 0, 0⟩ :: bs : List Bn).getLast? = bs.getLast? := by
      have := g.lo
      cases bs with
      | nil => exact absurd this (by decide)
      | cons x xs => rw [List.getLast?_cons_cons, List.getLast?_cons_cons]
    rw [e] at hb
    exact g.la b hb
/-- the rows that come of bones -/
def Blt (p : Nat) : Nat → List Bn → Rows → Prop
  | _, [], rows => rows = []
  | k, b :: bs, rows => ∃ s r rest, rows = .mark (nameS p k) s :: r :: rest ∧ Fits b.kind r ∧ Blt p (k + 1) bs rest
theorem Blt.snoc {p : Nat} {b : Bn} {r : Tr} {s : Bool} (f : Fits b.kind r) : ∀ {k : Nat} {bs : List Bn} {rows : Rows}, Blt p k bs rows → Blt p k (bs ++ [b]) (rows ++ [.mark (nameS p (k + bs.length)) s, r])
  | k, [], rows, h => by
    have h : rows = [] := h
    subst h
    exact ⟨s, r, [], rfl, f, rfl⟩
  | k, x :: bs, rows, h => by
    obtain ⟨s', r', rest, rfl, f', h⟩ := h
    refine ⟨s', r', rest ++ [.mark (nameS p (k + 1 + bs.length)) s, r], ?_, f', Blt.snoc f h⟩
    show _ :: _ :: (rest ++ [.mark (nameS p (k + (bs.length + 1))) s, r]) = _
    rw [show k + (bs.length + 1) = k + 1 + bs.length by omega]
def endsAll : Rows → Bool
  | [] => true
  | r :: t => (if r.nm then (!r.goes || ((bareR t).head?).any Tr.code) else ((bareR t).head?).isSome) && endsAll t
theorem endsAll_at : ∀ {rows : Rows}, endsAll rows = true → ∀ i, i < rows.length → endsW rows i = true
  | [], _, i, h => absurd h (by simp)
  | r :: t, h, 0, _ => by
    have h := (Bool.and_eq_true_iff.mp (show ((if r.nm then (!r.goes || ((bareR t).head?).any Tr.code) else ((bareR t).head?).isSome) && endsAll t) = true from h)).1
    rw [endsW_eq]
    exact h
  | r :: t, h, i + 1, hi => by
    have h := (Bool.and_eq_true_iff.mp (show ((if r.nm then (!r.goes || ((bareR t).head?).any Tr.code) else ((bareR t).head?).isSome) && endsAll t) = true from h)).2
    have ih := endsAll_at h i (by simpa using hi)
    rw [endsW_eq] at ih ⊢
    exact ih
theorem Chain.tail {b : Bn} {bs : List Bn} (h : Chain (b :: bs)) : Chain bs := fun i x y hx hy => h (i + 1) x y hx hy
theorem Blt.bare {p : Nat} : ∀ {k : Nat} {bs : List Bn} {rows : Rows}, Blt p k bs rows → (bareR rows).length = bs.length ∧ rows.length = 2 * bs.length ∧ (rows.filter fun r => !r.nm).length = bs.length ∧ ∀ b, bs.head? = some b → ∃ r, (bareR rows).head? = some r ∧ Fits b.kind r
  | k, [], rows, h => by
    have h : rows = [] := h
    subst h
    exact ⟨rfl, rfl, rfl, fun b h => by cases h⟩
  | k, x :: bs, rows, h => by
    obtain ⟨s, r, rest, rfl, f, h⟩ := h
    obtain ⟨h1, h2, h3, _⟩ := Blt.bare h
    have e : bareR (.mark (nameS p k) s :: r :: rest) = r :: bareR rest := by
      show bareR (r :: rest) = _
      unfold bareR
      rw [List.filter_cons_of_pos f.nm]
    have e2 : ((.mark (nameS p k) s :: r :: rest : Rows).filter fun r => !r.nm) = .mark (nameS p k) s :: (rest.filter fun r => !r.nm) := by
      show _ :: ((r :: rest).filter fun r => !r.nm) = _
      rw [List.filter_cons_of_neg (by rw [f.nm]; decide)]
    refine ⟨by rw [e, List.length_cons, List.length_cons, h1], by rw [List.length_cons, List.length_cons, List.length_cons, h2]; omega, by rw [e2, List.length_cons, List.length_cons, h3], fun b hb => ⟨r, by rw [e]; rfl, ?_⟩⟩
    have hb := Option.some.inj hb
    subst hb
    exact f
theorem Blt.ends {p : Nat} : ∀ {k : Nat} {bs : List Bn} {rows : Rows}, Blt p k bs rows → Chain bs → (∀ b, bs.getLast? = some b → goesK b.kind = false) → endsAll rows = true
  | k, [], rows, h, _, _ => by
    have h : rows = [] := h
    subst h
    rfl
  | k, x :: bs, rows, h, hc, hl => by
    obtain ⟨s, r, rest, rfl, f, h⟩ := h
    have ih := Blt.ends h hc.tail fun b hb => by
      cases bs with
      | nil => cases hb
      | cons y ys => exact hl b (by rw [List.getLast?_cons_cons]; exact hb)
    obtain ⟨_, _, _, hh⟩ := Blt.bare h
    have e : bareR (r :: rest) = r :: bareR rest := by unfold bareR; rw [List.filter_cons_of_pos f.nm]
    show (((bareR (r :: rest)).head?).isSome && ((if r.nm then (!r.goes || ((bareR rest).head?).any Tr.code) else _) && endsAll rest)) = true
    rw [e, f.nm, ih]
    show ((!r.goes || ((bareR rest).head?).any Tr.code) && true) = true
    rw [Bool.and_true, f.g]
    cases hg : goesK x.kind with
    | false => rfl
    | true =>
      cases bs with
      | nil => exact absurd (hl x rfl) (by rw [hg]; decide)
      | cons y ys =>
        obtain ⟨r2, h2, f2⟩ := hh y rfl
        have hd := hc 0 x y rfl rfl hg
        rw [h2]
        show (!true || r2.code) = true
        unfold Tr.code
        rw [f2.nm, f2.d, hd]
        rfl
theorem Blt.oks {p : Nat} (hp : p < 4) : ∀ {k : Nat} {bs : List Bn} {rows : Rows}, Blt p k bs rows → k + bs.length ≤ 30 → ∀ r ∈ rows, r.ok
  | k, [], rows, h, _, r, m => by
    have h : rows = [] := h
    subst h
    cases m
  | k, x :: bs, rows, h, hk, r, m => by
    obtain ⟨s, r', rest, rfl, f, h⟩ := h
    rw [List.length_cons] at hk
    rcases List.mem_cons.mp m with rfl | m
    · exact nameS_w hp (by omega)
    · rcases List.mem_cons.mp m with rfl | m
      · exact f.ok
      · exact Blt.oks hp h (by omega) r m
theorem Blt.good {p : Nat} {bs : List Bn} {rows : Rows} (hp : p < 4) (h : Blt p 0 bs rows) (g : GoodC bs) : GoodR rows := by
  obtain ⟨h1, h2, h3, _⟩ := h.bare
  have l := g.lo
  have hi := g.hi
  exact ⟨h.oks hp (by omega), by omega, by omega, by omega, by omega, endsAll_at (h.ends g.ch g.la)⟩
theorem Blt.names {p : Nat} {part : Str} : ∀ {k j : Nat} {bs : List Bn} {rows : Rows}, Blt p k bs rows → ∀ e ∈ ents part j rows, ∃ i, k ≤ i ∧ i < k + bs.length ∧ e.name = nameS p i
  | k, j, [], rows, h, e, m => by
    have h : rows = [] := h
    subst h
    cases m
  | k, j, x :: bs, rows, h, e, m => by
    obtain ⟨s, r', rest, rfl, f, h⟩ := h
    have m : e ∈ _ :: ents part j (r' :: rest) := m
    rw [ents_cons_nm f.nm] at m
    rcases List.mem_cons.mp m with rfl | m
    · exact ⟨k, Nat.le_refl _, by rw [List.length_cons]; omega, rfl⟩
    · obtain ⟨i, h1, h2, h3⟩ := Blt.names h e m
      exact ⟨i, by omega, by rw [List.length_cons]; omega, h3⟩
theorem Blt.nodup {p : Nat} {part : Str} (hp : p < 4) : ∀ {k j : Nat} {bs : List Bn} {rows : Rows}, Blt p k bs rows → k + bs.length ≤ 30 → ((ents part j rows).map Ent.name).Nodup
  | k, j, [], rows, h, _ => by
    have h : rows = [] := h
    subst h
    exact List.nodup_nil
  | k, j, x :: bs, rows, h, hk => by
    obtain ⟨s, r', rest, rfl, f, h⟩ := h
    rw [List.length_cons] at hk
    show (Ent.name _ :: (ents part j (r' :: rest)).map Ent.name).Nodup
    rw [ents_cons_nm f.nm, List.nodup_cons]
    refine ⟨fun m => ?_, Blt.nodup hp h (by omega)⟩
    obtain ⟨e, me, he⟩ := List.mem_map.mp m
    obtain ⟨i, h1, h2, h3⟩ := Blt.names h e me
    rw [h3] at he
    have := (nameS_inj hp (by omega) hp (by omega) he).2
    omega
def pname (p : Nat) : Str := sgn p ++ "part"
theorem pname_w {p : Nat} (h : p < 4) : IsW (pname p) := by
  have : ∀ p : Fin 4, IsW (pname p.1) := by decide +kernel
  exact this ⟨p, h⟩
theorem pname_inj {p q : Nat} (h : p < 4) (h' : q < 4) (e : pname p = pname q) : p = q := by
  have : ∀ p q : Fin 4, pname p.1 = pname q.1 → p.1 = q.1 := by decide +kernel
  exact this ⟨p, h⟩ ⟨q, h'⟩ e
/-- the program that comes of bones -/
def PB : Nat → List (List Bn) → Prg → Prop
  | _, [], R => R = []
  | p, bs :: t, R => ∃ rows rest, R = (pname p, rows) :: rest ∧ Blt p 0 bs rows ∧ PB (p + 1) t rest
theorem PB.snoc {bs : List Bn} {rows : Rows} : ∀ {p : Nat} {bss : List (List Bn)} {R : Prg}, PB p bss R → Blt (p + bss.length) 0 bs rows → PB p (bss ++ [bs]) (R ++ [(pname (p + bss.length), rows)])
  | p, [], R, h, hb => by
    have h : R = [] := h
    subst h
    exact ⟨rows, [], rfl, hb, rfl⟩
  | p, x :: bss, R, h, hb => by
    obtain ⟨rows', rest, rfl, hb', h⟩ := h
    rw [List.length_cons] at hb ⊢
    rw [show p + (bss.length + 1) = p + 1 + bss.length by omega] at hb ⊢
    exact ⟨rows', rest ++ [(pname (p + 1 + bss.length), rows)], rfl, hb', PB.snoc h hb⟩
theorem PB.mem : ∀ {p : Nat} {bss : List (List Bn)} {R : Prg}, PB p bss R → R.length = bss.length ∧ ∀ q ∈ R, ∃ i bs, p ≤ i ∧ i < p + bss.length ∧ bs ∈ bss ∧ q.1 = pname i ∧ Blt i 0 bs q.2
  | p, [], R, h => by
    have h : R = [] := h
    subst h
    exact ⟨rfl, fun q m => by cases m⟩
  | p, x :: bss, R, h => by
    obtain ⟨rows, rest, rfl, hb, h⟩ := h
    obtain ⟨h1, h2⟩ := PB.mem h
    refine ⟨by rw [List.length_cons, List.length_cons, h1], fun q m => ?_⟩
    rcases List.mem_cons.mp m with rfl | m
    · exact ⟨p, x, Nat.le_refl _, by rw [List.length_cons]; omega, List.mem_cons_self, rfl, hb⟩
    · obtain ⟨i, bs, a, b, c, d, e⟩ := h2 q m
      exact ⟨i, bs, by omega, by rw [List.length_cons]; omega, List.mem_cons_of_mem _ c, d, e⟩
theorem PB.nd : ∀ {p : Nat} {bss : List (List Bn)} {R : Prg}, PB p bss R → p + bss.length ≤ 4 → (∀ bs ∈ bss, GoodC bs) → (R.map Prod.fst).Nodup ∧ (namesP R).Nodup ∧ ∀ z ∈ namesP R, ∃ i k, p ≤ i ∧ i < p + bss.length ∧ k < 30 ∧ z = nameS i k
  | p, [], R, h, _, _ => by
    have h : R = [] := h
    subst h
    exact ⟨List.nodup_nil, List.nodup_nil, fun z m => by cases m⟩
  | p, x :: bss, R, h, hp, hg => by
    obtain ⟨rows, rest, rfl, hb, h⟩ := h
    rw [List.length_cons] at hp
    obtain ⟨h1, h2, h3⟩ := PB.nd h (by omega) fun bs m => hg bs (List.mem_cons_of_mem _ m)
    have gx := hg x List.mem_cons_self
    have gh := gx.hi
    refine ⟨?_, ?_, ?_⟩
    · rw [List.map_cons, List.nodup_cons]
      refine ⟨fun m => ?_, h1⟩
      obtain ⟨q, mq, eq⟩ := List.mem_map.mp m
      obtain ⟨i, bs, a, b, _, d, _⟩ := (PB.mem h).2 q mq
      have e : pname i = pname p := by rw [← d]; exact eq
      have := pname_inj (by omega) (by omega) e
      omega
    · show ((ents (pname p) 0 rows ++ entsP rest).map Ent.name).Nodup
      rw [List.map_append, List.nodup_append]
      refine ⟨hb.nodup (by omega) (by omega), h2, fun z hz y hy e => ?_⟩
      obtain ⟨en, men, rfl⟩ := List.mem_map.mp hz
      obtain ⟨k, k1, k2, k3⟩ := hb.names en men
      obtain ⟨i, k', a, b, c, d⟩ := h3 y hy
      rw [k3, d] at e
      have := (nameS_inj (by omega) (by omega) (by omega) c e).1
      omega
    · intro z hz
      have hz : z ∈ (ents (pname p) 0 rows ++ entsP rest).map Ent.name := hz
      rw [List.map_append] at hz
      rcases List.mem_append.mp hz with hz | hz
      · obtain ⟨en, men, rfl⟩ := List.mem_map.mp hz
        obtain ⟨k, k1, k2, k3⟩ := hb.names en men
        exact ⟨p, k, Nat.le_refl _, by rw [List.length_cons]; omega, by omega, k3⟩
      · obtain ⟨i, k', a, b, c, d⟩ := h3 z hz
        exact ⟨i, k', by omega, by rw [List.length_cons]; omega, c, d⟩
theorem PB.good {bss : List (List Bn)} {R : Prg} (h : PB 0 bss R) (l1 : 1 ≤ bss.length) (l4 : bss.length ≤ 4) (hg : ∀ bs ∈ bss, GoodC bs) : Good R := by
  obtain ⟨h1, h2⟩ := h.mem
  obtain ⟨n1, n2, _⟩ := h.nd (by omega) hg
  refine ⟨by omega, by omega, n1, fun q m => ?_, fun q m => ?_, n2⟩
  · obtain ⟨i, bs, a, b, _, d, _⟩ := h2 q m
    rw [d]
    exact pname_w (by omega)
  · obtain ⟨i, bs, a, b, c, d, e⟩ := h2 q m
    exact e.good (by omega) (hg bs c)
end Fj
set_option maxHeartbeats 4000000
/-! _law_program -/
namespace Fj
open PySem PySem.Spec PyProof.Rows L2
open C8 (Met Mak InsC pe_mt0 pe_mk)
section
variable {P : Program} {w : World} {K : PySem.W.Frag} {mg : Str → Option Value} {base : Heap}
/-- the bones of a part, their list not D -/
def BsV (D : Addr) (H : Hp) (y : V) (bs : List Bn) : Prop := ∃ l xs, y = .ref l ∧ l ≠ D ∧ H l = some (.lst xs) ∧ Paired (BoneV H) xs bs
theorem BsV.same {D : Addr} {H H' : Hp} {y : V} {bs : List Bn} (h : BsV D H y bs) (s : Same H H') : BsV D H' y bs := by
  obtain ⟨l, xs, e, n, hl, hp⟩ := h
  exact ⟨l, xs, e, n, s _ _ hl, pImp hp fun _ _ z => z.same s⟩
theorem BsV.but {D : Addr} {H H' : Hp} {acc : List V} {y : V} {bs : List Bn} (hD : H D = some (.lst acc)) (b : But D H H') (h : BsV D H y bs) : BsV D H' y bs := by
  obtain ⟨l, xs, e, n, hl, hp⟩ := h
  exact ⟨l, xs, e, n, b _ _ n hl, pImp hp fun _ _ z => z.but hD b⟩
def encB (bs : List Bn) : PyData := .list (bs.map Bn.d)
theorem BsV.dw {D : Addr} {H : Hp} {y : V} {bs : List Bn} (h : BsV D H y bs) : DW All K H y (encB bs) := by
  obtain ⟨l, xs, rfl, n, hl, hp⟩ := h
  exact .lst (.of hl trivial) (dws_of_paired (enc := Bn.d) (fun _ _ z => z.dw) hp)
theorem encs_shp {bss : List (List Bn)} (h : ∀ bs ∈ bss, ∀ b ∈ bs, b.ok) : Shp 3 (.list (bss.map encB)) := by
  apply Shp.lst
  intro d m
  obtain ⟨bs, hb, rfl⟩ := List.mem_map.mp m
  exact bones_shp (h bs hb)
theorem choose_bs {D : Addr} {H : Hp} {cs : List Int} : ∀ {acc : List V}, Paired (fun y (_ : Int) => ∃ bs, BsV D H y bs ∧ GoodB bs) acc cs → ∃ bss, Paired (BsV D H) acc bss ∧ bss.length = cs.length ∧ ∀ bs ∈ bss, GoodB bs := by
  induction cs with
  | nil => intro acc h; cases h; exact ⟨[], .nil, rfl, fun _ m => (nomatch m)⟩
  | cons c cs ih =>
    intro acc h
    cases h with
    | cons r t =>
      obtain ⟨bs, h1, h2⟩ := r
      obtain ⟨bss, p, l, g⟩ := ih t
      refine ⟨bs :: bss, .cons h1 p, by rw [List.length_cons, List.length_cons, l], fun x m => ?_⟩
      rcases List.mem_cons.mp m with rfl | m
      · exact h2
      · exact g x m
theorem go_disp {σ : L2.St} {H : Hp} {Q : VK} {trs : List (TE × TE)} (q : ∀ p, H p = none → tPairs trs σ (upd H p (.dK [])) fun ps H2 => H2 p = some (.dK []) ∧ ∃ kvs : List (Key × V), ps = kvs.map (fun kv => (kV kv.1, kv.2)) ∧ kvs.length ≤ 15 ∧ Q (.ref p) (upd H2 p (.dK (mergeK [] kvs)))) : tDisp trs σ H Q := q
theorem go_pairs {σ : L2.St} {H : Hp} {Q : List (V × V) → Hp → Prop} {tk tv : TE} {r : List (TE × TE)} (q : tk σ H fun x H1 => tv σ H1 fun y H2 => tPairs r σ H2 fun ps H3 => Q ((x, y) :: ps) H3) : tPairs ((tk, tv) :: r) σ H Q := q
theorem go_pairs0 {σ : L2.St} {H : Hp} {Q : List (V × V) → Hp → Prop} (q : Q [] H) : tPairs [] σ H Q := q
theorem data_two : ∀ k ∈ kindsL, dataK k = true → k = "numbers" ∨ k = "table" := by decide +kernel
theorem go_cut {t u : TS} {D : Ends} {σ : L2.St} {H : Hp} (Mid : L2.St → Hp → Prop) (h1 : t { D with nx := Mid } σ H) (h2 : ∀ σ' H', Mid σ' H' → u D σ' H') : C8.tCut t u D σ H := ⟨Mid, h1, h2⟩
theorem go_gSub {σ : L2.St} {H : Hp} {v : V} {QS : L2.St → Hp → Prop} {to ti : TE} {t : TSet} (q : to σ H fun o H1 => ti σ H1 fun i H2 => t o i v H2 fun H3 => QS σ H3) : gSub to ti t v σ H QS := q
def hasCode (bss : List (List Bn)) : Prop := ∃ bs ∈ bss, noCode bs = false
theorem pname_at {H : Hp} {Q : VK} {i : Nat} (h : i < 4) (q : Q (.str (sgn i)) H) : rIxS (.str "abcdefghijkl") (.int i) H Q := by
  refine go_ixS (c := small.cps.toList.getD i 0) (by decide) (atI_nat ?_) q
  have : ∀ i : Fin 4, (Str.ofString "abcdefghijkl").cps.toList[i.1]? = some (small.cps.toList.getD i.1 0) := by decide +kernel
  exact this ⟨i, h⟩
/-- the dict of names -/
def NmD (N ln lt lc : Addr) : HO := .dK [(.inr "numbers", .ref ln), (.inr "table", .ref lt), (.inr "code", .ref lc)]
structure NmV (N ln lt lc : Addr) (zn zt zc : List Str) (H : Hp) : Prop where
  d : H N = some (NmD N ln lt lc)
  n : H ln = some (.lst (zn.map V.str))
  t : H lt = some (.lst (zt.map V.str))
  c : H lc = some (.lst (zc.map V.str))
  wn : ∀ z ∈ zn, IsW z
  wt : ∀ z ∈ zt, IsW z
  wc : ∀ z ∈ zc, IsW z
theorem NmV.same {N ln lt lc : Addr} {zn zt zc : List Str} {H H' : Hp} (h : NmV N ln lt lc zn zt zc H) (s : Same H H') : NmV N ln lt lc zn zt zc H' := ⟨s _ _ h.d, s _ _ h.n, s _ _ h.t, s _ _ h.c, h.wn, h.wt, h.wc⟩
abbrev slaw_program : Stmt := top 78
abbrev Nlaw_program : List Str := ["_law_cells", "_law_most", "_law_bones", "_law_rows", "_law_names", "_law_p", "_law_k", "_law_row", "_law_kind", "_law_found", "_law_told_here", "_law_cell"]
theorem sclaw_program : FnScope Nlaw_program ["_law_cells", "_law_most"] (defScope slaw_program) := ⟨rfl, rfl, rfl, by decide +kernel, rfl, by decide +kernel, by decide +kernel⟩
def spProg (K : PySem.W.Frag) : Sp := fun vs H Q _ => ∃ (a : Addr) (cs : List Int), vs = [.ref a, .int 11] ∧ H a = some (.lst (cs.map V.int)) ∧ 1 ≤ cs.length ∧ cs.length ≤ 4 ∧ ∀ t H' v u R, Same H H' → SqT K H' t [v, u] → ProgV All K H' v R → Good R → Q (.ref t) H'
set_option maxHeartbeats 40000000 in
theorem ok_law_program (F : FnAt K mg "_law_program" slaw_program ["_law_cells", "_law_most"]) (T : Txt K mg) (G_law_skeleton : Cal P w K mg base CX0 3 "_law_skeleton" ["_law_cell", "_law_most"] (spSkel K)) (G_law_no_code : Cal P w K mg base CX0 1 "_law_no_code" ["_law_rows"] spNoCode) (G_law_name : Cal P w K mg base CX0 1 "_law_name" ["_law_p", "_law_k"] spName)
    (G_law_filled : Cal P w K mg base CX0 2 "_law_filled" ["_law_row", "_law_code", "_law_numbers", "_law_tables"] (spFilled K)) : Cal P w K mg base CX0 4 "_law_program" ["_law_cells", "_law_most"] (spProg K) := by
  refine cal_mk F sclaw_program (fun vs H Q E h => ?_) (fun f cdv A outer s H vs Q E hr h => ?_)
  · obtain ⟨a, cs, rfl, _⟩ := h
    rfl
  · obtain ⟨a, cs, rfl, ha, l1, l4, q⟩ := h
    have hu := hu_of hr
    have nd := sclaw_program.nd
    refine ⟨_, (pss_cons (ps_setLc (i := 2) (own := [("_law_cell", 11)]) (g := gName 11) (tt := tYes) (by rfl) nd rfl rfl (sw_true rfl rfl rfl (by decide +kernel)) (pi_list (pv 0)) (blkOk_by (N := Nlaw_program) (sc := (defScope slaw_program)) (by decide +kernel)) (fun _ _ _ _ _ => (pg_name (i := 11) nd rfl (Or.inl rfl))) (fun _ _ _ _ _ => pts_nil) (fun _ _ _ _ _ => (pe_cal G_law_skeleton hr (by decide) rfl pass0 (pa_cons (pv 11) (pa_cons (pv 1) pa_nil)))))
      (C8.pss_cut (ps_if (pt_cmpR (eqdK (K := K) rfl hr.units) (pe_lc (own := [("_law_rows", 3)]) (g := gName 3) (by rfl) nd (pi_list (pv 2)) (blkOk_by (N := Nlaw_program) (sc := (defScope slaw_program)) (by decide +kernel)) (fun _ _ _ _ _ => (pg_name (i := 3) nd rfl (Or.inl rfl))) (fun _ _ _ _ _ => (pts_one (pt_val (pe_cal G_law_no_code hr (by decide) rfl pass0 (pa_cons (pv 3) pa_nil))))) (fun _ _ _ _ _ => (pv 3))) (pv 2) (nomark _)) (pss_one (ps_asg (pe_op op_cat (pe_lst (pa_cons (pe_tup (pa_cons pe_str (pa_cons pe_int (pa_cons pe_int (pa_cons pe_int pa_nil))))) (pa_cons (pe_tup (pa_cons pe_str (pa_cons pe_int (pa_cons pe_int (pa_cons pe_int pa_nil))))) pa_nil))) (pe_ix (ixlK (K := K) rfl) (pv 2) pe_int (fun _ _ => rfl))) (pg_sub (pv 2) pe_int set_list))) pss_nil)
      (pss_cons (ps_set (i := 4) nd rfl (Or.inl rfl) (pe_disp (pps_cons pe_str (pe_lst pa_nil) (pps_cons pe_str (pe_lst pa_nil) (pps_cons pe_str (pe_lst pa_nil) pps_nil))) (by rfl) (by rfl) (fun z => by cases z) (by decide)))
      (pss_cons (ps_for PassesOwn.never rfl (pi_enum (by rfl) T.n_enumerate (pa_cons (pv 2) pa_nil)) (pg_tup rfl (pgs_cons (pg_name (i := 5) nd rfl (Or.inl rfl)) (pgs_cons (pg_name (i := 3) nd rfl (Or.inl rfl)) pgs_nil))) (pss_one (ps_for PassesOwn.never rfl (pi_enum (by rfl) T.n_enumerate (pa_cons (pv 3) pa_nil)) (pg_tup rfl (pgs_cons (pg_name (i := 6) nd rfl (Or.inl rfl)) (pgs_cons (pg_name (i := 7) nd rfl (Or.inl rfl)) pgs_nil))) (pss_cons (ps_set (i := 8) nd rfl (Or.inl rfl) (pe_ix (ixtK (K := K) rfl) (pv 7) pe_int (fun _ _ => rfl)))
      (pss_cons (ps_if (pt_cmpR (notInK (K := K) rfl) (pv 8) (pe_tup (pa_cons pe_str (pa_cons pe_str pa_nil))) (by rfl)) (pss_one (ps_set (i := 8) nd rfl (Or.inl rfl) pe_str)) pss_nil)
      (pss_one (ps_expr (pe_bm PySem.F.plainAttrs_list PySem.F.slot_list_append PySem.F.type_list_append mt_append (pe_dget hu (pv 4) (pv 8) (fun _ _ => rfl)) (pa_cons (pe_cal G_law_name hr (by decide) rfl pass0 (pa_cons (pv 5) (pa_cons (pv 6) pa_nil))) pa_nil)))))))))
      (pss_cons (ps_set (i := 9) nd rfl (Or.inl rfl) (pe_lst pa_nil))
      (pss_cons (ps_for PassesOwn.never rfl (pi_enum (by rfl) T.n_enumerate (pa_cons (pv 2) pa_nil)) (pg_tup rfl (pgs_cons (pg_name (i := 5) nd rfl (Or.inl rfl)) (pgs_cons (pg_name (i := 3) nd rfl (Or.inl rfl)) pgs_nil))) (pss_cons (ps_set (i := 10) nd rfl (Or.inl rfl) (pe_lst pa_nil))
      (pss_cons (ps_for PassesOwn.never rfl (pi_enum (by rfl) T.n_enumerate (pa_cons (pv 3) pa_nil)) (pg_tup rfl (pgs_cons (pg_name (i := 6) nd rfl (Or.inl rfl)) (pgs_cons (pg_name (i := 7) nd rfl (Or.inl rfl)) pgs_nil))) (pss_cons (ps_expr (pe_bm PySem.F.plainAttrs_list PySem.F.slot_list_append PySem.F.type_list_append mt_append (pv 10) (pa_cons (pe_tup (pa_cons pe_str (pa_cons (pe_cal G_law_name hr (by decide) rfl pass0 (pa_cons (pv 5) (pa_cons (pv 6) pa_nil))) (pa_cons (pe_cmpR op_eq (pe_op op_mod (pe_ix (ixtK (K := K) rfl) (pv 7) pe_int (fun _ _ => rfl)) pe_int) pe_int (nomark _)) pa_nil)))) pa_nil)))
      (pss_one (ps_expr (pe_bm PySem.F.plainAttrs_list PySem.F.slot_list_append PySem.F.type_list_append mt_append (pv 10) (pa_cons (pe_cal G_law_filled hr (by decide) rfl pass0 (pa_cons (pv 7) (pa_cons (pe_dget hu (pv 4) pe_str (fun _ _ => rfl)) (pa_cons (pe_dget hu (pv 4) pe_str (fun _ _ => rfl)) (pa_cons (pe_dget hu (pv 4) pe_str (fun _ _ => rfl)) pa_nil))))) pa_nil))))))
      (pss_one (ps_expr (pe_bm PySem.F.plainAttrs_list PySem.F.slot_list_append PySem.F.type_list_append mt_append (pv 9) (pa_cons (pe_tup (pa_cons (pe_op op_addStr (pe_ix ix_str pe_str (pv 5) (fun _ _ => rfl)) pe_str) (pa_cons (pv 10) pa_nil))) pa_nil)))))))
      (pss_one (ps_ret (pe_tup (pa_cons (pv 9) (pa_cons (pe_dget hu (pv 4) pe_str (fun _ _ => rfl)) pa_nil))))))))))), ?_⟩
    have haS : SqL K H a (cs.map V.int) := .of ha
    walk_at "h"
    intro D hD
    refine lc_genL cs (fun _ => true) (fun y _ H => ∃ bs, BsV D H y bs ∧ GoodB bs) (fun y c H H' acc hDa b ⟨bs, r, g⟩ => ⟨bs, r.but hDa b, g⟩) haS (List.length_map ..) (by omega) hD ?_ ?_
    · intro i x c H1 hx hc s1 hacc NY NN ny nn
      rw [List.getElem?_map, hc] at hx
      have hx := Option.some.inj hx
      subst hx
      obtain ⟨accD, hacc⟩ := hacc
      walk_at "h"
      refine ⟨rfl, ?_⟩
      walk_at "h"
      exact ⟨c, rfl, fun p H' xs bs hp s' hl hb g => ny _ _ rfl s' ⟨bs, ⟨p, xs, rfl, fun e => (by rw [e, hacc] at hp; cases hp), hl, hb⟩, g⟩⟩
    · intro H1 acc s1 hacc hpa
      rw [List.filter_eq_self.mpr (fun _ _ => rfl)] at hpa
      obtain ⟨bss, hbs, hbl, hgb⟩ := choose_bs hpa
      walk_at "h"
      refine go_cut (fun σ' H' => ∃ (r3 x4 x5 x6 x7 x8 x9 x10 x11 : Option V) (ys : List V) (bss' : List (List Bn)), σ' = [some (.ref a), some (.int 11), some (.ref D), r3, x4, x5, x6, x7, x8, x9, x10, x11] ∧ Same H H' ∧ H' D = some (.lst ys) ∧ Paired (BsV D H') ys bss' ∧ bss'.length = cs.length ∧ (∀ bs ∈ bss', GoodC bs) ∧ hasCode bss') ?_ ?_
      · have haccS : SqL K H1 D acc := .of hacc
        walk_at "h"
        intro D5 hD5
        refine lc_genL bss noCode (fun y bs H => BsV D5 H y bs) (fun y c H H' acc hDa b r => r.but hDa b) haccS (pLen hbs) (by omega) hD5 ?_ ?_
        · intro i x bs H2 hx hb s2 _ NY NN ny nn
          obtain ⟨b', e, l, xs, rfl, n1, hl, hp⟩ := pAt hbs hx
          rw [hb] at e
          cases e
          have gb := hgb bs (List.mem_of_getElem? hb)
          have hl2 := s2 _ _ hl
          have hp2 : Paired (BoneV H2) xs bs := pImp hp fun _ _ z => z.same s2
          walk_at "h"
          refine ⟨rfl, ?_⟩
          walk_at "h"
          refine ⟨.ref l, bs, rfl, ⟨l, xs, rfl, hl2, hp2⟩, gb.ok, by have := gb.hi; omega, fun H3 s3 => ?_⟩
          refine ⟨_, rfl, ?_⟩
          refine ite2 (fun hi => ?_) (fun hi => ?_)
          · walk_at "h"
            exact ny _ _ hi s3 ⟨l, xs, rfl, fun e => (by rw [e, hD5] at hl; cases hl), s3 _ _ hl2, pImp hp2 fun _ _ z => z.same s3⟩
          · exact nn _ ((Bool.not_eq_true _).mp hi) s3
        · intro H2 acc2 s2 hacc2 hp2
          have hbs2 : Paired (BsV D H2) acc bss := pImp hbs fun _ _ z => z.same s2
          have hD2 := s2 _ _ hacc
          have hok : ∀ bs ∈ bss, ∀ b ∈ bs, b.ok := fun bs m => (hgb bs m).ok
          have hsh := encs_shp hok
          walk_at "h"
          refine go_eqD (W := All) (W' := All) (d := .list ((bss.filter noCode).map encB)) (e := .list (bss.map encB)) (.lst (.of hacc2 trivial) (dws_of_paired (enc := encB) (fun _ _ z => z.dw) hp2)) (.lst (.of hD2 trivial) (dws_of_paired (enc := encB) (fun _ _ z => z.dw) hbs2)) ((encs_shp fun bs m => hok bs (List.mem_filter.mp m).1).ok (by decide)) (hsh.ok (by decide)) ?_
          refine ⟨_, rfl, ?_⟩
          refine ite2 (fun hi => ?_) (fun hi => ?_)
          · cases hbs2 with
            | nil => exact absurd hbl (by simp; omega)
            | @cons y bs0 ys bss0 hy ht =>
              obtain ⟨l, xs, rfl, n1, hl, hp⟩ := hy
              have gb0 := hgb bs0 List.mem_cons_self
              walk_at "h"
              refine ⟨sz_of (by simp), fun t1 ht1 => ?_⟩
              have s3 := Same.new (o := .tup [V.str "say", .int 0, .int 0, .int 0]) ht1
              walk_at "h"
              refine ⟨sz_of (by simp), fun t2 ht2 => ?_⟩
              have s4 := Same.new (o := .tup [V.str "stop", .int 0, .int 0, .int 0]) ht2
              have ht1' := s4 _ _ (show upd H2 t1 (.tup [V.str "say", .int 0, .int 0, .int 0]) t1 = some _ from upd_same)
              have ht2' : upd (upd H2 t1 (.tup [V.str "say", .int 0, .int 0, .int 0])) t2 (.tup [V.str "stop", .int 0, .int 0, .int 0]) t2 = some _ := upd_same
              have s34 := s3.trans s4
              generalize upd (upd H2 t1 (.tup [V.str "say", .int 0, .int 0, .int 0])) t2 (.tup [V.str "stop", .int 0, .int 0, .int 0]) = H4 at *
              walk_at "h"
              refine ⟨sz_of (by simp), fun l5 hl5 => ?_⟩
              have s5 := Same.new (o := .lst [V.ref t1, .ref t2]) hl5
              have hD5' := (s34.trans s5) _ _ hD2
              walk_at "h"
              refine go_ixL (.of hD5') (atI_nat (j := 0) rfl) ?_
              refine go_cat upd_same ((s34.trans s5) _ _ hl) (sz_of (by have := pLen hp; have := gb0.hi; simp; omega)) fun pN hpN => ?_
              have s6 := Same.new (o := .lst ([V.ref t1, .ref t2] ++ xs)) hpN
              have s26 := s34.trans (s5.trans s6)
              have hD6 := s26 _ _ hD2
              have hpD : pN ≠ D := fun e => by rw [e, hD5'] at hpN; cases hpN
              refine go_gSub ?_
              walk_at "h"
              refine ⟨D, _, 0, 0, rfl, rfl, hD6, (by unfold ixN; rw [if_pos (by decide), if_pos (by rw [List.length_cons]; omega)]; rfl), ?_⟩
              have hN6 : upd (upd H4 l5 (.lst [V.ref t1, .ref t2])) pN (.lst ([V.ref t1, .ref t2] ++ xs)) pN = some (.lst ([V.ref t1, .ref t2] ++ xs)) := upd_same
              have b1 : BoneV (upd (upd H4 l5 (.lst [V.ref t1, .ref t2])) pN (.lst ([V.ref t1, .ref t2] ++ xs))) (.ref t1) ⟨"say", 0, 0, 0⟩ := ⟨t1, rfl, (s5.trans s6) _ _ ht1'⟩
              have b2 : BoneV (upd (upd H4 l5 (.lst [V.ref t1, .ref t2])) pN (.lst ([V.ref t1, .ref t2] ++ xs))) (.ref t2) ⟨"stop", 0, 0, 0⟩ := ⟨t2, rfl, (s5.trans s6) _ _ ht2'⟩
              have ht6 : Paired (BsV D (upd (upd H4 l5 (.lst [V.ref t1, .ref t2])) pN (.lst ([V.ref t1, .ref t2] ++ xs)))) ys bss0 := pImp ht fun _ _ z => z.same s26
              have hp6 : Paired (BoneV (upd (upd H4 l5 (.lst [V.ref t1, .ref t2])) pN (.lst ([V.ref t1, .ref t2] ++ xs)))) xs bs0 := pImp hp fun _ _ z => z.same s26
              generalize upd (upd H4 l5 (.lst [V.ref t1, .ref t2])) pN (.lst ([V.ref t1, .ref t2] ++ xs)) = H6 at *
              have hbut : But D H6 (upd H6 D (.lst (V.ref pN :: ys))) := But.upd
              refine ⟨_, _, _, _, _, _, _, _, _, V.ref pN :: ys, (⟨"say", 0, 0, 0⟩ :: ⟨"stop", 0, 0, 0⟩ :: bs0) :: bss0, rfl, ((s1.trans s2).trans s26).mut hD, upd_same, .cons ⟨pN, [V.ref t1, .ref t2] ++ xs, rfl, hpD, hbut _ _ hpD hN6, .cons (b1.but hD6 hbut) (.cons (b2.but hD6 hbut) (pImp hp6 fun _ _ z => z.but hD6 hbut))⟩ (pImp ht6 fun _ _ z => z.but hD6 hbut), hbl, fun bs m => ?_, ⟨_, List.mem_cons_self, rfl⟩⟩
              rcases List.mem_cons.mp m with rfl | m
              · exact gb0.pre
              · exact (hgb bs (List.mem_cons_of_mem _ m)).c
          · walk_at "h"
            refine ⟨_, _, _, _, _, _, _, _, _, acc, bss, rfl, s1.trans s2, hD2, hbs2, hbl, fun bs m => (hgb bs m).c, ?_⟩
            refine Classical.byContradiction fun hno => hi ?_
            have hall : bss.filter noCode = bss := List.filter_eq_self.mpr fun bs m => by
              cases hc : noCode bs with
              | true => rfl
              | false => exact absurd ⟨bs, m, hc⟩ hno
            rw [hall]
            exact eqv_self hsh
      · rintro σ H2 ⟨r3, x4, x5, x6, x7, x8, x9, x10, x11, ys, bss', rfl, s2, hD2, hbs2, hbl', hgc, hcode⟩
        clear hpa hbs hbl hgb hacc s1
        have hDS : SqL K H2 D ys := .of hD2
        have hyl := pLen hbs2
        walk_at "h"
        refine go_disp fun N hN => ?_
        refine go_pairs ?_
        walk_at "h"
        refine ⟨sz_of (by simp), fun ln hln => ?_⟩
        refine go_pairs ?_
        walk_at "h"
        refine ⟨sz_of (by simp), fun lt hlt => ?_⟩
        refine go_pairs ?_
        walk_at "h"
        refine ⟨sz_of (by simp), fun lc hlc => ?_⟩
        refine go_pairs0 ?_
        have hlnN : ln ≠ N := fun e => by rw [e, upd_same] at hln; cases hln
        have hltN : lt ≠ N := fun e => by rw [e, upd_ne hlnN.symm, upd_same] at hlt; cases hlt
        have hltn : lt ≠ ln := fun e => by rw [e, upd_same] at hlt; cases hlt
        have hlct : lc ≠ lt := fun e => by rw [e, upd_same] at hlc; cases hlc
        have hlcn : lc ≠ ln := fun e => by rw [e, upd_ne hltn.symm, upd_same] at hlc; cases hlc
        have hlcN : lc ≠ N := fun e => by rw [e, upd_ne hltN.symm, upd_ne hlnN.symm, upd_same] at hlc; cases hlc
        have h0n : H2 ln = none := by rw [upd_ne hlnN] at hln; exact hln
        have h0t : H2 lt = none := by rw [upd_ne hltn, upd_ne hltN] at hlt; exact hlt
        have h0c : H2 lc = none := by rw [upd_ne hlct, upd_ne hlcn, upd_ne hlcN] at hlc; exact hlc
        refine ⟨by rw [upd_ne hlcN.symm, upd_ne hltN.symm, upd_ne hlnN.symm]; exact upd_same, [(.inr "numbers", .ref ln), (.inr "table", .ref lt), (.inr "code", .ref lc)], rfl, by simp, ?_⟩
        rw [show mergeK [] [((.inr "numbers" : Key), V.ref ln), (.inr "table", .ref lt), (.inr "code", .ref lc)] = [(.inr "numbers", .ref ln), (.inr "table", .ref lt), (.inr "code", .ref lc)] from mergeK_new (by
          show [(Sum.inr "numbers" : Key), Sum.inr "table", Sum.inr "code"].Nodup
          decide +kernel)]
        have hnm : NmV N ln lt lc [] [] [] (upd (upd (upd (upd (upd H2 N (.dK [])) ln (.lst [])) lt (.lst [])) lc (.lst [])) N (.dK [(.inr "numbers", .ref ln), (.inr "table", .ref lt), (.inr "code", .ref lc)])) :=
          ⟨upd_same, by rw [upd_ne hlnN, upd_ne hlcn.symm, upd_ne hltn.symm]; exact upd_same, by rw [upd_ne hltN, upd_ne hlct.symm]; exact upd_same, by rw [upd_ne hlcN]; exact upd_same, fun _ m => (nomatch m), fun _ m => (nomatch m), fun _ m => (nomatch m)⟩
        have s3 : Same H2 (upd (upd (upd (upd (upd H2 N (.dK [])) ln (.lst [])) lt (.lst [])) lc (.lst [])) N (.dK [(.inr "numbers", .ref ln), (.inr "table", .ref lt), (.inr "code", .ref lc)])) := ((((Same.new hN).mut h0n).mut h0t).mut h0c).mut hN
        generalize upd (upd (upd (upd (upd H2 N (.dK [])) ln (.lst [])) lt (.lst [])) lc (.lst [])) N (.dK [(.inr "numbers", .ref ln), (.inr "table", .ref lt), (.inr "code", .ref lc)]) = H3 at *
        walk_at "h"
        refine ⟨D, ys, rfl, s3.seq hDS, ?_⟩
        -- the names
        refine for_enum (xs := ys) (fun i σ H4 => ∃ (r3 x5 x6 x7 x8 : Option V) (zn zt zc : List Str), σ = [some (.ref a), some (.int 11), some (.ref D), r3, some (.ref N), x5, x6, x7, x8, x9, x10, x11] ∧ Same H2 H4 ∧ NmV N ln lt lc zn zt zc H4 ∧ zn.length + zt.length + zc.length ≤ 26 * i ∧ ((∃ bs ∈ bss'.take i, noCode bs = false) → 1 ≤ zc.length))
          ⟨_, _, _, _, _, [], [], [], rfl, s3, hnm, by simp, fun ⟨bs, m, _⟩ => by rw [List.take_zero] at m; cases m⟩ ?_ ?_ ?_
        · rintro i σ H4 _ ⟨r3, x5, x6, x7, x8, zn, zt, zc, rfl, s4, _⟩
          exact s4.seq hDS
        · rintro i x σ H4 T4 hx ⟨r3, x5, x6, x7, x8, zn, zt, zc, rfl, s4, hnm4, hlen4, hcd4⟩ hT4
          obtain ⟨bs, hbi, l, xs, rfl, _, hl, hp⟩ := pAt hbs2 hx
          have hi4 : i < bss'.length := (List.getElem?_eq_some_iff.mp hbi).1
          have gb := hgc bs (List.mem_of_getElem? hbi)
          have gbh := gb.hi
          have s5 : Same H4 (upd H4 T4 (.tup [.int (i : Nat), .ref l])) := Same.new hT4
          have hT5 : SqT K (upd H4 T4 (.tup [.int (i : Nat), .ref l])) T4 [.int (i : Nat), .ref l] := .of upd_same
          have hnm5 := hnm4.same s5
          have s25 := s4.trans s5
          generalize upd H4 T4 (.tup [.int (i : Nat), .ref l]) = H5 at *
          have hlS : SqL K H5 l xs := .of (s25 _ _ hl)
          have hxl := pLen hp
          walk_at "h"
          refine ⟨l, xs, rfl, hlS, ?_⟩
          refine for_enum (xs := xs) (fun j σ H6 => ∃ (x6 x7 x8 : Option V) (zn zt zc : List Str), σ = [some (.ref a), some (.int 11), some (.ref D), some (.ref l), some (.ref N), some (.int (i : Nat)), x6, x7, x8, x9, x10, x11] ∧ Same H2 H6 ∧ NmV N ln lt lc zn zt zc H6 ∧ zn.length + zt.length + zc.length ≤ 26 * i + j ∧ (((∃ bs ∈ bss'.take i, noCode bs = false) ∨ ∃ b ∈ bs.take j, dataK b.kind = false) → 1 ≤ zc.length))
            ⟨_, _, _, zn, zt, zc, rfl, s25, hnm5, hlen4, fun h => h.elim hcd4 fun ⟨b, m, _⟩ => by rw [List.take_zero] at m; cases m⟩ ?_ ?_ ?_
          · rintro j σ H6 _ ⟨x6, x7, x8, zn, zt, zc, rfl, s6, _⟩
            exact .of (s6 _ _ hl)
          · rintro j y σ H6 T6 hy ⟨x6, x7, x8, zn, zt, zc, rfl, s6, hnm6, hlen6, hcd6⟩ hT6
            obtain ⟨b, hbj, hv⟩ := pAt hp hy
            have hj : j < bs.length := (List.getElem?_eq_some_iff.mp hbj).1
            have hok := gb.ok b (List.mem_of_getElem? hbj)
            have s7 : Same H6 (upd H6 T6 (.tup [.int (j : Nat), y])) := Same.new hT6
            have hT7 : SqT K (upd H6 T6 (.tup [.int (j : Nat), y])) T6 [.int (j : Nat), y] := .of upd_same
            have hnm7 := hnm6.same s7
            have s27 := s6.trans s7
            generalize upd H6 T6 (.tup [.int (j : Nat), y]) = H7 at *
            obtain ⟨tb, rfl, htb⟩ := hv.same s27
            have htb' := SqT.of (K := K) htb
            have hw : IsW (nameS i j) := nameS_w (by omega) (by omega)
            walk_at "h"
            refine ⟨sz_of (by simp), fun p8 hp8 => ?_⟩
            have s8 := Same.new (o := .tup [V.str "numbers", .str "table"]) hp8
            refine go_inS (.inr (.of upd_same)) rfl rfl ?_
            have hnm8 := hnm7.same s8
            have s28 := s27.trans s8
            generalize upd H7 p8 (.tup [V.str "numbers", .str "table"]) = H8 at *
            refine ⟨_, rfl, ?_⟩
            have taken : ∀ h : ((∃ bs ∈ bss'.take i, noCode bs = false) ∨ ∃ b ∈ bs.take (j + 1), dataK b.kind = false), ((∃ bs ∈ bss'.take i, noCode bs = false) ∨ ∃ b ∈ bs.take j, dataK b.kind = false) ∨ dataK b.kind = false := fun h => by
              rcases h with h | ⟨b', m, hd⟩
              · exact .inl (.inl h)
              · rw [take_snoc hbj] at m
                rcases List.mem_append.mp m with m | m
                · exact .inl (.inr ⟨b', m, hd⟩)
                · rw [List.mem_singleton.mp m] at hd; exact .inr hd
            refine ite2 (fun hi => ?_) (fun hi => ?_)
            · walk_at "h"
              refine ⟨N, _, rfl, DGet.k (k := .inr "code") hnm8.d, ?_⟩
              refine ⟨go_tyL (.of hnm8.c), ?_⟩
              walk_at "h"
              refine ⟨i, j, rfl, by omega, by omega, ?_⟩
              walk_at "h"
              refine go_append hnm8.c (sz_lt (by rw [List.length_map]; omega)) ?_
              refine ⟨_, _, _, zn, zt, zc ++ [nameS i j], rfl, s28.mut h0c, ⟨by rw [upd_ne hlcN.symm]; exact hnm8.d, by rw [upd_ne hlcn.symm]; exact hnm8.n, by rw [upd_ne hlct.symm]; exact hnm8.t, by rw [List.map_append]; exact upd_same, hnm8.wn, hnm8.wt, fun z m => ?_⟩, by rw [List.length_append, List.length_singleton]; omega, fun _ => by rw [List.length_append, List.length_singleton]; omega⟩
              rcases List.mem_append.mp m with m | m
              · exact hnm8.wc z m
              · rw [List.mem_singleton.mp m]; exact hw
            · have hdk : dataK b.kind = true := by
                have hi : ¬ (!dataK b.kind) = true := hi
                simpa using hi
              rcases data_two _ hok.1 hdk with ek | ek
              · rw [ek]
                walk_at "h"
                refine ⟨N, _, rfl, DGet.k (k := .inr "numbers") hnm8.d, ?_⟩
                refine ⟨go_tyL (.of hnm8.n), ?_⟩
                walk_at "h"
                refine ⟨i, j, rfl, by omega, by omega, ?_⟩
                walk_at "h"
                refine go_append hnm8.n (sz_lt (by rw [List.length_map]; omega)) ?_
                refine ⟨_, _, _, zn ++ [nameS i j], zt, zc, rfl, s28.mut h0n, ⟨by rw [upd_ne hlnN.symm]; exact hnm8.d, by rw [List.map_append]; exact upd_same, by rw [upd_ne hltn]; exact hnm8.t, by rw [upd_ne hlcn]; exact hnm8.c, fun z m => ?_, hnm8.wt, hnm8.wc⟩, by rw [List.length_append, List.length_singleton]; omega, fun h => (taken h).elim hcd6 fun z => by rw [hdk] at z; cases z⟩
                rcases List.mem_append.mp m with m | m
                · exact hnm8.wn z m
                · rw [List.mem_singleton.mp m]; exact hw
              · rw [ek]
                walk_at "h"
                refine ⟨N, _, rfl, DGet.k (k := .inr "table") hnm8.d, ?_⟩
                refine ⟨go_tyL (.of hnm8.t), ?_⟩
                walk_at "h"
                refine ⟨i, j, rfl, by omega, by omega, ?_⟩
                walk_at "h"
                refine go_append hnm8.t (sz_lt (by rw [List.length_map]; omega)) ?_
                refine ⟨_, _, _, zn, zt ++ [nameS i j], zc, rfl, s28.mut h0t, ⟨by rw [upd_ne hltN.symm]; exact hnm8.d, by rw [upd_ne hltn.symm]; exact hnm8.n, by rw [List.map_append]; exact upd_same, by rw [upd_ne hlct]; exact hnm8.c, hnm8.wn, fun z m => ?_, hnm8.wc⟩, by rw [List.length_append, List.length_singleton]; omega, fun h => (taken h).elim hcd6 fun z => by rw [hdk] at z; cases z⟩
                rcases List.mem_append.mp m with m | m
                · exact hnm8.wt z m
                · rw [List.mem_singleton.mp m]; exact hw
          · rintro σ H6 ⟨x6, x7, x8, zn, zt, zc, rfl, s6, hnm6, hlen6, hcd6⟩
            refine ⟨_, _, _, _, _, zn, zt, zc, rfl, s6, hnm6, by omega, fun ⟨bs', m, hc⟩ => ?_⟩
            rw [take_snoc hbi] at m
            rcases List.mem_append.mp m with m | m
            · exact hcd6 (.inl ⟨bs', m, hc⟩)
            · rw [List.mem_singleton.mp m] at hc
              refine hcd6 (.inr ?_)
              rw [hxl, List.take_of_length_le (Nat.le_refl _)]
              refine Classical.byContradiction fun hno => ?_
              have : noCode bs = true := List.all_eq_true.mpr fun b mb => by
                cases hd : dataK b.kind with
                | true => rfl
                | false => exact absurd ⟨b, mb, hd⟩ hno
              rw [this] at hc
              cases hc
        · rintro σ H4 ⟨r3, x5, x6, x7, x8, zn, zt, zc, rfl, s4, hnm4, hlen4, hcd4⟩
          rw [hyl, List.take_of_length_le (Nat.le_refl _)] at hcd4
          have hzc := hcd4 hcode
          clear hcd4
          walk_at "h"
          refine ⟨sz_of (by simp), fun F hF => ?_⟩
          have t1 : Same H4 (upd H4 F (.lst [])) := Same.new hF
          have hF1 : upd H4 F (.lst []) F = some (.lst []) := upd_same
          generalize upd H4 F (.lst []) = H5 at *
          have hDS5 := (s4.trans t1).seq hDS
          walk_at "h"
          refine ⟨D, ys, rfl, hDS5, ?_⟩
          refine for_enum (xs := ys) (fun i σ H6 => ∃ (r3 x5 x6 x7 x8 x10 : Option V) (acc : List V) (R : Prg), σ = [some (.ref a), some (.int 11), some (.ref D), r3, some (.ref N), x5, x6, x7, x8, some (.ref F), x10, x11] ∧ Same H4 H6 ∧ H6 F = some (.lst acc) ∧ Paired (PartV (fun a => a ≠ F) K H6) acc R ∧ PB 0 (bss'.take i) R)
            ⟨_, _, _, _, _, _, [], [], rfl, t1, hF1, .nil, rfl⟩ ?_ ?_ ?_
          · rintro i σ H6 _ ⟨r3, x5, x6, x7, x8, x10, acc, R, rfl, s6, _⟩
            exact (s4.trans s6).seq hDS
          · rintro i x σ H6 T6 hx ⟨r3, x5, x6, x7, x8, x10, acc, R, rfl, s6, hF6, hpR, hpb⟩ hT6
            obtain ⟨bs, hbi, l, xs, rfl, _, hl, hp⟩ := pAt hbs2 hx
            have hi4 : i < bss'.length := (List.getElem?_eq_some_iff.mp hbi).1
            have gb := hgc bs (List.mem_of_getElem? hbi)
            have gbh := gb.hi
            have s7 : Same H6 (upd H6 T6 (.tup [.int (i : Nat), .ref l])) := Same.new hT6
            have hT7 : SqT K (upd H6 T6 (.tup [.int (i : Nat), .ref l])) T6 [.int (i : Nat), .ref l] := .of upd_same
            have hF7 := s7 _ _ hF6
            have hpR7 : Paired (PartV (fun a => a ≠ F) K (upd H6 T6 (.tup [.int (i : Nat), .ref l]))) acc R := pImp hpR fun _ _ z => z.same s7
            have s47 := s6.trans s7
            generalize upd H6 T6 (.tup [.int (i : Nat), .ref l]) = H7 at *
            have s27 := s4.trans s47
            have hlS : SqL K H7 l xs := .of (s27 _ _ hl)
            have hxl := pLen hp
            walk_at "h"
            refine ⟨sz_of (by simp), fun L hL => ?_⟩
            have s8 : Same H7 (upd H7 L (.lst [])) := Same.new hL
            have hL8 : upd H7 L (.lst []) L = some (.lst []) := upd_same
            have hLF : L ≠ F := fun e => by rw [e, hF7] at hL; cases hL
            generalize upd H7 L (.lst []) = H8 at *
            have hlS8 := s8.seq hlS
            walk_at "h"
            refine ⟨l, xs, rfl, hlS8, ?_⟩
            refine for_enum (xs := xs) (fun j σ H9 => ∃ (x6 x7 x8 : Option V) (accL : List V) (rows : Rows), σ = [some (.ref a), some (.int 11), some (.ref D), some (.ref l), some (.ref N), some (.int (i : Nat)), x6, x7, x8, some (.ref F), some (.ref L), x11] ∧ Same H7 H9 ∧ H9 L = some (.lst accL) ∧ Paired (RowV (fun a => a ≠ F ∧ a ≠ L) K H9) accL rows ∧ Blt i 0 (bs.take j) rows)
              ⟨_, _, _, [], [], rfl, s8, hL8, .nil, rfl⟩ ?_ ?_ ?_
            · rintro j σ H9 _ ⟨x6, x7, x8, accL, rows, rfl, s9, _⟩
              exact s9.seq hlS
            · rintro j y σ H9 T9 hy ⟨x6, x7, x8, accL, rows, rfl, s9, hL9, hpr, hblt⟩ hT9
              obtain ⟨b, hbj, hv⟩ := pAt hp hy
              have hj : j < bs.length := (List.getElem?_eq_some_iff.mp hbj).1
              have hok := gb.ok b (List.mem_of_getElem? hbj)
              have u1 : Same H9 (upd H9 T9 (.tup [.int (j : Nat), y])) := Same.new hT9
              have hT10 : SqT K (upd H9 T9 (.tup [.int (j : Nat), y])) T9 [.int (j : Nat), y] := .of upd_same
              have hL10 := u1 _ _ hL9
              have hpr10 : Paired (RowV (fun a => a ≠ F ∧ a ≠ L) K (upd H9 T9 (.tup [.int (j : Nat), y]))) accL rows := pImp hpr fun _ _ z => z.same u1
              have s10 := s9.trans u1
              generalize upd H9 T9 (.tup [.int (j : Nat), y]) = H10 at *
              obtain ⟨tb, rfl, htb⟩ := hv.same (s27.trans s10)
              have htb' := SqT.of (K := K) htb
              have hal : accL.length ≤ 60 := by
                rw [pLen hpr10, (Blt.bare hblt).2.1, List.length_take]
                omega
              walk_at "h"
              refine ⟨go_tyL (.of hL10), ?_⟩
              walk_at "h"
              refine ⟨i, j, rfl, by omega, by omega, ?_⟩
              walk_at "h"
              refine go_I (by decide) ?_
              walk_at "h"
              refine ⟨sz_of (by simp), fun tm htm => ?_⟩
              have u2 := Same.new (o := .tup [V.str "mark", .str (nameS i j), .bl (decide (V.int (b.m % 2) = V.int 0))]) htm
              have hm11 : RowV (fun a => a ≠ F ∧ a ≠ L) K (upd H10 tm (.tup [V.str "mark", .str (nameS i j), .bl (decide (V.int (b.m % 2) = V.int 0))])) (.ref tm) (.mark (nameS i j) (decide (V.int (b.m % 2) = V.int 0))) := ⟨tm, rfl, .of upd_same⟩
              have hL11 := u2 _ _ hL10
              have hpr11 : Paired (RowV (fun a => a ≠ F ∧ a ≠ L) K (upd H10 tm (.tup [V.str "mark", .str (nameS i j), .bl (decide (V.int (b.m % 2) = V.int 0))]))) accL rows := pImp hpr10 fun _ _ z => z.same u2
              have s11 := s10.trans u2
              generalize upd H10 tm (.tup [V.str "mark", .str (nameS i j), .bl (decide (V.int (b.m % 2) = V.int 0))]) = H11 at *
              walk_at "h"
              refine go_append hL11 (sz_lt (by omega)) ?_
              have kL : ∀ a : Addr, (a ≠ F ∧ a ≠ L) → (a ≠ F ∧ a ≠ L) ∧ a ≠ L := fun a h => ⟨h, h.2⟩
              have kp1 : Keeps (fun a => a ≠ F ∧ a ≠ L) (fun a => a ≠ F ∧ a ≠ L) H11 (upd H11 L (.lst (accL ++ [.ref tm]))) := .but But.upd hL11 kL
              have hpr12 : Paired (RowV (fun a => a ≠ F ∧ a ≠ L) K (upd H11 L (.lst (accL ++ [.ref tm])))) (accL ++ [.ref tm]) (rows ++ [.mark (nameS i j) (decide (V.int (b.m % 2) = V.int 0))]) := pSnoc (pImp hpr11 fun _ _ z => z.keep kp1) (hm11.keep kp1)
              have hL12 : upd H11 L (.lst (accL ++ [.ref tm])) L = some (.lst (accL ++ [.ref tm])) := upd_same
              have s12 : Same H7 (upd H11 L (.lst (accL ++ [.ref tm]))) := s11.mut hL
              generalize upd H11 L (.lst (accL ++ [.ref tm])) = H12 at *
              have hnm12 := hnm4.same (s47.trans s12)
              walk_at "h"
              refine ⟨go_tyL (.of hL12), ?_⟩
              walk_at "h"
              refine ⟨N, _, rfl, DGet.k (k := .inr "code") hnm12.d, ?_⟩
              walk_at "h"
              refine ⟨N, _, rfl, DGet.k (k := .inr "numbers") hnm12.d, ?_⟩
              walk_at "h"
              refine ⟨N, _, rfl, DGet.k (k := .inr "table") hnm12.d, ?_⟩
              walk_at "h"
              refine ⟨.ref tb, b, lc, ln, lt, zc, zn, zt, rfl, hv.same (s27.trans s12), hok, hnm12.c, hnm12.n, hnm12.t, hzc, by omega, by omega, by omega, hnm12.wc, hnm12.wn, hnm12.wt, fun v' H13 r s13 hv' hf => ?_⟩
              · have hL13 := s13 _ _ hL12
                have hF13 := s13 _ _ (s12 _ _ hF7)
                have hvW : RowV (fun a => a ≠ F ∧ a ≠ L) K H13 v' r := hv'.keep (.same (Same.refl _) fun a ha => ⟨fun e => (by rw [e, s12 _ _ hF7] at ha; cases ha), fun e => (by rw [e, hL12] at ha; cases ha)⟩)
                walk_at "h"
                refine go_append hL13 (sz_lt (by rw [List.length_append, List.length_singleton]; omega)) ?_
                have kp2 : Keeps (fun a => a ≠ F ∧ a ≠ L) (fun a => a ≠ F ∧ a ≠ L) H13 (upd H13 L (.lst (accL ++ [.ref tm] ++ [v']))) := .but But.upd hL13 kL
                refine ⟨_, _, _, accL ++ [.ref tm] ++ [v'], rows ++ [.mark (nameS i j) (decide (V.int (b.m % 2) = V.int 0))] ++ [r], rfl, (s12.trans s13).mut hL, upd_same, pSnoc (pImp hpr12 fun _ _ z => (z.same s13).keep kp2) (hvW.keep kp2), ?_⟩
                rw [take_snoc hbj, List.append_assoc]
                have hz := hblt.snoc (s := decide (V.int (b.m % 2) = V.int 0)) hf
                rw [List.length_take, Nat.min_eq_left (Nat.le_of_lt hj), Nat.zero_add] at hz
                exact hz
            · rintro σ H9 ⟨x6, x7, x8, accL, rows, rfl, s9, hL9, hpr, hblt⟩
              rw [hxl, List.take_of_length_le (Nat.le_refl _)] at hblt
              have hF9 := s9 _ _ hF7
              walk_at "h"
              refine ⟨go_tyL (.of hF9), ?_⟩
              walk_at "h"
              refine pname_at (by omega) ?_
              walk_at "h"
              refine go_addStr (by show 1 + 4 ≤ 100000; decide) ?_
              walk_at "h"
              refine ⟨sz_of (by simp), fun tp htp => ?_⟩
              have u1 := Same.new (o := .tup [V.str (sgn i ++ "part"), .ref L]) htp
              have hF10 := u1 _ _ hF9
              walk_at "h"
              have hal : acc.length ≤ 4 := by
                have e1 := pLen hpR7
                have e2 := (PB.mem hpb).1
                rw [List.length_take] at e2
                omega
              refine go_append hF10 (sz_lt (by omega)) ?_
              have kF : ∀ a : Addr, a ≠ F → a ≠ F ∧ a ≠ F := fun a h => ⟨h, h⟩
              have kp3 : Keeps (fun a => a ≠ F) (fun a => a ≠ F) (upd H9 tp (.tup [V.str (sgn i ++ "part"), .ref L])) (upd (upd H9 tp (.tup [V.str (sgn i ++ "part"), .ref L])) F (.lst (acc ++ [.ref tp]))) := .but But.upd hF10 kF
              have hnew : PartV (fun a => a ≠ F) K (upd H9 tp (.tup [V.str (sgn i ++ "part"), .ref L])) (.ref tp) (pname i, rows) := ⟨tp, L, accL, rfl, upd_same, u1 _ _ hL9, hLF, pImp hpr fun _ _ z => z.keep (.same u1 fun _ z => z.1)⟩
              refine ⟨_, _, _, _, _, _, acc ++ [.ref tp], R ++ [(pname i, rows)], rfl, (s47.trans (s9.trans u1)).mut hF, upd_same, pSnoc (pImp hpR7 fun _ _ z => ((z.same s9).same u1).keep kp3) (hnew.keep kp3), ?_⟩
              rw [take_snoc hbi]
              have hz := hpb.snoc (bs := bs) (rows := rows) (by rw [List.length_take, Nat.min_eq_left (Nat.le_of_lt hi4), Nat.zero_add]; exact hblt)
              rw [List.length_take, Nat.min_eq_left (Nat.le_of_lt hi4), Nat.zero_add] at hz
              exact hz
          · rintro σ H6 ⟨r3, x5, x6, x7, x8, x10, acc, R, rfl, s6, hF6, hpR, hpb⟩
            rw [hyl, List.take_of_length_le (Nat.le_refl _)] at hpb
            have hnm6 := hnm4.same s6
            walk_at "h"
            refine ⟨N, _, rfl, DGet.k (k := .inr "code") hnm6.d, ?_⟩
            walk_at "h"
            refine ⟨sz_of (by simp), fun tp htp => ?_⟩
            have u1 := Same.new (o := .tup [V.ref F, .ref lc]) htp
            exact q tp _ (.ref F) (.ref lc) R (s2.trans (s4.trans (s6.trans u1))) (.of upd_same) ⟨F, acc, rfl, u1 _ _ hF6, trivial, pImp hpR fun _ _ z => (z.same u1).mono⟩ (hpb.good (by omega) (by omega) hgc)
end
end Fj
set_option maxHeartbeats 4000000
/-! law -/
namespace Fj
open PySem PySem.Spec PyProof.Rows L2
open C8 (Met Mak InsC pe_mt0 pe_mk)
section
variable {P : Program} {w : World} {K : PySem.W.Frag} {mg : Str → Option Value} {base : Heap}
theorem go_revL {σ : L2.St} {H : Hp} {Q : VK} {te : TE} (q : te σ H fun x H1 => ∃ a xs, x = .ref a ∧ SqL K H1 a xs ∧ ∀ p, H1 p = none → Q (.ref p) (upd H1 p (.lst xs.reverse))) : tRevL K te σ H Q := q
theorem pRev {α β : Type} {F : α → β → Prop} : ∀ {l : List α} {m : List β}, Paired F l m → Paired F l.reverse m.reverse
  | _, _, .nil => .nil
  | _, _, .cons r t => by rw [List.reverse_cons, List.reverse_cons]; exact pSnoc (pRev t) r
abbrev slaw : Stmt := top 89
abbrev Nlaw : List Str := ["_law_script", "_law_first", "_law_program_here", "_law_code", "_law_names", "_law_cell", "_law_k"]
theorem sclaw : FnScope Nlaw ["_law_script"] (defScope slaw) := ⟨rfl, rfl, rfl, by decide +kernel, rfl, by decide +kernel, by decide +kernel⟩
def spLaw (K : PySem.W.Frag) : Sp := fun vs H Q _ => ∃ (a : Addr) (ns : List Int), vs = [.ref a] ∧ SqL K H a (ns.map V.int) ∧ ∀ H', Q (.bl true) H'
theorem ok_law {f : Addr} {fd : FuncData} (F : Fun K "law" "law" slaw f fd) (T : Txt K mg) (G_law_parts : Cal P w K mg base CX0 2 "_law_parts" ["_law_cell", "_law_sizes"] (spParts K)) (G_law_cell_at : Cal P w K mg base CX0 1 "_law_cell_at" ["_law_script", "_law_k"] (spCellAt K)) (G_law_program : Cal P w K mg base CX0 4 "_law_program" ["_law_cells", "_law_most"] (spProg K))
    (G_law_right : Cal P w K mg base CX0 9 "_law_right" ["_law_program_here"] (spRight K)) (G_law_marked_names : Cal P w K mg base CX0 1 "_law_marked_names" ["_law_program_here"] (spMarkedN K)) (G_law_spoilt : Cal P w K mg base CX0 2 "_law_spoilt" ["_law_program_here", "_law_names", "_law_cell"] (spSpoilt K)) : FnOk P w K mg base CX0 10 f fd ["_law_script"] (spLaw K) := by
  refine F.ok sclaw (fun vs H Q E h => ?_) (fun cdv A outer s H vs Q E hr h => ?_)
  · obtain ⟨a, ns, rfl, _⟩ := h
    rfl
  · obtain ⟨a, ns, rfl, hS, q⟩ := h
    have nd := sclaw.nd
    refine ⟨_, (pss_cons (ps_set (i := 1) nd rfl (Or.inl rfl) (pe_cal G_law_parts hr (by decide) rfl pass0 (pa_cons (pe_cal G_law_cell_at hr (by decide) rfl pass0 (pa_cons (pv 0) (pa_cons pe_int pa_nil))) (pa_cons (pe_lst (pa_cons pe_int (pa_cons pe_int pa_nil))) pa_nil))))
      (pss_cons (ps_asg (pe_cal G_law_program hr (by decide) rfl pass0 (pa_cons (pe_lc (own := [("_law_k", 6)]) (g := gName 6) (tt := tYes) (by rfl) nd (pi_range1 (by rfl) T.n_range (pa_cons (pe_op op_add pe_int (pe_ix (ixlK (K := K) rfl) (pv 1) pe_int (fun _ _ => rfl))) pa_nil)) (blkOk_by (N := Nlaw) (sc := (defScope slaw)) (by decide +kernel)) (fun _ _ _ _ _ => (pg_name (i := 6) nd rfl (Or.inl rfl))) (fun _ _ _ _ _ => pts_nil) (fun _ _ _ _ _ => (pe_cal G_law_cell_at hr (by decide) rfl pass0 (pa_cons (pv 0) (pa_cons (pe_op op_add pe_int (pv 6)) pa_nil))))) (pa_cons pe_int pa_nil))) (pg_tup rfl (pgs_cons (pg_name (i := 2) nd rfl (Or.inl rfl)) (pgs_cons (pg_name (i := 3) nd rfl (Or.inl rfl)) pgs_nil))))
      (C8.pss_cut (ps_if (pt_cmpR op_eq (pe_ix (ixlK (K := K) rfl) (pv 1) pe_int (fun _ _ => rfl)) pe_int (nomark _)) (pss_one (ps_set (i := 2) nd rfl (Or.inl rfl) (pe_revL (pv 2)))) pss_nil)
      (pss_cons (ps_if (pt_not (pt_val (pe_cal G_law_right hr (by decide) rfl pass0 (pa_cons (pv 2) pa_nil)))) (pss_one (ps_ret pe_bl)) pss_nil)
      (pss_cons (ps_set (i := 4) nd rfl (Or.inl rfl) (pe_cal G_law_marked_names hr (by decide) rfl pass0 (pa_cons (pv 2) pa_nil)))
      (pss_cons (ps_for PassesOwn.never rfl (pi_list (pe_slice (sllK (K := K) rfl) (pv 0) (po_some pe_int) (po_some pe_int))) (pg_name (i := 5) nd rfl (Or.inl rfl)) (pss_cons (ps_set (i := 2) nd rfl (Or.inl rfl) (pe_cal G_law_spoilt hr (by decide) rfl pass0 (pa_cons (pv 2) (pa_cons (pv 4) (pa_cons (pv 5) pa_nil)))))
      (pss_one (ps_if (pt_not (pt_val (pe_cal G_law_right hr (by decide) rfl pass0 (pa_cons (pv 2) pa_nil)))) (pss_one (ps_ret pe_bl)) pss_nil))))
      (pss_one (ps_ret pe_bl)))))))), ?_⟩
    walk_at "h"
    refine ⟨a, ns, 0, rfl, hS, by decide, fun z => ?_⟩
    walk_at "h"
    refine ⟨sz_of (by simp), fun l1 hl1 => ?_⟩
    have s1 := Same.new (o := .lst [V.int 4, .int 2]) hl1
    walk_at "h"
    refine ⟨z, l1, [4, 2], rfl, upd_same, by decide, by decide, fun pF H2 fs s2 hF hb => ?_⟩
    have s12 := s1.trans s2
    obtain ⟨n0, hn0, b0, b1⟩ := pAtR (i := 0) hb rfl
    obtain ⟨n1, hn1, c0, c1⟩ := pAtR (i := 1) hb rfl
    have hFS : SqL K H2 pF (fs.map V.int) := .of hF
    have hS2 := s12.seq hS
    walk_at "h"
    refine go_ixL hFS (atI_nat (j := 0) (v := .int n0) (by rw [List.getElem?_map, hn0]; rfl)) ?_
    walk_at "h"
    refine ⟨_, rfl, by omega, by omega, ?_⟩
    intro D hD
    refine lc_genR (fun y => ∃ n, y = V.int n ∧ True) (by omega) hD ?_ ?_
    · intro i H3 hi s3 NY ny
      have hS3 := s3.seq hS2
      walk_at "h"
      refine ⟨rfl, ?_⟩
      walk_at "h"
      exact ⟨a, ns, _, rfl, hS3, by omega, fun z2 => ny _ _ (Same.refl _) ⟨z2, rfl, trivial⟩⟩
    · intro H3 acc s3 hacc hal hall
      obtain ⟨cs, rfl, _⟩ := all_ints hall
      rw [List.length_map] at hal
      walk_at "h"
      refine ⟨D, cs, rfl, hacc, by omega, by omega, fun t H4 v u R s4 ht hv hg => ?_⟩
      have s34 := s3.trans s4
      have hS4 := s34.seq hS2
      have hF4 := s34.seq hFS
      walk_at "h"
      refine go_cut (fun σ' H' => ∃ (v c3 x4 x5 x6 : Option V) (pv : V) (R : Prg), σ' = [some (.ref a), v, some pv, c3, x4, x5, x6] ∧ SqL K H' a (ns.map V.int) ∧ ProgV All K H' pv R ∧ Good R) ?_ ?_
      · walk_at "h"
        refine go_ixL hF4 (atI_nat (j := 1) (v := .int n1) (by rw [List.getElem?_map, hn1]; rfl)) ?_
        walk_at "h"
        refine ite2 (fun h1 => ?_) (fun h1 => ?_)
        · walk_at "h"
          refine go_revL ?_
          walk_at "h"
          obtain ⟨l, ys, rfl, hl, _, hp⟩ := id hv
          refine ⟨l, ys, rfl, .of hl, fun p hp2 => ?_⟩
          have s5 := Same.new (o := .lst ys.reverse) hp2
          walk_at "h"
          exact ⟨_, _, _, _, _, .ref p, R.reverse, rfl, s5.seq hS4, ⟨p, ys.reverse, rfl, upd_same, trivial, pRev (pImp hp fun _ _ z => z.same s5)⟩, hg.perm (List.reverse_perm R)⟩
        · walk_at "h"
          exact ⟨_, _, _, _, _, v, R, rfl, hS4, hv, hg⟩
      · rintro σ H5 ⟨v', c3, x4, x5, x6, pv, R5, rfl, hS5, hv5, hg5⟩
        walk_at "h"
        refine ⟨pv, R5, rfl, hv5, hg5, fun H6 s6 => ?_⟩
        have hv6 := hv5.same s6
        have hS6 := s6.seq hS5
        walk_at "h"
        refine ⟨pv, R5, rfl, hv6, hg5, fun pN H7 zs s7 hN hw hz => ?_⟩
        have hv7 := hv6.same s7
        have hS7 := s7.seq hS6
        walk_at "h"
        refine go_slL hS7 fun p8 hp8 => ?_
        have s8 := Same.new (o := .lst (cutV (ns.map V.int) (some 5) (some 13))) hp8
        have h8 : upd H7 p8 (.lst (cutV (ns.map V.int) (some 5) (some 13))) p8 = some (.lst (cutV (ns.map V.int) (some 5) (some 13))) := upd_same
        have hv8 := hv7.same s8
        have hN8 := s8 _ _ hN
        have hints : ∀ x ∈ cutV (ns.map V.int) (some 5) (some 13), ∃ n, x = V.int n := fun x m => by
          unfold cutV at m
          have m2 := List.mem_of_mem_drop (List.mem_of_mem_take m)
          obtain ⟨n, _, e⟩ := List.mem_map.mp m2
          exact ⟨n, e.symm⟩
        generalize upd H7 p8 (.lst (cutV (ns.map V.int) (some 5) (some 13))) = H8 at *
        generalize cutV (ns.map V.int) (some 5) (some 13) = xs8 at *
        refine ⟨p8, rfl, ⟨_, .of h8⟩, ?_⟩
        refine for_list (xs := xs8) (fun i σ H9 => ∃ (v c3 x5 x6 : Option V) (pv : V) (R : Prg), σ = [some (.ref a), v, some pv, c3, some (.ref pN), x5, x6] ∧ Same H8 H9 ∧ ProgV All K H9 pv R ∧ Good R)
          ⟨_, _, _, _, pv, R5, rfl, Same.refl _, hv8, hg5⟩ ?_ ?_ ?_
        · rintro i σ H9 _ ⟨v, c3, x5, x6, pv, R, rfl, s9, _⟩
          exact .of (s9 _ _ h8)
        · rintro i x σ H9 hx ⟨v, c3, x5, x6, pv, R, rfl, s9, hv9, hg9⟩
          obtain ⟨n, rfl⟩ := hints x (List.mem_of_getElem? hx)
          walk_at "h"
          refine ⟨pv, R, pN, zs, n, rfl, hv9, hg9, s9 _ _ hN8, hw, hz, fun v' H10 R' s10 hv10 hg10 => ?_⟩
          walk_at "h"
          refine ⟨v', R', rfl, hv10, hg10, fun H11 s11 => ?_⟩
          walk_at "h"
          exact ⟨_, _, _, _, v', R', rfl, s9.trans (s10.trans s11), hv10.same s11, hg10⟩
        · rintro σ H9 ⟨v, c3, x5, x6, pv, R, rfl, s9, hv9, hg9⟩
          walk_at "h"
          exact q _
end
end Fj
set_option maxHeartbeats 4000000
/-! from the head's facts to what the walk asks -/
namespace Fj
open PySem PySem.Spec PyProof.Rows L2
open C8 (Met Mak InsC pe_mt0 pe_mk)
section
variable {K : PySem.W.Frag} {h : Heap} {mg : Str → Option Value}
theorem says_of (c : obK K = vK) : He.SaysD faL fnL K := by
  have c1 := (He.ba (show ((faL.all fun f => f.ok K) && exL K) = true from congrArg (fun z => z.1) c)).1
  have c2 : fnL.all (fun d => d.ok K) = true := congrArg (fun z => z.2.1) c
  have c3 : fnL.map (fun d => He.fnW K d.at_) = fnL.map He.DefD.val := congrArg (fun z => z.2.2) c
  show (((faL.all fun f => f.ok K) && fnL.all fun d => d.ok K), fnL.map fun d => He.fnW K d.at_) = (true, fnL.map He.DefD.val)
  rw [c1, c2, c3]
  rfl
theorem ex_of (c : obK K = vK) : exL K = true := (He.ba (show ((faL.all fun f => f.ok K) && exL K) = true from congrArg (fun z => z.1) c)).2
theorem fun_of {x q : Str} {st : Stmt} {f : Addr} {fd : FuncData} (F : FunD K x q (defArgs st) (defBody st) (defScope st) [] [] f fd) : L2.Fun K x q st f fd := by
  obtain ⟨oc, od, dV, kV, doc, pm, an, cdv, ct, osl, rfl, lk, hcd, hD, hK⟩ := F.ex
  rcases hD with ⟨_, rfl⟩ | ⟨e, _⟩
  · exact ⟨⟨oc, od, kV, doc, pm, an, cdv, ct, osl, rfl, lk, hcd⟩, F.kp⟩
  · exact absurd rfl e
theorem ca_of {x : Str} {a : Addr} (e : mg x = some (.ref a)) : CA mg x = a := by unfold CA; rw [e]
theorem gint {x : Str} {i : Int} (X : K.In h) (G : h.Ns mainGlobals mg) (c : (He.Fa.int x i).ok K = true) : ∃ u, mg x = some u ∧ RelV (.int i) u := by
  obtain ⟨t, e⟩ := He.int_ok X G c
  exact ⟨_, e, t, rfl⟩
theorem gstr {x z : Str} (X : K.In h) (G : h.Ns mainGlobals mg) (c : (He.Fa.str x z).ok K = true) : ∃ u, mg x = some u ∧ RelV (.str z) u := by
  obtain ⟨t, e⟩ := He.str_ok X G c
  exact ⟨_, e, t, rfl⟩
section
variable (s : He.SaysD faL fnL K)
include s
theorem r_glo : ∀ r : Tr, (He.Fa.glo r.cls).ok K = true := by
  intro r
  cases r
  · exact s.fact 68 rfl
  · exact s.fact 69 rfl
  · exact s.fact 70 rfl
  · exact s.fact 71 rfl
  · exact s.fact 72 rfl
  · exact s.fact 73 rfl
  · exact s.fact 74 rfl
  · exact s.fact 75 rfl
  · exact s.fact 76 rfl
  · exact s.fact 77 rfl
  · exact s.fact 78 rfl
  · exact s.fact 79 rfl
  · exact s.fact 80 rfl
  · exact s.fact 81 rfl
  · exact s.fact 82 rfl
  · exact s.fact 83 rfl
theorem r_cls : ∀ r : Tr, (He.Fa.cls r.cls).ok K = true := by
  intro r
  cases r
  · exact s.fact 90 rfl
  · exact s.fact 91 rfl
  · exact s.fact 92 rfl
  · exact s.fact 93 rfl
  · exact s.fact 94 rfl
  · exact s.fact 95 rfl
  · exact s.fact 96 rfl
  · exact s.fact 97 rfl
  · exact s.fact 98 rfl
  · exact s.fact 99 rfl
  · exact s.fact 100 rfl
  · exact s.fact 101 rfl
  · exact s.fact 102 rfl
  · exact s.fact 103 rfl
  · exact s.fact 104 rfl
  · exact s.fact 105 rfl
theorem r_noat : ∀ r : Tr, (He.Fa.noat r.cls "told").ok K = true := by
  intro r
  cases r
  · exact s.fact 106 rfl
  · exact s.fact 107 rfl
  · exact s.fact 108 rfl
  · exact s.fact 109 rfl
  · exact s.fact 110 rfl
  · exact s.fact 111 rfl
  · exact s.fact 112 rfl
  · exact s.fact 113 rfl
  · exact s.fact 114 rfl
  · exact s.fact 115 rfl
  · exact s.fact 116 rfl
  · exact s.fact 117 rfl
  · exact s.fact 118 rfl
  · exact s.fact 119 rfl
  · exact s.fact 120 rfl
  · exact s.fact 121 rfl
theorem r_mkr : ∀ r : Tr, (He.Fa.mkr r.cls).ok K = true := by
  intro r
  cases r
  · exact s.fact 122 rfl
  · exact s.fact 123 rfl
  · exact s.fact 124 rfl
  · exact s.fact 125 rfl
  · exact s.fact 126 rfl
  · exact s.fact 127 rfl
  · exact s.fact 128 rfl
  · exact s.fact 129 rfl
  · exact s.fact 130 rfl
  · exact s.fact 131 rfl
  · exact s.fact 132 rfl
  · exact s.fact 133 rfl
  · exact s.fact 134 rfl
  · exact s.fact 135 rfl
  · exact s.fact 136 rfl
  · exact s.fact 137 rfl
theorem r_words : ∀ r : Tr, (He.Fa.meth r.cls "words").ok K = true := by
  intro r
  cases r
  · exact s.fact 138 rfl
  · exact s.fact 142 rfl
  · exact s.fact 146 rfl
  · exact s.fact 150 rfl
  · exact s.fact 154 rfl
  · exact s.fact 158 rfl
  · exact s.fact 162 rfl
  · exact s.fact 166 rfl
  · exact s.fact 170 rfl
  · exact s.fact 174 rfl
  · exact s.fact 178 rfl
  · exact s.fact 182 rfl
  · exact s.fact 186 rfl
  · exact s.fact 190 rfl
  · exact s.fact 194 rfl
  · exact s.fact 198 rfl
theorem r_asked : ∀ r : Tr, (He.Fa.meth r.cls "asked").ok K = true := by
  intro r
  cases r
  · exact s.fact 139 rfl
  · exact s.fact 143 rfl
  · exact s.fact 147 rfl
  · exact s.fact 151 rfl
  · exact s.fact 155 rfl
  · exact s.fact 159 rfl
  · exact s.fact 163 rfl
  · exact s.fact 167 rfl
  · exact s.fact 171 rfl
  · exact s.fact 175 rfl
  · exact s.fact 179 rfl
  · exact s.fact 183 rfl
  · exact s.fact 187 rfl
  · exact s.fact 191 rfl
  · exact s.fact 195 rfl
  · exact s.fact 199 rfl
theorem r_wants : ∀ r : Tr, (He.Fa.meth r.cls "wants").ok K = true := by
  intro r
  cases r
  · exact s.fact 140 rfl
  · exact s.fact 144 rfl
  · exact s.fact 148 rfl
  · exact s.fact 152 rfl
  · exact s.fact 156 rfl
  · exact s.fact 160 rfl
  · exact s.fact 164 rfl
  · exact s.fact 168 rfl
  · exact s.fact 172 rfl
  · exact s.fact 176 rfl
  · exact s.fact 180 rfl
  · exact s.fact 184 rfl
  · exact s.fact 188 rfl
  · exact s.fact 192 rfl
  · exact s.fact 196 rfl
  · exact s.fact 200 rfl
theorem r_goes_on : ∀ r : Tr, (He.Fa.meth r.cls "goes_on").ok K = true := by
  intro r
  cases r
  · exact s.fact 141 rfl
  · exact s.fact 145 rfl
  · exact s.fact 149 rfl
  · exact s.fact 153 rfl
  · exact s.fact 157 rfl
  · exact s.fact 161 rfl
  · exact s.fact 165 rfl
  · exact s.fact 169 rfl
  · exact s.fact 173 rfl
  · exact s.fact 177 rfl
  · exact s.fact 181 rfl
  · exact s.fact 185 rfl
  · exact s.fact 189 rfl
  · exact s.fact 193 rfl
  · exact s.fact 197 rfl
  · exact s.fact 201 rfl
theorem f_Row_init : ∃ fd, L2.Fun K "__init__" "Row.__init__" (inClass (top 21) 0) (He.ma K (He.ga K "Row") "__init__") fd ∧ Binds K fd ["self", "told"] [] := by
  obtain ⟨fd, F⟩ := s.def_ 5 (d := d_Row___init__) rfl
  exact ⟨fd, fun_of F, FunD.bindsN F fun _ _ _ _ _ _ us hl => match us, hl with | [_, _], _ => rfl⟩
theorem f_Row_words : ∃ fd, L2.Fun K "words" "Row.words" (inClass (top 21) 1) (He.ma K (He.ga K "Row") "words") fd ∧ Binds K fd ["self"] [] := by
  obtain ⟨fd, F⟩ := s.def_ 6 (d := d_Row_words) rfl
  exact ⟨fd, fun_of F, FunD.bindsN F fun _ _ _ _ _ _ us hl => match us, hl with | [_], _ => rfl⟩
theorem f_DataRow_words : ∃ fd, L2.Fun K "words" "DataRow.words" (inClass (top 38) 0) (He.ma K (He.ga K "DataRow") "words") fd ∧ Binds K fd ["self"] [] := by
  obtain ⟨fd, F⟩ := s.def_ 21 (d := d_DataRow_words) rfl
  exact ⟨fd, fun_of F, FunD.bindsN F fun _ _ _ _ _ _ us hl => match us, hl with | [_], _ => rfl⟩
theorem f_Row_asked : ∃ fd, L2.Fun K "asked" "Row.asked" (inClass (top 21) 2) (He.ma K (He.ga K "Row") "asked") fd ∧ Binds K fd ["self"] [] := by
  obtain ⟨fd, F⟩ := s.def_ 7 (d := d_Row_asked) rfl
  exact ⟨fd, fun_of F, FunD.bindsN F fun _ _ _ _ _ _ us hl => match us, hl with | [_], _ => rfl⟩
theorem f_AimRow_asked : ∃ fd, L2.Fun K "asked" "AimRow.asked" (inClass (top 29) 0) (He.ma K (He.ga K "AimRow") "asked") fd ∧ Binds K fd ["self"] [] := by
  obtain ⟨fd, F⟩ := s.def_ 11 (d := d_AimRow_asked) rfl
  exact ⟨fd, fun_of F, FunD.bindsN F fun _ _ _ _ _ _ us hl => match us, hl with | [_], _ => rfl⟩
theorem f_AlikeRow_asked : ∃ fd, L2.Fun K "asked" "AlikeRow.asked" (inClass (top 35) 0) (He.ma K (He.ga K "AlikeRow") "asked") fd ∧ Binds K fd ["self"] [] := by
  obtain ⟨fd, F⟩ := s.def_ 17 (d := d_AlikeRow_asked) rfl
  exact ⟨fd, fun_of F, FunD.bindsN F fun _ _ _ _ _ _ us hl => match us, hl with | [_], _ => rfl⟩
theorem f_TableRow_asked : ∃ fd, L2.Fun K "asked" "TableRow.asked" (inClass (top 40) 0) (He.ma K (He.ga K "TableRow") "asked") fd ∧ Binds K fd ["self"] [] := by
  obtain ⟨fd, F⟩ := s.def_ 22 (d := d_TableRow_asked) rfl
  exact ⟨fd, fun_of F, FunD.bindsN F fun _ _ _ _ _ _ us hl => match us, hl with | [_], _ => rfl⟩
theorem f_Row_wants : ∃ fd, L2.Fun K "wants" "Row.wants" (inClass (top 21) 3) (He.ma K (He.ga K "Row") "wants") fd ∧ Binds K fd ["self"] [] := by
  obtain ⟨fd, F⟩ := s.def_ 8 (d := d_Row_wants) rfl
  exact ⟨fd, fun_of F, FunD.bindsN F fun _ _ _ _ _ _ us hl => match us, hl with | [_], _ => rfl⟩
theorem f_AimRow_wants : ∃ fd, L2.Fun K "wants" "AimRow.wants" (inClass (top 29) 1) (He.ma K (He.ga K "AimRow") "wants") fd ∧ Binds K fd ["self"] [] := by
  obtain ⟨fd, F⟩ := s.def_ 12 (d := d_AimRow_wants) rfl
  exact ⟨fd, fun_of F, FunD.bindsN F fun _ _ _ _ _ _ us hl => match us, hl with | [_], _ => rfl⟩
theorem f_LoadRow_wants : ∃ fd, L2.Fun K "wants" "LoadRow.wants" (inClass (top 33) 0) (He.ma K (He.ga K "LoadRow") "wants") fd ∧ Binds K fd ["self"] [] := by
  obtain ⟨fd, F⟩ := s.def_ 14 (d := d_LoadRow_wants) rfl
  exact ⟨fd, fun_of F, FunD.bindsN F fun _ _ _ _ _ _ us hl => match us, hl with | [_], _ => rfl⟩
theorem f_JumpByRow_wants : ∃ fd, L2.Fun K "wants" "JumpByRow.wants" (inClass (top 34) 1) (He.ma K (He.ga K "JumpByRow") "wants") fd ∧ Binds K fd ["self"] [] := by
  obtain ⟨fd, F⟩ := s.def_ 16 (d := d_JumpByRow_wants) rfl
  exact ⟨fd, fun_of F, FunD.bindsN F fun _ _ _ _ _ _ us hl => match us, hl with | [_], _ => rfl⟩
theorem f_AlikeRow_wants : ∃ fd, L2.Fun K "wants" "AlikeRow.wants" (inClass (top 35) 1) (He.ma K (He.ga K "AlikeRow") "wants") fd ∧ Binds K fd ["self"] [] := by
  obtain ⟨fd, F⟩ := s.def_ 18 (d := d_AlikeRow_wants) rfl
  exact ⟨fd, fun_of F, FunD.bindsN F fun _ _ _ _ _ _ us hl => match us, hl with | [_], _ => rfl⟩
theorem f_TableRow_wants : ∃ fd, L2.Fun K "wants" "TableRow.wants" (inClass (top 40) 1) (He.ma K (He.ga K "TableRow") "wants") fd ∧ Binds K fd ["self"] [] := by
  obtain ⟨fd, F⟩ := s.def_ 23 (d := d_TableRow_wants) rfl
  exact ⟨fd, fun_of F, FunD.bindsN F fun _ _ _ _ _ _ us hl => match us, hl with | [_], _ => rfl⟩
theorem f_Row_goes_on : ∃ fd, L2.Fun K "goes_on" "Row.goes_on" (inClass (top 21) 4) (He.ma K (He.ga K "Row") "goes_on") fd ∧ Binds K fd ["self"] [] := by
  obtain ⟨fd, F⟩ := s.def_ 9 (d := d_Row_goes_on) rfl
  exact ⟨fd, fun_of F, FunD.bindsN F fun _ _ _ _ _ _ us hl => match us, hl with | [_], _ => rfl⟩
theorem f_CodeRow_goes_on : ∃ fd, L2.Fun K "goes_on" "CodeRow.goes_on" (inClass (top 23) 0) (He.ma K (He.ga K "CodeRow") "goes_on") fd ∧ Binds K fd ["self"] [] := by
  obtain ⟨fd, F⟩ := s.def_ 10 (d := d_CodeRow_goes_on) rfl
  exact ⟨fd, fun_of F, FunD.bindsN F fun _ _ _ _ _ _ us hl => match us, hl with | [_], _ => rfl⟩
theorem f_JumpRow_goes_on : ∃ fd, L2.Fun K "goes_on" "JumpRow.goes_on" (inClass (top 30) 0) (He.ma K (He.ga K "JumpRow") "goes_on") fd ∧ Binds K fd ["self"] [] := by
  obtain ⟨fd, F⟩ := s.def_ 13 (d := d_JumpRow_goes_on) rfl
  exact ⟨fd, fun_of F, FunD.bindsN F fun _ _ _ _ _ _ us hl => match us, hl with | [_], _ => rfl⟩
theorem f_BackRow_goes_on : ∃ fd, L2.Fun K "goes_on" "BackRow.goes_on" (inClass (top 36) 0) (He.ma K (He.ga K "BackRow") "goes_on") fd ∧ Binds K fd ["self"] [] := by
  obtain ⟨fd, F⟩ := s.def_ 19 (d := d_BackRow_goes_on) rfl
  exact ⟨fd, fun_of F, FunD.bindsN F fun _ _ _ _ _ _ us hl => match us, hl with | [_], _ => rfl⟩
theorem f_StopRow_goes_on : ∃ fd, L2.Fun K "goes_on" "StopRow.goes_on" (inClass (top 37) 0) (He.ma K (He.ga K "StopRow") "goes_on") fd ∧ Binds K fd ["self"] [] := by
  obtain ⟨fd, F⟩ := s.def_ 20 (d := d_StopRow_goes_on) rfl
  exact ⟨fd, fun_of F, FunD.bindsN F fun _ _ _ _ _ _ us hl => match us, hl with | [_], _ => rfl⟩
theorem f_JumpByRow_goes_on : ∃ fd, L2.Fun K "goes_on" "JumpByRow.goes_on" (inClass (top 34) 0) (He.ma K (He.ga K "JumpByRow") "goes_on") fd ∧ Binds K fd ["self"] [] := by
  obtain ⟨fd, F⟩ := s.def_ 15 (d := d_JumpByRow_goes_on) rfl
  exact ⟨fd, fun_of F, FunD.bindsN F fun _ _ _ _ _ _ us hl => match us, hl with | [_], _ => rfl⟩
theorem f_Lacking_init : ∃ fd, L2.Fun K "__init__" "Lacking.__init__" (inClass (top 7) 0) (He.ma K (He.ga K "Lacking") "__init__") fd ∧ Binds K fd ["self", "name", "part", "row"] [] := by
  obtain ⟨fd, F⟩ := s.def_ 0 (d := d_Lacking___init__) rfl
  exact ⟨fd, fun_of F, FunD.bindsN F fun _ _ _ _ _ _ us hl => match us, hl with | [_, _, _, _], _ => rfl⟩
theorem f_WrongAim_init : ∃ fd, L2.Fun K "__init__" "WrongAim.__init__" (inClass (top 8) 0) (He.ma K (He.ga K "WrongAim") "__init__") fd ∧ Binds K fd ["self", "name", "part", "row"] [] := by
  obtain ⟨fd, F⟩ := s.def_ 1 (d := d_WrongAim___init__) rfl
  exact ⟨fd, fun_of F, FunD.bindsN F fun _ _ _ _ _ _ us hl => match us, hl with | [_, _, _, _], _ => rfl⟩
end
section
variable (X : K.In h) (G : h.Ns mainGlobals mg) (s : He.SaysD faL fnL K)
include X G s
theorem at_is_word : FnAt K mg "is_word" (top 12) ["thing"] := by
  obtain ⟨fd, F⟩ := s.def_ 2 (d := d_is_word) rfl
  exact ⟨_, fd, He.glo_ok X G (s.fact 0 rfl), fun_of F, FunD.bindsN F fun _ _ _ _ _ _ us hl => match us, hl with | [_], _ => rfl⟩
theorem at_is_box : FnAt K mg "is_box" (top 19) ["thing"] := by
  obtain ⟨fd, F⟩ := s.def_ 3 (d := d_is_box) rfl
  exact ⟨_, fd, He.glo_ok X G (s.fact 1 rfl), fun_of F, FunD.bindsN F fun _ _ _ _ _ _ us hl => match us, hl with | [_], _ => rfl⟩
theorem at_is_plain : FnAt K mg "is_plain" (top 20) ["thing"] := by
  obtain ⟨fd, F⟩ := s.def_ 4 (d := d_is_plain) rfl
  exact ⟨_, fd, He.glo_ok X G (s.fact 2 rfl), fun_of F, FunD.bindsN F fun _ _ _ _ _ _ us hl => match us, hl with | [_], _ => rfl⟩
theorem at_with_boxes : FnAt K mg "with_boxes" (top 41) ["told"] := by
  obtain ⟨fd, F⟩ := s.def_ 24 (d := d_with_boxes) rfl
  exact ⟨_, fd, He.glo_ok X G (s.fact 3 rfl), fun_of F, FunD.bindsN F fun _ _ _ _ _ _ us hl => match us, hl with | [_], _ => rfl⟩
theorem at_with_aim : FnAt K mg "with_aim" (top 42) ["told"] := by
  obtain ⟨fd, F⟩ := s.def_ 25 (d := d_with_aim) rfl
  exact ⟨_, fd, He.glo_ok X G (s.fact 4 rfl), fun_of F, FunD.bindsN F fun _ _ _ _ _ _ us hl => match us, hl with | [_], _ => rfl⟩
theorem at_with_list : FnAt K mg "with_list" (top 43) ["told"] := by
  obtain ⟨fd, F⟩ := s.def_ 26 (d := d_with_list) rfl
  exact ⟨_, fd, He.glo_ok X G (s.fact 5 rfl), fun_of F, FunD.bindsN F fun _ _ _ _ _ _ us hl => match us, hl with | [_], _ => rfl⟩
theorem at_row_of : FnAt K mg "row_of" (top 44) ["thing"] := by
  obtain ⟨fd, F⟩ := s.def_ 27 (d := d_row_of) rfl
  exact ⟨_, fd, He.glo_ok X G (s.fact 6 rfl), fun_of F, FunD.bindsN F fun _ _ _ _ _ _ us hl => match us, hl with | [_], _ => rfl⟩
theorem at_is_marked : FnAt K mg "is_marked" (top 49) ["thing"] := by
  obtain ⟨fd, F⟩ := s.def_ 28 (d := d_is_marked) rfl
  exact ⟨_, fd, He.glo_ok X G (s.fact 7 rfl), fun_of F, FunD.bindsN F fun _ _ _ _ _ _ us hl => match us, hl with | [_], _ => rfl⟩
theorem at_count_marks : FnAt K mg "count_marks" (top 50) ["told"] := by
  obtain ⟨fd, F⟩ := s.def_ 29 (d := d_count_marks) rfl
  exact ⟨_, fd, He.glo_ok X G (s.fact 8 rfl), fun_of F, FunD.bindsN F fun _ _ _ _ _ _ us hl => match us, hl with | [_], _ => rfl⟩
theorem at_is_part : FnAt K mg "is_part" (top 51) ["thing"] := by
  obtain ⟨fd, F⟩ := s.def_ 30 (d := d_is_part) rfl
  exact ⟨_, fd, He.glo_ok X G (s.fact 9 rfl), fun_of F, FunD.bindsN F fun _ _ _ _ _ _ us hl => match us, hl with | [_], _ => rfl⟩
theorem at_checked_form : FnAt K mg "checked_form" (top 52) ["parts"] := by
  obtain ⟨fd, F⟩ := s.def_ 31 (d := d_checked_form) rfl
  exact ⟨_, fd, He.glo_ok X G (s.fact 10 rfl), fun_of F, FunD.bindsN F fun _ _ _ _ _ _ us hl => match us, hl with | [_], _ => rfl⟩
theorem at_next_behind : FnAt K mg "next_behind" (top 53) ["rows", "at"] := by
  obtain ⟨fd, F⟩ := s.def_ 32 (d := d_next_behind) rfl
  exact ⟨_, fd, He.glo_ok X G (s.fact 11 rfl), fun_of F, FunD.bindsN F fun _ _ _ _ _ _ us hl => match us, hl with | [_, _], _ => rfl⟩
theorem at_ends_well : FnAt K mg "ends_well" (top 54) ["rows", "at"] := by
  obtain ⟨fd, F⟩ := s.def_ 33 (d := d_ends_well) rfl
  exact ⟨_, fd, He.glo_ok X G (s.fact 12 rfl), fun_of F, FunD.bindsN F fun _ _ _ _ _ _ us hl => match us, hl with | [_, _], _ => rfl⟩
theorem at_looked_at : FnAt K mg "looked_at" (top 55) ["parts"] := by
  obtain ⟨fd, F⟩ := s.def_ 34 (d := d_looked_at) rfl
  exact ⟨_, fd, He.glo_ok X G (s.fact 13 rfl), fun_of F, FunD.bindsN F fun _ _ _ _ _ _ us hl => match us, hl with | [_], _ => rfl⟩
theorem at_bare : FnAt K mg "bare" (top 57) ["rows"] := by
  obtain ⟨fd, F⟩ := s.def_ 35 (d := d_bare) rfl
  exact ⟨_, fd, He.glo_ok X G (s.fact 14 rfl), fun_of F, FunD.bindsN F fun _ _ _ _ _ _ us hl => match us, hl with | [_], _ => rfl⟩
theorem at_marks_in : FnAt K mg "marks_in" (top 58) ["looked"] := by
  obtain ⟨fd, F⟩ := s.def_ 36 (d := d_marks_in) rfl
  exact ⟨_, fd, He.glo_ok X G (s.fact 15 rfl), fun_of F, FunD.bindsN F fun _ _ _ _ _ _ us hl => match us, hl with | [_], _ => rfl⟩
theorem at_part_name : FnAt K mg "part_name" (top 59) ["part"] := by
  obtain ⟨fd, F⟩ := s.def_ 37 (d := d_part_name) rfl
  exact ⟨_, fd, He.glo_ok X G (s.fact 16 rfl), fun_of F, FunD.bindsN F fun _ _ _ _ _ _ us hl => match us, hl with | [_], _ => rfl⟩
theorem at_standing_in : FnAt K mg "standing_in" (top 60) ["looked"] := by
  obtain ⟨fd, F⟩ := s.def_ 38 (d := d_standing_in) rfl
  exact ⟨_, fd, He.glo_ok X G (s.fact 17 rfl), fun_of F, FunD.bindsN F fun _ _ _ _ _ _ us hl => match us, hl with | [_], _ => rfl⟩
theorem at_is_wanted : FnAt K mg "is_wanted" (top 61) ["row", "wants"] := by
  obtain ⟨fd, F⟩ := s.def_ 39 (d := d_is_wanted) rfl
  exact ⟨_, fd, He.glo_ok X G (s.fact 18 rfl), fun_of F, FunD.bindsN F fun _ _ _ _ _ _ us hl => match us, hl with | [_, _], _ => rfl⟩
theorem at_checked_aims : FnAt K mg "checked_aims" (top 62) ["looked", "standing"] := by
  obtain ⟨fd, F⟩ := s.def_ 40 (d := d_checked_aims) rfl
  exact ⟨_, fd, He.glo_ok X G (s.fact 19 rfl), fun_of F, FunD.bindsN F fun _ _ _ _ _ _ us hl => match us, hl with | [_, _], _ => rfl⟩
theorem at_let_by : FnAt K mg "let_by" (top 63) ["parts"] := by
  obtain ⟨fd, F⟩ := s.def_ 41 (d := d_let_by) rfl
  exact ⟨_, fd, He.glo_ok X G (s.fact 20 rfl), fun_of F, FunD.bindsN F fun _ _ _ _ _ _ us hl => match us, hl with | [_], _ => rfl⟩
theorem at_bound : FnAt K mg "bound" (top 64) ["parts"] := by
  obtain ⟨fd, F⟩ := s.def_ 42 (d := d_bound) rfl
  exact ⟨_, fd, He.glo_ok X G (s.fact 21 rfl), fun_of F, FunD.bindsN F fun _ _ _ _ _ _ us hl => match us, hl with | [_], _ => rfl⟩
theorem at_law_cell_at : FnAt K mg "_law_cell_at" (top 66) ["_law_script", "_law_k"] := by
  obtain ⟨fd, F⟩ := s.def_ 43 (d := d__law_cell_at) rfl
  exact ⟨_, fd, He.glo_ok X G (s.fact 22 rfl), fun_of F, FunD.bindsN F fun _ _ _ _ _ _ us hl => match us, hl with | [_, _], _ => rfl⟩
theorem at_law_mixed : FnAt K mg "_law_mixed" (top 67) ["_law_cell", "_law_k"] := by
  obtain ⟨fd, F⟩ := s.def_ 44 (d := d__law_mixed) rfl
  exact ⟨_, fd, He.glo_ok X G (s.fact 23 rfl), fun_of F, FunD.bindsN F fun _ _ _ _ _ _ us hl => match us, hl with | [_, _], _ => rfl⟩
theorem at_law_parts : FnAt K mg "_law_parts" (top 68) ["_law_cell", "_law_sizes"] := by
  obtain ⟨fd, F⟩ := s.def_ 45 (d := d__law_parts) rfl
  exact ⟨_, fd, He.glo_ok X G (s.fact 24 rfl), fun_of F, FunD.bindsN F fun _ _ _ _ _ _ us hl => match us, hl with | [_, _], _ => rfl⟩
theorem at_law_kinds : FnAt K mg "_law_kinds" (top 69) [] := by
  obtain ⟨fd, F⟩ := s.def_ 46 (d := d__law_kinds) rfl
  exact ⟨_, fd, He.glo_ok X G (s.fact 25 rfl), fun_of F, FunD.bindsN F fun _ _ _ _ _ _ us hl => match us, hl with | [], _ => rfl⟩
theorem at_law_goes_on : FnAt K mg "_law_goes_on" (top 70) ["_law_kind"] := by
  obtain ⟨fd, F⟩ := s.def_ 47 (d := d__law_goes_on) rfl
  exact ⟨_, fd, He.glo_ok X G (s.fact 26 rfl), fun_of F, FunD.bindsN F fun _ _ _ _ _ _ us hl => match us, hl with | [_], _ => rfl⟩
theorem at_law_skeleton : FnAt K mg "_law_skeleton" (top 71) ["_law_cell", "_law_most"] := by
  obtain ⟨fd, F⟩ := s.def_ 48 (d := d__law_skeleton) rfl
  exact ⟨_, fd, He.glo_ok X G (s.fact 27 rfl), fun_of F, FunD.bindsN F fun _ _ _ _ _ _ us hl => match us, hl with | [_, _], _ => rfl⟩
theorem at_law_name : FnAt K mg "_law_name" (top 72) ["_law_p", "_law_k"] := by
  obtain ⟨fd, F⟩ := s.def_ 49 (d := d__law_name) rfl
  exact ⟨_, fd, He.glo_ok X G (s.fact 28 rfl), fun_of F, FunD.bindsN F fun _ _ _ _ _ _ us hl => match us, hl with | [_, _], _ => rfl⟩
theorem at_law_number : FnAt K mg "_law_number" (top 73) ["_law_more"] := by
  obtain ⟨fd, F⟩ := s.def_ 50 (d := d__law_number) rfl
  exact ⟨_, fd, He.glo_ok X G (s.fact 29 rfl), fun_of F, FunD.bindsN F fun _ _ _ _ _ _ us hl => match us, hl with | [_], _ => rfl⟩
theorem at_law_filled : FnAt K mg "_law_filled" (top 74) ["_law_row", "_law_code", "_law_numbers", "_law_tables"] := by
  obtain ⟨fd, F⟩ := s.def_ 51 (d := d__law_filled) rfl
  exact ⟨_, fd, He.glo_ok X G (s.fact 30 rfl), fun_of F, FunD.bindsN F fun _ _ _ _ _ _ us hl => match us, hl with | [_, _, _, _], _ => rfl⟩
theorem at_law_gone : FnAt K mg "_law_gone" (top 75) ["_law_kind", "_law_b", "_law_name_here"] := by
  obtain ⟨fd, F⟩ := s.def_ 52 (d := d__law_gone) rfl
  exact ⟨_, fd, He.glo_ok X G (s.fact 31 rfl), fun_of F, FunD.bindsN F fun _ _ _ _ _ _ us hl => match us, hl with | [_, _, _], _ => rfl⟩
theorem at_law_no_code : FnAt K mg "_law_no_code" (top 76) ["_law_rows"] := by
  obtain ⟨fd, F⟩ := s.def_ 53 (d := d__law_no_code) rfl
  exact ⟨_, fd, He.glo_ok X G (s.fact 32 rfl), fun_of F, FunD.bindsN F fun _ _ _ _ _ _ us hl => match us, hl with | [_], _ => rfl⟩
theorem at_law_marked_names : FnAt K mg "_law_marked_names" (top 77) ["_law_program_here"] := by
  obtain ⟨fd, F⟩ := s.def_ 54 (d := d__law_marked_names) rfl
  exact ⟨_, fd, He.glo_ok X G (s.fact 33 rfl), fun_of F, FunD.bindsN F fun _ _ _ _ _ _ us hl => match us, hl with | [_], _ => rfl⟩
theorem at_law_program : FnAt K mg "_law_program" (top 78) ["_law_cells", "_law_most"] := by
  obtain ⟨fd, F⟩ := s.def_ 55 (d := d__law_program) rfl
  exact ⟨_, fd, He.glo_ok X G (s.fact 34 rfl), fun_of F, FunD.bindsN F fun _ _ _ _ _ _ us hl => match us, hl with | [_, _], _ => rfl⟩
theorem at_law_exchanged : FnAt K mg "_law_exchanged" (top 79) ["_law_row", "_law_names", "_law_cell"] := by
  obtain ⟨fd, F⟩ := s.def_ 56 (d := d__law_exchanged) rfl
  exact ⟨_, fd, He.glo_ok X G (s.fact 35 rfl), fun_of F, FunD.bindsN F fun _ _ _ _ _ _ us hl => match us, hl with | [_, _, _], _ => rfl⟩
theorem at_law_spoilt : FnAt K mg "_law_spoilt" (top 80) ["_law_program_here", "_law_names", "_law_cell"] := by
  obtain ⟨fd, F⟩ := s.def_ 57 (d := d__law_spoilt) rfl
  exact ⟨_, fd, He.glo_ok X G (s.fact 36 rfl), fun_of F, FunD.bindsN F fun _ _ _ _ _ _ us hl => match us, hl with | [_, _, _], _ => rfl⟩
theorem at_law_asked : FnAt K mg "_law_asked" (top 81) ["_law_row"] := by
  obtain ⟨fd, F⟩ := s.def_ 58 (d := d__law_asked) rfl
  exact ⟨_, fd, He.glo_ok X G (s.fact 37 rfl), fun_of F, FunD.bindsN F fun _ _ _ _ _ _ us hl => match us, hl with | [_], _ => rfl⟩
theorem at_law_wants : FnAt K mg "_law_wants" (top 82) ["_law_row", "_law_there"] := by
  obtain ⟨fd, F⟩ := s.def_ 59 (d := d__law_wants) rfl
  exact ⟨_, fd, He.glo_ok X G (s.fact 38 rfl), fun_of F, FunD.bindsN F fun _ _ _ _ _ _ us hl => match us, hl with | [_, _], _ => rfl⟩
theorem at_law_stood : FnAt K mg "_law_stood" (top 83) ["_law_program_here"] := by
  obtain ⟨fd, F⟩ := s.def_ 60 (d := d__law_stood) rfl
  exact ⟨_, fd, He.glo_ok X G (s.fact 39 rfl), fun_of F, FunD.bindsN F fun _ _ _ _ _ _ us hl => match us, hl with | [_], _ => rfl⟩
theorem at_law_due : FnAt K mg "_law_due" (top 84) ["_law_program_here"] := by
  obtain ⟨fd, F⟩ := s.def_ 61 (d := d__law_due) rfl
  exact ⟨_, fd, He.glo_ok X G (s.fact 40 rfl), fun_of F, FunD.bindsN F fun _ _ _ _ _ _ us hl => match us, hl with | [_], _ => rfl⟩
theorem at_law_told : FnAt K mg "_law_told" (top 85) ["_law_program_here"] := by
  obtain ⟨fd, F⟩ := s.def_ 62 (d := d__law_told) rfl
  exact ⟨_, fd, He.glo_ok X G (s.fact 41 rfl), fun_of F, FunD.bindsN F fun _ _ _ _ _ _ us hl => match us, hl with | [_], _ => rfl⟩
theorem at_law_copied : FnAt K mg "_law_copied" (top 86) ["_law_row"] := by
  obtain ⟨fd, F⟩ := s.def_ 63 (d := d__law_copied) rfl
  exact ⟨_, fd, He.glo_ok X G (s.fact 42 rfl), fun_of F, FunD.bindsN F fun _ _ _ _ _ _ us hl => match us, hl with | [_], _ => rfl⟩
theorem at_law_bare : FnAt K mg "_law_bare" (top 87) ["_law_program_here"] := by
  obtain ⟨fd, F⟩ := s.def_ 64 (d := d__law_bare) rfl
  exact ⟨_, fd, He.glo_ok X G (s.fact 43 rfl), fun_of F, FunD.bindsN F fun _ _ _ _ _ _ us hl => match us, hl with | [_], _ => rfl⟩
theorem at_law_right : FnAt K mg "_law_right" (top 88) ["_law_program_here"] := by
  obtain ⟨fd, F⟩ := s.def_ 65 (d := d__law_right) rfl
  exact ⟨_, fd, He.glo_ok X G (s.fact 44 rfl), fun_of F, FunD.bindsN F fun _ _ _ _ _ _ us hl => match us, hl with | [_], _ => rfl⟩
theorem at_law : FnAt K mg "law" (top 89) ["_law_script"] := by
  obtain ⟨fd, F⟩ := s.def_ 66 (d := d_law) rfl
  exact ⟨_, fd, He.glo_ok X G (s.fact 45 rfl), fun_of F, FunD.bindsN F fun _ _ _ _ _ _ us hl => match us, hl with | [_], _ => rfl⟩
theorem txt_ok : Txt K mg where
  n_len := He.free_ok X G (s.fact 46 rfl)
  n_isinstance := He.free_ok X G (s.fact 47 rfl)
  n_all := He.free_ok X G (s.fact 48 rfl)
  n_sum := He.free_ok X G (s.fact 49 rfl)
  n_sorted := He.free_ok X G (s.fact 50 rfl)
  n_range := He.free_ok X G (s.fact 51 rfl)
  n_enumerate := He.free_ok X G (s.fact 52 rfl)
  n_dict := He.free_ok X G (s.fact 53 rfl)
  n_list := He.free_ok X G (s.fact 54 rfl)
  n_str := He.free_ok X G (s.fact 55 rfl)
  n_int := He.free_ok X G (s.fact 56 rfl)
  n_bool := He.free_ok X G (s.fact 57 rfl)
  n_tuple := He.free_ok X G (s.fact 58 rfl)
  c_SMALL := gstr X G (s.fact 67 rfl)
  c_MOST_LETTERS := gint X G (s.fact 59 rfl)
  c_BOXES := gint X G (s.fact 60 rfl)
  c_LEAST := gint X G (s.fact 61 rfl)
  c_GREATEST := gint X G (s.fact 62 rfl)
  c_MOST_DATA := gint X G (s.fact 63 rfl)
  c_MOST_PARTS := gint X G (s.fact 64 rfl)
  c_MOST_OF_PART := gint X G (s.fact 65 rfl)
  c_MOST_ROWS := gint X G (s.fact 66 rfl)
theorem gg_CodeRow : mg "CodeRow" = some (.ref (He.ga K "CodeRow")) := He.glo_ok X G (s.fact 84 rfl)
theorem gg_PartError : mg "PartError" = some (.ref (He.ga K "PartError")) := He.glo_ok X G (s.fact 85 rfl)
theorem gg_Lacking : mg "Lacking" = some (.ref (He.ga K "Lacking")) := He.glo_ok X G (s.fact 86 rfl)
theorem gg_WrongAim : mg "WrongAim" = some (.ref (He.ga K "WrongAim")) := He.glo_ok X G (s.fact 87 rfl)
theorem gg_Twice : mg "Twice" = some (.ref (He.ga K "Twice")) := He.glo_ok X G (s.fact 88 rfl)
theorem gg_NoEnd : mg "NoEnd" = some (.ref (He.ga K "NoEnd")) := He.glo_ok X G (s.fact 89 rfl)
theorem gg_MarkRow : mg "MarkRow" = some (.ref (He.ga K "MarkRow")) := He.glo_ok X G (s.fact 68 rfl)
theorem gg_NumbersRow : mg "NumbersRow" = some (.ref (He.ga K "NumbersRow")) := He.glo_ok X G (s.fact 82 rfl)
theorem gg_TableRow : mg "TableRow" = some (.ref (He.ga K "TableRow")) := He.glo_ok X G (s.fact 83 rfl)
theorem r_mg (r : Tr) : mg r.cls = some (.ref (He.ga K r.cls)) := He.glo_ok X G (r_glo s r)
end
theorem rowB_all (e : exL K = true) : ∀ r : Tr, rowB K r = true := by
  have h : reps.all (rowB K) = true := (He.ba (He.ba (He.ba (He.ba e).2).2).2).2
  have g : ∀ r ∈ reps, rowB K r = true := fun r m => List.all_eq_true.mp h r m
  intro r
  cases r
  · exact g (.mark "" true) (by simp [reps])
  · exact g (.set 0 0) (by simp [reps])
  · exact g (.add 0 0) (by simp [reps])
  · exact g (.take 0 0) (by simp [reps])
  · exact g (.say 0) (by simp [reps])
  · exact g (.ask 0) (by simp [reps])
  · exact g (.jump "") (by simp [reps])
  · exact g (.jumpif 0 "") (by simp [reps])
  · exact g (.call "") (by simp [reps])
  · exact g (.back) (by simp [reps])
  · exact g (.stop) (by simp [reps])
  · exact g (.load 0 0 "") (by simp [reps])
  · exact g (.jumpby 0 "") (by simp [reps])
  · exact g (.alike 0 "" "") (by simp [reps])
  · exact g (.numbers []) (by simp [reps])
  · exact g (.table []) (by simp [reps])
theorem meth_at {x m o q : Str} {st : Stmt} (hc : CA mg x = He.ga K x) (hm : Meth K (He.ga K x) m (He.ma K (He.ga K x) m)) (he : sameM K x m o = true) (F : ∃ fd, L2.Fun K m q st (He.ma K (He.ga K o) m) fd ∧ Binds K fd ["self"] []) : MethAt K mg x m (q, st) ["self"] := by
  have he : He.ma K (He.ga K x) m = He.ma K (He.ga K o) m := beq_iff_eq.mp he
  obtain ⟨fd, F, b⟩ := F
  rw [he] at hm
  exact ⟨_, fd, by rw [hc]; exact hm, F, b⟩
theorem clss_ok (X : K.In h) (G : h.Ns mainGlobals mg) (s : He.SaysD faL fnL K) (e : exL K = true) : Clss K mg := by
  have hb := rowB_all e
  have hcom := He.ba (He.ba e).1
  have ca : ∀ r : Tr, CA mg r.cls = He.ga K r.cls := fun r => ca_of (r_mg X G s r)
  have cm := ca_of (gg_MarkRow X G s)
  have cc := ca_of (gg_CodeRow X G s)
  have cn := ca_of (gg_NumbersRow X G s)
  have ct := ca_of (gg_TableRow X G s)
  refine ⟨fun r => by rw [ca r]; exact r_mg X G s r, fun r => ?_, fun r => by rw [ca r]; exact He.noat_ok (r_noat s r), fun r => ?_, fun r => ?_, fun r => ?_, fun r => ?_, fun r => ?_, by rw [cm]; exact gg_MarkRow X G s, by rw [cc]; exact gg_CodeRow X G s, by rw [cn]; exact gg_NumbersRow X G s, by rw [ct]; exact gg_TableRow X G s, fun r => ?_, fun r => ?_, fun r => ?_, fun r => ?_, fun r => ?_⟩
  · obtain ⟨b1, b⟩ := He.ba (hb r)
    obtain ⟨b2, b⟩ := He.ba b
    obtain ⟨b3, b⟩ := He.ba b
    obtain ⟨b4, b⟩ := He.ba b
    obtain ⟨b5, b⟩ := He.ba b
    obtain ⟨b6, b⟩ := He.ba b
    obtain ⟨b7, b⟩ := He.ba b
    obtain ⟨b8, b⟩ := He.ba b
    obtain ⟨b9, b⟩ := He.ba b
    obtain ⟨b10, b⟩ := He.ba b
    obtain ⟨b11, b⟩ := He.ba b
    obtain ⟨b12, b13⟩ := He.ba b
    rw [ca r]
    exact ⟨He.cls_ok (r_cls s r), He.eqO_ok b1, He.eqO_ok hcom.1, oneB_ok hcom.2, oneB_ok b2, oneB_ok b4⟩
  · obtain ⟨b1, b⟩ := He.ba (hb r)
    obtain ⟨b2, b⟩ := He.ba b
    obtain ⟨b3, b⟩ := He.ba b
    obtain ⟨b4, b⟩ := He.ba b
    obtain ⟨b5, b⟩ := He.ba b
    obtain ⟨b6, b⟩ := He.ba b
    obtain ⟨b7, b⟩ := He.ba b
    obtain ⟨b8, b⟩ := He.ba b
    obtain ⟨b9, b⟩ := He.ba b
    obtain ⟨b10, b⟩ := He.ba b
    obtain ⟨b11, b⟩ := He.ba b
    obtain ⟨b12, b13⟩ := He.ba b
    rw [ca r, cm]
    exact oneB_ok b5
  · obtain ⟨b1, b⟩ := He.ba (hb r)
    obtain ⟨b2, b⟩ := He.ba b
    obtain ⟨b3, b⟩ := He.ba b
    obtain ⟨b4, b⟩ := He.ba b
    obtain ⟨b5, b⟩ := He.ba b
    obtain ⟨b6, b⟩ := He.ba b
    obtain ⟨b7, b⟩ := He.ba b
    obtain ⟨b8, b⟩ := He.ba b
    obtain ⟨b9, b⟩ := He.ba b
    obtain ⟨b10, b⟩ := He.ba b
    obtain ⟨b11, b⟩ := He.ba b
    obtain ⟨b12, b13⟩ := He.ba b
    rw [ca r, cc]
    exact oneB_ok b6
  · obtain ⟨b1, b⟩ := He.ba (hb r)
    obtain ⟨b2, b⟩ := He.ba b
    obtain ⟨b3, b⟩ := He.ba b
    obtain ⟨b4, b⟩ := He.ba b
    obtain ⟨b5, b⟩ := He.ba b
    obtain ⟨b6, b⟩ := He.ba b
    obtain ⟨b7, b⟩ := He.ba b
    obtain ⟨b8, b⟩ := He.ba b
    obtain ⟨b9, b⟩ := He.ba b
    obtain ⟨b10, b⟩ := He.ba b
    obtain ⟨b11, b⟩ := He.ba b
    obtain ⟨b12, b13⟩ := He.ba b
    rw [ca r, cn]
    exact oneB_ok b7
  · obtain ⟨b1, b⟩ := He.ba (hb r)
    obtain ⟨b2, b⟩ := He.ba b
    obtain ⟨b3, b⟩ := He.ba b
    obtain ⟨b4, b⟩ := He.ba b
    obtain ⟨b5, b⟩ := He.ba b
    obtain ⟨b6, b⟩ := He.ba b
    obtain ⟨b7, b⟩ := He.ba b
    obtain ⟨b8, b⟩ := He.ba b
    obtain ⟨b9, b⟩ := He.ba b
    obtain ⟨b10, b⟩ := He.ba b
    obtain ⟨b11, b⟩ := He.ba b
    obtain ⟨b12, b13⟩ := He.ba b
    rw [ca r, ct]
    exact oneB_ok b8
  · obtain ⟨b1, b⟩ := He.ba (hb r)
    obtain ⟨b2, b⟩ := He.ba b
    obtain ⟨b3, b⟩ := He.ba b
    obtain ⟨b4, b⟩ := He.ba b
    obtain ⟨b5, b⟩ := He.ba b
    obtain ⟨b6, b⟩ := He.ba b
    obtain ⟨b7, b⟩ := He.ba b
    obtain ⟨b8, b⟩ := He.ba b
    obtain ⟨b9, b⟩ := He.ba b
    obtain ⟨b10, b⟩ := He.ba b
    obtain ⟨b11, b⟩ := He.ba b
    obtain ⟨b12, b13⟩ := He.ba b
    rw [ca r]
    exact He.eqO_ok b3
  · obtain ⟨b1, b⟩ := He.ba (hb r)
    obtain ⟨b2, b⟩ := He.ba b
    obtain ⟨b3, b⟩ := He.ba b
    obtain ⟨b4, b⟩ := He.ba b
    obtain ⟨b5, b⟩ := He.ba b
    obtain ⟨b6, b⟩ := He.ba b
    obtain ⟨b7, b⟩ := He.ba b
    obtain ⟨b8, b⟩ := He.ba b
    obtain ⟨b9, b⟩ := He.ba b
    obtain ⟨b10, b⟩ := He.ba b
    obtain ⟨b11, b⟩ := He.ba b
    obtain ⟨b12, b13⟩ := He.ba b
    obtain ⟨fd, F, bb⟩ := f_Row_init s
    have hm := He.mkr_ok (r_mkr s r)
    have he : He.ma K (He.ga K r.cls) "__init__" = He.ma K (He.ga K "Row") "__init__" := beq_iff_eq.mp b9
    rw [he] at hm
    exact ⟨_, fd, by rw [ca r]; exact hm, F, bb⟩
  · obtain ⟨b1, b⟩ := He.ba (hb r)
    obtain ⟨b2, b⟩ := He.ba b
    obtain ⟨b3, b⟩ := He.ba b
    obtain ⟨b4, b⟩ := He.ba b
    obtain ⟨b5, b⟩ := He.ba b
    obtain ⟨b6, b⟩ := He.ba b
    obtain ⟨b7, b⟩ := He.ba b
    obtain ⟨b8, b⟩ := He.ba b
    obtain ⟨b9, b⟩ := He.ba b
    obtain ⟨b10, b⟩ := He.ba b
    obtain ⟨b11, b⟩ := He.ba b
    obtain ⟨b12, b13⟩ := He.ba b
    have hm := He.meth_ok (r_words s r)
    have hc := ca r
    clear b1 b2 b3 b4 b5 b6 b7 b8 b9
    cases r
    · exact meth_at hc hm b10 (f_Row_words s)
    · exact meth_at hc hm b10 (f_Row_words s)
    · exact meth_at hc hm b10 (f_Row_words s)
    · exact meth_at hc hm b10 (f_Row_words s)
    · exact meth_at hc hm b10 (f_Row_words s)
    · exact meth_at hc hm b10 (f_Row_words s)
    · exact meth_at hc hm b10 (f_Row_words s)
    · exact meth_at hc hm b10 (f_Row_words s)
    · exact meth_at hc hm b10 (f_Row_words s)
    · exact meth_at hc hm b10 (f_Row_words s)
    · exact meth_at hc hm b10 (f_Row_words s)
    · exact meth_at hc hm b10 (f_Row_words s)
    · exact meth_at hc hm b10 (f_Row_words s)
    · exact meth_at hc hm b10 (f_Row_words s)
    · exact meth_at hc hm b10 (f_DataRow_words s)
    · exact meth_at hc hm b10 (f_DataRow_words s)
  · obtain ⟨b1, b⟩ := He.ba (hb r)
    obtain ⟨b2, b⟩ := He.ba b
    obtain ⟨b3, b⟩ := He.ba b
    obtain ⟨b4, b⟩ := He.ba b
    obtain ⟨b5, b⟩ := He.ba b
    obtain ⟨b6, b⟩ := He.ba b
    obtain ⟨b7, b⟩ := He.ba b
    obtain ⟨b8, b⟩ := He.ba b
    obtain ⟨b9, b⟩ := He.ba b
    obtain ⟨b10, b⟩ := He.ba b
    obtain ⟨b11, b⟩ := He.ba b
    obtain ⟨b12, b13⟩ := He.ba b
    have hm := He.meth_ok (r_asked s r)
    have hc := ca r
    clear b1 b2 b3 b4 b5 b6 b7 b8 b9
    cases r
    · exact meth_at hc hm b11 (f_Row_asked s)
    · exact meth_at hc hm b11 (f_Row_asked s)
    · exact meth_at hc hm b11 (f_Row_asked s)
    · exact meth_at hc hm b11 (f_Row_asked s)
    · exact meth_at hc hm b11 (f_Row_asked s)
    · exact meth_at hc hm b11 (f_Row_asked s)
    · exact meth_at hc hm b11 (f_AimRow_asked s)
    · exact meth_at hc hm b11 (f_AimRow_asked s)
    · exact meth_at hc hm b11 (f_AimRow_asked s)
    · exact meth_at hc hm b11 (f_Row_asked s)
    · exact meth_at hc hm b11 (f_Row_asked s)
    · exact meth_at hc hm b11 (f_AimRow_asked s)
    · exact meth_at hc hm b11 (f_AimRow_asked s)
    · exact meth_at hc hm b11 (f_AlikeRow_asked s)
    · exact meth_at hc hm b11 (f_Row_asked s)
    · exact meth_at hc hm b11 (f_TableRow_asked s)
  · obtain ⟨b1, b⟩ := He.ba (hb r)
    obtain ⟨b2, b⟩ := He.ba b
    obtain ⟨b3, b⟩ := He.ba b
    obtain ⟨b4, b⟩ := He.ba b
    obtain ⟨b5, b⟩ := He.ba b
    obtain ⟨b6, b⟩ := He.ba b
    obtain ⟨b7, b⟩ := He.ba b
    obtain ⟨b8, b⟩ := He.ba b
    obtain ⟨b9, b⟩ := He.ba b
    obtain ⟨b10, b⟩ := He.ba b
    obtain ⟨b11, b⟩ := He.ba b
    obtain ⟨b12, b13⟩ := He.ba b
    have hm := He.meth_ok (r_wants s r)
    have hc := ca r
    clear b1 b2 b3 b4 b5 b6 b7 b8 b9
    cases r
    · exact meth_at hc hm b12 (f_Row_wants s)
    · exact meth_at hc hm b12 (f_Row_wants s)
    · exact meth_at hc hm b12 (f_Row_wants s)
    · exact meth_at hc hm b12 (f_Row_wants s)
    · exact meth_at hc hm b12 (f_Row_wants s)
    · exact meth_at hc hm b12 (f_Row_wants s)
    · exact meth_at hc hm b12 (f_AimRow_wants s)
    · exact meth_at hc hm b12 (f_AimRow_wants s)
    · exact meth_at hc hm b12 (f_AimRow_wants s)
    · exact meth_at hc hm b12 (f_Row_wants s)
    · exact meth_at hc hm b12 (f_Row_wants s)
    · exact meth_at hc hm b12 (f_LoadRow_wants s)
    · exact meth_at hc hm b12 (f_JumpByRow_wants s)
    · exact meth_at hc hm b12 (f_AlikeRow_wants s)
    · exact meth_at hc hm b12 (f_Row_wants s)
    · exact meth_at hc hm b12 (f_TableRow_wants s)
  · obtain ⟨b1, b⟩ := He.ba (hb r)
    obtain ⟨b2, b⟩ := He.ba b
    obtain ⟨b3, b⟩ := He.ba b
    obtain ⟨b4, b⟩ := He.ba b
    obtain ⟨b5, b⟩ := He.ba b
    obtain ⟨b6, b⟩ := He.ba b
    obtain ⟨b7, b⟩ := He.ba b
    obtain ⟨b8, b⟩ := He.ba b
    obtain ⟨b9, b⟩ := He.ba b
    obtain ⟨b10, b⟩ := He.ba b
    obtain ⟨b11, b⟩ := He.ba b
    obtain ⟨b12, b13⟩ := He.ba b
    have hm := He.meth_ok (r_goes_on s r)
    have hc := ca r
    clear b1 b2 b3 b4 b5 b6 b7 b8 b9
    cases r
    · exact meth_at hc hm b13 (f_Row_goes_on s)
    · exact meth_at hc hm b13 (f_CodeRow_goes_on s)
    · exact meth_at hc hm b13 (f_CodeRow_goes_on s)
    · exact meth_at hc hm b13 (f_CodeRow_goes_on s)
    · exact meth_at hc hm b13 (f_CodeRow_goes_on s)
    · exact meth_at hc hm b13 (f_CodeRow_goes_on s)
    · exact meth_at hc hm b13 (f_JumpRow_goes_on s)
    · exact meth_at hc hm b13 (f_CodeRow_goes_on s)
    · exact meth_at hc hm b13 (f_CodeRow_goes_on s)
    · exact meth_at hc hm b13 (f_BackRow_goes_on s)
    · exact meth_at hc hm b13 (f_StopRow_goes_on s)
    · exact meth_at hc hm b13 (f_CodeRow_goes_on s)
    · exact meth_at hc hm b13 (f_JumpByRow_goes_on s)
    · exact meth_at hc hm b13 (f_CodeRow_goes_on s)
    · exact meth_at hc hm b13 (f_Row_goes_on s)
    · exact meth_at hc hm b13 (f_Row_goes_on s)
theorem oex_of {C : Addr} (e : excB K C = true) (sa : PySem.W.findIn K (.ref C) "__setattr__" = some (some (.builtin "object.__setattr__"))) (su : PySem.W.subIn K (.ref C) (.type "BaseException") = some true) (ty : PySem.W.typeIn K (.ref C) = some (.type "type")) (kp : PySem.W.keepIn K (.ref C) = true) : OexC K C := by
  refine ⟨?_, sa, su, ty, kp⟩
  unfold excB at e
  split at e
  · rename_i dd cd sl ho
    split at e
    · rename_i C' bm k0 k1 k2 k3 n k5 hm hs
      obtain ⟨e1, e⟩ := He.ba e
      obtain ⟨e2, e⟩ := He.ba e
      obtain ⟨e3, e⟩ := He.ba e
      obtain ⟨e4, e5⟩ := He.ba e
      have e1 := beq_iff_eq.mp e1
      have e2 := beq_iff_eq.mp e2
      subst e1 e2
      obtain ⟨nm, bs, mro, ns, qn, hd, sn, sub, ab, col, del⟩ := cd
      dsimp only at hm e3 e4
      subst hm
      have e3 : del = false := by simpa using e3
      subst e3
      subst e4
      have hsl : sl = #[k0, k1, k2, k3, some (.builtin "ValueError.__new__"), k5] := by
        obtain ⟨l⟩ := sl
        simp only at hs
        rw [hs]
      subst hsl
      exact ⟨nm, qn, ns, bs, bm, sn, sub, ab, col, dd, k0, k1, k2, k3, k5, ho, e5⟩
    · cases e
  · cases e
theorem typB_ok {v : Value} {n : String} (e : typB K v n = true) : PySem.W.typeIn K v = some (.type n) := by
  unfold typB at e
  split at e
  · rename_i t ht
    rw [ht, beq_iff_eq.mp e]
  · cases e
structure ErrA (K : PySem.W.Frag) (x : Str) (l : Bool) : Prop where
  oex : OexC K (He.ga K x)
  ini : PySem.W.findIn K (.ref (He.ga K x)) "__init__" = some (some (.ref (He.ma K (He.ga K x) "__init__")))
  tin : PySem.W.typeIn K (.ref (He.ma K (He.ga K x) "__init__")) = some (.type "function")
  f1 : PySem.W.findIn K (.ref (He.ga K x)) "name" = some none
  f2 : PySem.W.findIn K (.ref (He.ga K x)) "part" = some none
  f3 : PySem.W.findIn K (.ref (He.ga K x)) "row" = some none
  hg : PySem.W.findIn K (.ref (He.ga K x)) "__getattribute__" = some (some (.builtin "BaseException.__getattribute__"))
  hk : PySem.W.findIn K (.ref (He.ga K x)) "__getattr__" = some none
  hd : PySem.W.hasDictIn K (He.ga K x) = true
  ha : PySem.W.findIn K (.ref (He.ga K x)) "__class__" = some (some (.builtin "object.__class__"))
  hm : PySem.W.mroIn K (He.ga K x) (.type "object") = some true
  ex : PySem.W.exmOne K (.ref (He.ga K x)) (.ref (He.ga K "PartError")) = some true
  k1 : PySem.W.kitOne K (.ref (He.ga K x)) (.ref (He.ga K "Lacking")) = some l
  k2 : PySem.W.kitOne K (.ref (He.ga K x)) (.ref (He.ga K "WrongAim")) = some (!l)
  k3 : PySem.W.kitOne K (.ref (He.ga K x)) (.ref (He.ga K "Twice")) = some false
  k4 : PySem.W.kitOne K (.ref (He.ga K x)) (.ref (He.ga K "NoEnd")) = some false
theorem errA_ok {x : Str} {l : Bool} (b : errB K x l = true) : ErrA K x l := by
  obtain ⟨b1, b⟩ := He.ba b
  obtain ⟨b2, b⟩ := He.ba b
  obtain ⟨b3, b⟩ := He.ba b
  obtain ⟨b4, b⟩ := He.ba b
  obtain ⟨b5, b⟩ := He.ba b
  obtain ⟨b6, b⟩ := He.ba b
  obtain ⟨b7, b⟩ := He.ba b
  obtain ⟨b8, b⟩ := He.ba b
  obtain ⟨b9, b⟩ := He.ba b
  obtain ⟨b10, b⟩ := He.ba b
  obtain ⟨b11, b⟩ := He.ba b
  obtain ⟨b12, b⟩ := He.ba b
  obtain ⟨b13, b⟩ := He.ba b
  obtain ⟨b14, b⟩ := He.ba b
  obtain ⟨b15, b⟩ := He.ba b
  obtain ⟨b16, b⟩ := He.ba b
  obtain ⟨b17, b⟩ := He.ba b
  obtain ⟨b18, b⟩ := He.ba b
  obtain ⟨b19, b⟩ := He.ba b
  exact ⟨oex_of b1 (He.eqO_ok b2) (oneB_ok b3) (typB_ok b4) b5, He.eqO_ok b6, typB_ok b7, He.eqO_ok b8, He.eqO_ok b9, He.eqO_ok b10, He.eqO_ok b11, He.eqO_ok b12, b13, He.eqO_ok b14, oneB_ok b15, oneB_ok b16, oneB_ok b17, oneB_ok b18, oneB_ok b19, oneB_ok b⟩
theorem errs (e : exL K = true) : ErrA K "Lacking" true ∧ ErrA K "WrongAim" false :=
  ⟨errA_ok (He.ba (He.ba (He.ba e).2).2).1, errA_ok (He.ba (He.ba (He.ba (He.ba e).2).2).2).1⟩
theorem base_ok (X : K.In h) (G : h.Ns mainGlobals mg) (s : He.SaysD faL fnL K) (e : exL K = true) : BaseE K mg (CA mg "PartError") := by
  have c := ca_of (gg_PartError X G s)
  obtain ⟨b1, b⟩ := He.ba (He.ba (He.ba e).2).1
  obtain ⟨b2, b3⟩ := He.ba b
  rw [c]
  refine ⟨gg_PartError X G s, b1, He.eqO_ok b2, ?_⟩
  split at b3
  · rename_i n hn
    rw [hn, beq_iff_eq.mp b3]
  · cases b3
theorem lack_ok (X : K.In h) (G : h.Ns mainGlobals mg) (s : He.SaysD faL fnL K) (e : exL K = true) : ErrC K mg "Lacking" "Lacking.__init__" sLacking___init := by
  have c := ca_of (gg_Lacking X G s)
  have a := (errs e).1
  obtain ⟨fd, F, b⟩ := f_Lacking_init s
  exact ⟨by rw [c]; exact gg_Lacking X G s, by rw [c]; exact a.oex, ⟨_, fd, by rw [c]; exact a.ini, a.tin, F, b⟩, by rw [c]; exact a.f1, by rw [c]; exact a.f2, by rw [c]; exact a.f3⟩
theorem wrong_ok (X : K.In h) (G : h.Ns mainGlobals mg) (s : He.SaysD faL fnL K) (e : exL K = true) : ErrC K mg "WrongAim" "WrongAim.__init__" sWrongAim___init := by
  have c := ca_of (gg_WrongAim X G s)
  have a := (errs e).2
  obtain ⟨fd, F, b⟩ := f_WrongAim_init s
  exact ⟨by rw [c]; exact gg_WrongAim X G s, by rw [c]; exact a.oex, ⟨_, fd, by rw [c]; exact a.ini, a.tin, F, b⟩, by rw [c]; exact a.f1, by rw [c]; exact a.f2, by rw [c]; exact a.f3⟩
theorem errT_ok (X : K.In h) (G : h.Ns mainGlobals mg) (s : He.SaysD faL fnL K) (e : exL K = true) : ErrT K mg := by
  have c0 := ca_of (gg_PartError X G s)
  have c1 := ca_of (gg_Lacking X G s)
  have c2 := ca_of (gg_WrongAim X G s)
  have c3 := ca_of (gg_Twice X G s)
  have c4 := ca_of (gg_NoEnd X G s)
  have hcom := He.ba (He.ba e).1
  have both : ∀ u : Due, ∃ x, CA mg (dueC u) = He.ga K x ∧ ErrA K x u.lack := fun u => by
    unfold dueC
    cases hu : u.lack with
    | true => exact ⟨"Lacking", c1, (errs e).1⟩
    | false => exact ⟨"WrongAim", c2, (errs e).2⟩
  refine ⟨by rw [c0]; exact gg_PartError X G s, by rw [c1]; exact gg_Lacking X G s, by rw [c2]; exact gg_WrongAim X G s, by rw [c3]; exact gg_Twice X G s, by rw [c4]; exact gg_NoEnd X G s, fun u => ?_, fun u => ?_, fun u => ?_, fun u => ?_, fun u => ?_, fun u => ?_, fun u => ?_, fun u => ?_, fun u => ?_⟩
  all_goals
    obtain ⟨x, hx, a⟩ := both u
    rw [hx]
  · exact ⟨a.hg, a.hk, a.oex.exC, a.hd, a.ha, He.eqO_ok hcom.1, oneB_ok hcom.2, a.hm⟩
  · rw [c0]; exact a.ex
  · rw [c1]; exact a.k1
  · rw [c2]; exact a.k2
  · rw [c3]; exact a.k3
  · rw [c4]; exact a.k4
  · exact a.f1
  · exact a.f2
  · exact a.f3
theorem facts {P : Program} {w : World} {f : Addr} (X : K.In h) (G : h.Ns mainGlobals mg) (hfa : mg ("law" : Str) = some (.ref f)) (c : obK K = vK) :
    ∃ fd : FuncData, (∀ (s : Shared) (v : Value), BindsTo s fd ⟨[v], []⟩ [("_law_script", v)]) ∧ ∀ base : Heap, K.In base → base.Ns mainGlobals mg → FnOk P w K mg base CX0 10 f fd ["_law_script"] (spLaw K) := by
  have s := says_of c
  have e := ex_of c
  have T := txt_ok X G s
  have TC := clss_ok X G s e
  have BE := base_ok X G s e
  have TL := lack_ok X G s e
  have TW := wrong_ok X G s e
  have TE := errT_ok X G s e
  obtain ⟨fd, F⟩ := s.def_ 66 (d := d_law) rfl
  have e2 := hfa.symm.trans (He.glo_ok X G (s.fact 45 rfl))
  cases e2
  have b := FunD.bindsA (ps := ["_law_script"]) F fun _ _ _ _ _ _ us hl => match us, hl with | [_], _ => rfl
  refine ⟨fd, fun s v => b s [v] rfl, fun base _ _ => ?_⟩
  have g_is_box := ok_is_box (P := P) (w := w) (base := base) (at_is_box X G s) T
  have g_is_plain := ok_is_plain (P := P) (w := w) (base := base) (at_is_plain X G s) T
  have g_is_word := ok_is_word (P := P) (w := w) (base := base) (at_is_word X G s) T
  have g_with_boxes := ok_with_boxes (P := P) (w := w) (base := base) (at_with_boxes X G s) T TC g_is_box
  have g_with_aim := ok_with_aim (P := P) (w := w) (base := base) (at_with_aim X G s) T TC g_is_box g_is_word
  have g_with_list := ok_with_list (P := P) (w := w) (base := base) (at_with_list X G s) T TC g_is_plain g_is_word
  have g_row_of := ok_row_of (P := P) (w := w) (base := base) (at_row_of X G s) T TC g_is_box g_is_plain g_is_word g_with_boxes g_with_aim g_with_list
  have g_is_marked := ok_is_marked (P := P) (w := w) (base := base) (at_is_marked X G s) T
  have g_count_marks := ok_count_marks (P := P) (w := w) (base := base) (at_count_marks X G s) T g_is_marked
  have g_is_part := ok_is_part (P := P) (w := w) (base := base) (at_is_part X G s) T g_is_word g_count_marks
  have g_checked_form := ok_checked_form (P := P) (w := w) (base := base) (at_checked_form X G s) T g_is_part g_count_marks
  have g_next_behind := ok_next_behind (P := P) (w := w) (base := base) (at_next_behind X G s) T TC
  have g_ends_well := ok_ends_well (P := P) (w := w) (base := base) (at_ends_well X G s) T TC g_next_behind
  have g_looked_at := ok_looked_at (P := P) (w := w) (base := base) (at_looked_at X G s) T TC g_checked_form g_row_of g_ends_well
  have g_bare := ok_bare (P := P) (w := w) (base := base) (at_bare X G s) T TC
  have g_marks_in := ok_marks_in (P := P) (w := w) (base := base) (at_marks_in X G s) T TC (at_part_name X G s)
  have g_standing_in := ok_standing_in (P := P) (w := w) (base := base) (at_standing_in X G s) T g_marks_in
  have g_is_wanted := ok_is_wanted (P := P) (w := w) (base := base) (at_is_wanted X G s) T TC
  have g_checked_aims := ok_checked_aims (P := P) (w := w) (base := base) (at_checked_aims X G s) T TC BE TL TW g_bare g_is_wanted
  have g_let_by := ok_let_by (P := P) (w := w) (base := base) (at_let_by X G s) T g_looked_at g_standing_in g_checked_aims g_bare
  have g_bound := ok_bound (P := P) (w := w) (base := base) (at_bound X G s) T TC g_let_by
  have g_asked := ok_law_asked (P := P) (w := w) (base := base) (at_law_asked X G s) T
  have g_wants := ok_law_wants (P := P) (w := w) (base := base) (at_law_wants X G s) T
  have g_copied := ok_law_copied (P := P) (w := w) (base := base) (at_law_copied X G s) T
  have g_stood := ok_law_stood (P := P) (w := w) (base := base) (at_law_stood X G s) T
  have g_due := ok_law_due (P := P) (w := w) (base := base) (at_law_due X G s) T g_stood g_asked g_wants
  have g_lbare := ok_law_bare (P := P) (w := w) (base := base) (at_law_bare X G s) T
  have g_told := ok_law_told (P := P) (w := w) (base := base) (at_law_told X G s) T TE g_bound
  have g_right := ok_law_right (P := P) (w := w) (base := base) (at_law_right X G s) T g_told g_due g_lbare g_copied g_bound
  have g_mixed := ok_mixed (P := P) (w := w) (base := base) (at_law_mixed X G s) T
  have g_cell_at := ok_cell_at (P := P) (w := w) (base := base) (at_law_cell_at X G s) T
  have g_parts := ok_law_parts (P := P) (w := w) (base := base) (at_law_parts X G s) T g_mixed
  have g_kinds := ok_law_kinds (P := P) (w := w) (base := base) (at_law_kinds X G s) T
  have g_goes := ok_law_goes_on (P := P) (w := w) (base := base) (at_law_goes_on X G s) T
  have g_skeleton := ok_law_skeleton (P := P) (w := w) (base := base) (at_law_skeleton X G s) T g_parts g_kinds g_goes
  have g_name := ok_law_name (P := P) (w := w) (base := base) (at_law_name X G s) T
  have g_number := ok_law_number (P := P) (w := w) (base := base) (at_law_number X G s) T
  have g_gone := ok_law_gone (P := P) (w := w) (base := base) (at_law_gone X G s) T
  have g_filled := ok_law_filled (P := P) (w := w) (base := base) (at_law_filled X G s) T g_number g_gone
  have g_no_code := ok_law_no_code (P := P) (w := w) (base := base) (at_law_no_code X G s) T
  have g_mnames := ok_law_marked_names (P := P) (w := w) (base := base) (at_law_marked_names X G s) T
  have g_exch := ok_law_exchanged (P := P) (w := w) (base := base) (at_law_exchanged X G s) T
  have g_spoilt := ok_law_spoilt (P := P) (w := w) (base := base) (at_law_spoilt X G s) T g_asked g_exch
  have g_program := ok_law_program (P := P) (w := w) (base := base) (at_law_program X G s) T g_skeleton g_no_code g_name g_filled
  exact ok_law (fun_of F) T g_parts g_cell_at g_program g_right g_mnames g_spoilt
end
end Fj
set_option maxHeartbeats 0
open PySem PySem.W PySem.Calls PyProof.Rows
theorem PySem.Challenge.cw_farjump_k18_aims_holds : PySem.Challenge.rw_farjump_k18_aims.Holds := by
  refine Fj.frame ?_
  refine L2.walk_ofE (l := PySem.Challenge.rw_farjump_k18_aims) (n := 63) (k := 10) (x := "_law_script") (CX := L2.CX0) rfl (by decide) (by kernel_rfl) ⟨rfl, by decide, by decide⟩ ?F (fun _ _ _ _ z => z)
  intro w mg fa h Y G hmg0
  obtain ⟨K, KX, c⟩ := Y
  have hmg : mg ("law" : PySem.Str) = some (.ref fa) := by
    have e : (HandSHeadRun.topDef (OpenLaw.row PySem.Challenge.rw_farjump_k18_aims).prog 89).name = ("law" : PySem.Str) := by kernel_rfl
    rw [← e]
    exact hmg0
  obtain ⟨fd, hb, hF⟩ := Fj.facts (P := (PySem.Challenge.rw_farjump_k18_aims).prog) (w := w) KX G hmg c
  exact ⟨K, fd, Fj.spLaw K, KX, hb, fun H a ns hl _ hS => ⟨a, ns, rfl, hS, fun _ => rfl⟩, hF⟩
