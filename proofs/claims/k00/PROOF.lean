import PyProof.Rows.All
import Wide.All
import OpenK.AllK
import Wide.FinOn
import HandS.ForMost
import HandS.Exc
import HandS.TryMany
import HandS.CallSlots
import HandS.IsInst
import HandS.Wide
import HandS.TupAny
import HandS.Strs
import HandS.ExcInit
import HandS.Flow
import HandS.DeepEq
import HandS.Style
import HandS.Text
import HandS.Dict
import HandS.Iter
import HandS.Zip
import HandS.Comp
import HandS.SortInts
import HandS.WordsExc
import HandS.ExcField
import KE.KExcInit
import HandS.Defaults
import HandS.Ends
import HandS.FStr
import KE.KRevSl
import HandS.Conv
import HandS.MakeKwOnly
import HandS.OwnEq
import PyProof.ReprLen
import HandS.TupMul
import KE.KExcIs
import HandS.Head0
import HandS.Head1
import HandS.Head2
import HandS.HeadEnd
import HandS.HeadHook1
import HandS.HeadHook2
import HandS.HeadHook3
import HandS.HeadHook4
import HandS.HeadNt
import KE.KStateDown
import PySem.Challenge.RW_shapebetween_k00_errors_by_themselves
set_option Elab.async false
set_option linter.all false
set_option maxRecDepth 100000
set_option maxHeartbeats 4000000
/-! DLT: tuples that are tracked with their very object (so that they are known to have no dict of their own): display, +, slice, tuple(list), index. -/
namespace L2.DL
open PySem PySem.Spec PyProof.Rows
/-- a tuple's object -/
def tupOb (its : List Value) : Obj := { cls := .type "tuple", data := .seq its.toArray }
/-- at a new address: a tuple of xs, its object known -/
def NewT (xs : List V) (H : Hp) (Q : VK) : Prop := ∀ p o, H p = none → o.cls = .type "tuple" → o.dict = none → Q (.ref p) (upd H p (.frz o (.tup xs)))
section
variable {X : Cx} {es : List Expr} {t : TA} {pos : Pos}
theorem laidT {pins : List (Addr × Obj)} {σ : L2.St} {H : Hp} {s : Shared} {its : List Value} {xs : List V} {Q : VK} (I : Inv X pins σ H s) (r : Vals xs its) (hz : xs.length ≤ sizeLine) (q : NewT xs H Q) :
    EP X pins σ Q (.ref s.heap.objs.size) { s with heap := s.heap.push (tupOb its) } := by
  have new : ObjOk X.prog X.w (upd H s.heap.objs.size (.frz (tupOb its) (.tup xs))) (s.heap.push (tupOb its)) s.heap.objs.size (.frz (tupOb its) (.tup xs)) :=
    ⟨Heap.get?_push_size _ rfl, hz, its, r, ⟨_, Heap.get?_push_size _ rfl, rfl, _, rfl⟩⟩
  exact ⟨.ref s.heap.objs.size, _, I.laid (t' := s.toks) (fun b u e => Heap.get?_push_of_some _ e) (Nat.le_refl _) new, rfl, q _ _ (I.hok.fresh (Nat.le_refl _)) rfl rfl⟩
def tTupX (t : TA) : TE := fun σ H Q => t σ H fun xs H1 => xs.length ≤ sizeLine ∧ NewT xs H1 Q
theorem pe_tupX {n} (h : PA X es t) : PE X (.Tuple es n pos) (tTupX t) := by
  refine ⟨fun pins s σ H Q I hq => wpAny_Tuple_spliced (thn (h.run pos pins s σ H _ I hq) fun us s1 ⟨xs, H1, I1, r, z, q⟩ => ?_)⟩
  exact ⟨by rw [← r.length]; exact z, laidT I1 r z q⟩
def rCatX (K : PySem.W.Frag) : R2 := fun x y H Q => ∃ a b xs ys, x = .ref a ∧ y = .ref b ∧ SqT K H a xs ∧ SqT K H b ys ∧ xs.length + ys.length ≤ sizeLine ∧ (xs = [] → Q (.ref b) H) ∧ (xs ≠ [] → ys = [] → Q (.ref a) H) ∧ (xs ≠ [] → ys ≠ [] → NewT (xs ++ ys) H Q)
theorem op_catX : OpR X (binaryOp .Add) (rCatX X.K) := by
  rintro pins s σ H x y v u Q I rx ry ⟨a, b, xs, ys, rfl, rfl, ha, hb, hz, q0, q1, q2⟩
  by_cases hx : xs = []
  · exact op_catA pins s σ H _ _ v u Q I rx ry ⟨a, b, xs, ys, rfl, rfl, ha, hb, hz, q0, fun n => (n hx).elim, fun n => (n hx).elim⟩
  · cases rx
    cases ry
    obtain ⟨i1, r1, p1, _⟩ := I.tuple ha
    obtain ⟨i2, r2, p2, _⟩ := I.tuple hb
    have n1 : i1 ≠ [] := fun z => hx (r1.nil_iff.mp z)
    refine HT.cat_tup p1 p2 n1 (fun z => ⟨.ref a, H, I, rfl, q1 hx (r2.nil_iff.mp z)⟩) (fun z => ?_) (by rw [← r1.length, ← r2.length]; exact hz)
    exact laidT I (r1.append r2) (by rw [List.length_append]; exact hz) (q2 hx fun e => z (r2.nil_iff.mpr e))
def rSlX (K : PySem.W.Frag) : V → Option Int → Option Int → Hp → VK → Prop := fun x lo hi H Q => ∃ a xs, x = .ref a ∧ SqT K H a xs ∧ (HT.sIx xs.length 0 lo = 0 ∧ HT.sIx xs.length xs.length hi = xs.length → Q (.ref a) H) ∧
  (¬ (HT.sIx xs.length 0 lo = 0 ∧ HT.sIx xs.length xs.length hi = xs.length) → NewT (cutV xs lo hi) H Q)
theorem sl_tupX : SlR X (rSlX X.K) := by
  rintro pins s σ H x v vl vu lo hi sl Q I rx hs pl pu ⟨a, xs, rfl, hx, q1, q2⟩
  by_cases hw : HT.sIx xs.length 0 lo = 0 ∧ HT.sIx xs.length xs.length hi = xs.length
  · exact sl_tupA pins s σ H _ v vl vu lo hi sl Q I rx hs pl pu ⟨a, xs, rfl, hx, q1, fun n => (n hw).elim⟩
  · cases rx
    obtain ⟨its, r, ht, hz⟩ := I.tuple hx
    have hl : its.toArray.size = xs.length := by rw [List.size_toArray]; exact r.length.symm
    refine ⟨"tuple", _, PyProof.Rows.slot_tuple_getitem.lookup, ht.typeIs, HT.getItem_tuple_cut ht hs pl pu (by rw [hl]; exact hw) ?_ (by rw [hl]; exact hz)⟩
    rw [hl]
    exact laidT I ((r.drop _).take _) (Nat.le_trans (cutV_length xs lo hi) hz) (q2 hw)
theorem call_tupleX : CallR X (.type "tuple") (fun xs H Q => ∃ p ys, xs = [.ref p] ∧ ((SqL X.K H p ys ∧ NewT ys H Q) ∨ (SqT X.K H p ys ∧ Q (.ref p) H))) := by
  rintro pins s σ H xs us Q I r ⟨p, ys, rfl, h⟩
  rcases h with ⟨hq, q⟩ | h
  · obtain ⟨u, rfl, rx⟩ := vals1 r
    cases rx
    obtain ⟨its, r', pl, hz⟩ := I.list hq
    have hlen := r'.length
    refine call_tuple_list pl.isList (fun h' kp => ?_) (by simp only [List.size_toArray] <;> omega)
    exact laidT (s := { s with heap := h' }) (I.kept (t' := s.toks) kp) r' hz q
  · exact call_tuple_of pins s σ H _ us Q I r ⟨p, ys, rfl, .inr h⟩
/-- t.index(y), flat things: the first place -/
def rTupIx (K : PySem.W.Frag) : V → List V → Hp → VK → Prop := fun x xs H Q => ∃ (a : Addr) (ys : List V) (y : V) (j : Nat) (z : V), x = .ref a ∧ xs = [y] ∧ SqT K H a ys ∧ flatV y = true ∧ ys.all flatV = true ∧ ys[j]? = some z ∧ eqV z y = true ∧
  (∀ (m : Nat) (w : V), m < j → ys[m]? = some w → eqV w y = false) ∧ Q (.int (j : Nat)) H
theorem mt_tupIx : MtR X "tuple.index" (rTupIx X.K) := by
  rintro pins s σ H x xs v us Q I rx rxs ⟨a, ys, y, j, z, rfl, rfl, hs, fy, fys, hz, hzj, hno, q⟩
  cases rx
  obtain ⟨uy, rfl, ry⟩ := vals1 rxs
  obtain ⟨its, rv, pl, hl⟩ := I.tuple hs
  obtain ⟨⟨cls, dd, data, sl⟩, ho, hc, n, hd⟩ := pl
  simp only at hc hd
  subst hc
  subst hd
  obtain ⟨u, hu, ru⟩ := rv.get hz
  have hj : j < its.toArray.size := by simpa using (List.getElem?_eq_some_iff.mp hu).1
  refine call_meets PySem.F.slot_tuple_index ⟨_, ho, rfl⟩ PySem.F.entry_tuple_index (PySem.F.args_tuple_index_2 _ _) (TI.tuple_indexAt a its.toArray n dd sl uy (eqU y) j hj ?_ ?_)
    ⟨ho, fun w hw => mem_eqAt ry fy rv fys w (by simpa using hw), ⟨.int (j : Nat), H, I.tok _, ⟨_, rfl⟩, q⟩⟩
  · have e : its.toArray[j] = u := by simpa using (List.getElem?_eq_some_iff.mp hu).2
    rw [e, eqU_of ru (flat_at fys hz)]
    exact hzj
  · intro m hm hmj
    have hm2 : m < ys.length := by have := rv.length; have : m < its.length := by simpa using hm
                                   omega
    obtain ⟨w, hw, rw'⟩ := rv.get (List.getElem?_eq_getElem hm2)
    have e : its.toArray[m] = w := by simpa using (List.getElem?_eq_some_iff.mp hw).2
    rw [e, eqU_of rw' (flat_at fys (List.getElem?_eq_getElem hm2))]
    exact hno m _ hmj (List.getElem?_eq_getElem hm2)
/-- a method of a tuple whose object has no dict of its own -/
def TupNd (K : PySem.W.Frag) (H : Hp) (x : V) : Prop := ∃ a, x = .ref a ∧ ((∃ o u, H a = some (.frz o u) ∧ o.cls = .type "tuple" ∧ o.dict = none) ∨ ∃ o, K.lookup a = some o ∧ o.cls = .type "tuple" ∧ o.dict = none)
variable {o e : Expr} {to : TE} {name : Str} {apos : Pos} {id : String} {r : V → List V → Hp → VK → Prop}
def tTM (K : PySem.W.Frag) (r : V → List V → Hp → VK → Prop) (to : TE) (t : TA) : TE := fun σ H Q => to σ H fun x H1 => TupNd K H1 x ∧ t σ H1 fun xs H2 => r x xs H2 Q
theorem pe_tm (slot : Slot "tuple" name id) (hty : typeOf (.builtin id) = pure (.type "method_descriptor")) (hm : MtR X id r) (ho : PE X o to) (ha : PA X (e :: es) t) (hbase : attributeBase o name X.env (eval o X.env) = eval o X.env := by rfl)
    (hfew : ((backTo pos (starEach (e :: es) X.env)).all (fun y => !y.1) && (backToKw pos (keywordEach [] X.env)).all (fun y => y.1.isSome) && decide ((e :: es).length + ([] : List Keyword).length + (if ([] : List Keyword).isEmpty then 0 else 1) < 30)) = true := by rfl)
    (hline : (apos.endLine == pos.line) = true := by rfl) (hs : starEach (e :: es) X.env = (false, eval e X.env) :: starEach es X.env := by rfl) (hpl : (backTo pos (starEach es X.env)).any (·.1) = false := by rfl) :
    PE X (.Call (.Attribute o name apos) (e :: es) [] pos) (tTM X.K r to t) := ⟨fun pins s σ H Q I h => by
  refine wpAny_Call_method_late hbase hfew hline rfl (thn (ho.run pins s σ H _ I h) fun v s1 ⟨x, H1, I1, r1, ty, q1⟩ => ?_)
  obtain ⟨a, rfl, ty⟩ := ty
  obtain rfl : v = Value.ref a := r1
  have tyI : ∃ ob, s1.heap.get? a = some ob ∧ ob.cls = .type "tuple" ∧ ob.dict = none := by
    rcases ty with ⟨ob, u, hH, hc, hd⟩ | ⟨ob, hk, hc, hd⟩
    · exact ⟨ob, (I1.hok a _ hH).1, hc, hd⟩
    · exact ⟨ob, I1.kIn a ob hk, hc, hd⟩
  obtain ⟨ob, g1, g2, g3⟩ := tyI
  refine ⟨"tuple", id, PySem.F.plainAttrs_tuple, slot, hty, ⟨ob, g1, g2⟩, fun b eb => (by cases eb; exact ⟨ob, g1, g3⟩), ?_⟩
  have hA := ha.run pos pins s1 σ H1 _ I1 q1
  rw [hs] at hA ⊢
  refine Calls.callWith_builtin (by show (false || (backTo pos (starEach es X.env)).any (·.1)) = false; rw [hpl]; rfl) (Calls.evalArgs_plain (thn hA fun us s2 ⟨vs, H2, I2, r2, q2⟩ => ?_))
  exact hm pins s2 σ H2 (.ref a) vs (.ref a) us Q I2 rfl r2 q2⟩
end
end L2.DL

/-! DL1: values as trees (D), what stands for them in the heap (Rep), a def's state (Rl), canonical readings. -/
namespace L2.DL
open PySem PySem.Spec PyProof.Rows

/-- a value as a tree; cell n: a thing that may change, by its place in the store -/
inductive D where
  | non | bl (b : Bool) | int (i : Int) | str (s : Str)
  | tup (xs : List D) | lst (xs : List D) | frz (xs : List D)
  | dct (ks : List Key) (vs : List D)
  | ins (c : Str) (ns : List Str) (vs : List D)
  | cell (n : Nat)
inductive Cell where
  | lst (ds : List D) | dct (ks : List Key) (vs : List D) | ins (c : Str) (ns : List Str) (vs : List D) | err (c : Str) (ns : List Str) (vs : List D)
/-- what a name holds: shared, owned (nobody else sees it), an instance being made, the error of an except suite -/
inductive Ent where
  | sh (d : D) | ow (d : D) | bd (c : Str) (ns : List Str) (vs : List D) | eh (c : Str) (ns : List Str) (vs : List D)
abbrev Env := List (Option Ent)
abbrev Sto := List Cell
inductive O (α : Type) where
  | ok (a : α) (ρ : Env) (μ : Sto)
  | ex (c : Str) (ns : List Str) (vs : List D) (ρ : Env) (μ : Sto)
  | no
abbrev Mo (α : Type) := Env → Sto → O α
def ret {α : Type} (a : α) : Mo α := fun ρ μ => .ok a ρ μ
def no {α : Type} : Mo α := fun _ _ => .no
def bnd {α β : Type} (f : Mo α) (g : α → Mo β) : Mo β := fun ρ μ => match f ρ μ with
  | .ok a ρ' μ' => g a ρ' μ'
  | .ex c ns vs ρ' μ' => .ex c ns vs ρ' μ'
  | .no => .no
def lift {α : Type} (o : Option α) : Mo α := fun ρ μ => match o with
  | some a => .ok a ρ μ
  | none => .no

/-! ### what stands for a tree -/
structure RC where
  K : PySem.W.Frag
  mg : Str → Option Value
  A : Addr → Prop
  B : Addr → Prop
  C : List Addr
  H : Hp
def RC.Tup (r : RC) (a : Addr) (vs : List V) : Prop := (¬ r.A a ∧ ∃ o, r.H a = some (.frz o (.tup vs)) ∧ o.cls = .type "tuple" ∧ o.dict = none) ∨
  ∃ (o : Obj) (its : Array Value) (n : Nat), r.K.lookup a = some o ∧ o.cls = .type "tuple" ∧ o.dict = none ∧ o.data = .seq its n ∧ its.size ≤ sizeLine ∧ Vals vs its.toList
def RC.Lst (r : RC) (a : Addr) (vs : List V) : Prop := (¬ r.A a ∧ Rd r.H a (.lst vs)) ∨ SqL r.K (fun _ => none) a vs
mutual
inductive Rep (r : RC) : V → D → Prop where
  | non : Rep r .non .non
  | bl (b : Bool) : Rep r (.bl b) (.bl b)
  | int (i : Int) : Rep r (.int i) (.int i)
  | str (s : Str) : Rep r (.str s) (.str s)
  | tup {a : Addr} {vs : List V} {ds : List D} (h : r.Tup a vs) (q : Reps r vs ds) : Rep r (.ref a) (.tup ds)
  | lst {a : Addr} {vs : List V} {ds : List D} (h : r.H a = some (.lst vs)) (n : ¬ r.A a) (q : Reps r vs ds) : Rep r (.ref a) (.lst ds)
  | frz {a : Addr} {vs : List V} {ds : List D} (h : r.Lst a vs) (q : Reps r vs ds) : Rep r (.ref a) (.frz ds)
  | dct {a : Addr} {kvs : List (Key × V)} {ks : List Key} {ds : List D} (h : r.H a = some (.dK kvs)) (n : ¬ r.A a) (e : kvs.map (·.1) = ks) (q : Reps r (kvs.map (·.2)) ds) : Rep r (.ref a) (.dct ks ds)
  | ins {a Cc dx : Addr} {fs : List (Str × V)} {c : Str} {ns : List Str} {ds : List D} (h : r.H a = some (.ins Cc dx fs)) (n : ¬ r.A a) (g : r.mg c = some (.ref Cc)) (e : fs.map (·.1) = ns)
      (q : Reps r (fs.map (·.2)) ds) : Rep r (.ref a) (.ins c ns ds)
  | cell {a : Addr} {n : Nat} (h : r.C[n]? = some a) : Rep r (.ref a) (.cell n)
inductive Reps (r : RC) : List V → List D → Prop where
  | nil : Reps r [] []
  | cons {v : V} {d : D} {vs : List V} {ds : List D} (h : Rep r v d) (t : Reps r vs ds) : Reps r (v :: vs) (d :: ds)
end
/-- what a tree's standing leans on -/
structure Stq (r r' : RC) : Prop where
  k : r'.K = r.K
  g : r'.mg = r.mg
  a : ∀ b, r'.A b → r.A b ∨ r.H b = none
  c : ∃ m, r'.C = r.C ++ m
  h : ∀ b o, r.H b = some o → ¬ r.A b → r'.H b = some o
/-- from one state to a later one -/
structure Stp (r r' : RC) : Prop where
  k : r'.K = r.K
  g : r'.mg = r.mg
  a : ∀ b, r'.A b → r.A b ∨ r.H b = none
  c : ∃ m, r'.C = r.C ++ m
  h : ∀ b o, r.H b = some o → ¬ r.A b → r'.H b = some o
  l : ∀ b o, r.H b = some o → ∃ o', r'.H b = some o'
  m : ∀ b, r.B b → r'.B b
  n : ∀ b o, r.H b = some o → r.B b → r'.H b = some o
theorem Stp.q {r r' : RC} (S : Stp r r') : Stq r r' := ⟨S.k, S.g, S.a, S.c, S.h⟩
theorem Stq.na {r r' : RC} (S : Stq r r') {b : Addr} {o : HO} (h : r.H b = some o) (n : ¬ r.A b) : ¬ r'.A b := fun z => by
  rcases S.a b z with q | q
  · exact n q
  · rw [h] at q; cases q
theorem Stq.rd {r r' : RC} (S : Stq r r') {b : Addr} {u : HO} (n : ¬ r.A b) (h : Rd r.H b u) : ¬ r'.A b ∧ Rd r'.H b u := by
  rcases h with h | ⟨o, h⟩
  · exact ⟨S.na h n, .inl (S.h _ _ h n)⟩
  · exact ⟨S.na h n, .inr ⟨o, S.h _ _ h n⟩⟩
theorem Stq.tup {r r' : RC} (S : Stq r r') {a : Addr} {vs : List V} (h : r.Tup a vs) : r'.Tup a vs := by
  rcases h with ⟨n, o, h, h2⟩ | h
  · exact .inl ⟨S.na h n, o, S.h _ _ h n, h2⟩
  · exact .inr (by rw [S.k]; exact h)
theorem Stq.lst {r r' : RC} (S : Stq r r') {a : Addr} {vs : List V} (h : r.Lst a vs) : r'.Lst a vs := by
  rcases h with ⟨n, h⟩ | h
  · exact .inl (S.rd n h)
  · exact .inr (by rw [S.k]; exact h)
mutual
theorem Rep.stq {r r' : RC} (S : Stq r r') : ∀ {v : V} {d : D}, Rep r v d → Rep r' v d
  | _, _, .non => .non
  | _, _, .bl b => .bl b
  | _, _, .int i => .int i
  | _, _, .str s => .str s
  | _, _, .tup h q => .tup (S.tup h) (Reps.stq S q)
  | _, _, .lst h n q => .lst (S.h _ _ h n) (S.na h n) (Reps.stq S q)
  | _, _, .frz h q => .frz (S.lst h) (Reps.stq S q)
  | _, _, .dct h n e q => .dct (S.h _ _ h n) (S.na h n) e (Reps.stq S q)
  | _, _, .ins h n g e q => .ins (S.h _ _ h n) (S.na h n) (by rw [S.g]; exact g) e (Reps.stq S q)
  | _, _, .cell h => .cell (by
      obtain ⟨m, e⟩ := S.c
      rw [e, List.getElem?_append_left (List.getElem?_eq_some_iff.mp h).1]
      exact h)
theorem Reps.stq {r r' : RC} (S : Stq r r') : ∀ {vs : List V} {ds : List D}, Reps r vs ds → Reps r' vs ds
  | _, _, .nil => .nil
  | _, _, .cons h t => .cons (Rep.stq S h) (Reps.stq S t)
end
theorem Stp.refl (r : RC) : Stp r r := ⟨rfl, rfl, fun _ h => .inl h, ⟨[], by simp⟩, fun _ _ h _ => h, fun _ o h => ⟨o, h⟩, fun _ h => h, fun _ _ h _ => h⟩
theorem Stp.na {r r' : RC} (S : Stp r r') {b : Addr} {o : HO} (h : r.H b = some o) (n : ¬ r.A b) : ¬ r'.A b := fun z => by
  rcases S.a b z with q | q
  · exact n q
  · rw [h] at q; cases q
theorem Stp.trans {r r1 r2 : RC} (S : Stp r r1) (T : Stp r1 r2) : Stp r r2 := by
  refine ⟨T.k.trans S.k, T.g.trans S.g, fun b z => ?_, ?_, fun b o h n => T.h b o (S.h b o h n) (S.na h n), fun b o h => ?_, fun b h => T.m b (S.m b h), fun b o h z => T.n b o (S.n b o h z) (S.m b z)⟩
  · rcases T.a b z with q | q
    · exact S.a b q
    · right
      cases e : r.H b with
      | none => rfl
      | some o =>
        obtain ⟨o', e'⟩ := S.l b o e
        rw [q] at e'; cases e'
  · obtain ⟨m, e⟩ := S.c
    obtain ⟨m', e'⟩ := T.c
    exact ⟨m ++ m', by rw [e', e, List.append_assoc]⟩
  · obtain ⟨o', e'⟩ := S.l b o h
    exact T.l b o' e'
theorem Stp.tup {r r' : RC} (S : Stp r r') {a : Addr} {vs : List V} (h : r.Tup a vs) : r'.Tup a vs := S.q.tup h
theorem Stp.lst {r r' : RC} (S : Stp r r') {a : Addr} {vs : List V} (h : r.Lst a vs) : r'.Lst a vs := S.q.lst h
theorem Rep.step {r r' : RC} (S : Stp r r') {v : V} {d : D} (h : Rep r v d) : Rep r' v d := h.stq S.q
theorem Reps.step {r r' : RC} (S : Stp r r') {vs : List V} {ds : List D} (h : Reps r vs ds) : Reps r' vs ds := h.stq S.q
theorem Reps.length {r : RC} : ∀ {vs : List V} {ds : List D}, Reps r vs ds → vs.length = ds.length
  | _, _, .nil => rfl
  | _, _, .cons _ t => congrArg (· + 1) (Reps.length t)
theorem Reps.append {r : RC} : ∀ {vs ws : List V} {ds es : List D}, Reps r vs ds → Reps r ws es → Reps r (vs ++ ws) (ds ++ es)
  | _, _, _, _, .nil, q => q
  | _, _, _, _, .cons h t, q => .cons h (Reps.append t q)
theorem Reps.get {r : RC} : ∀ {vs : List V} {ds : List D} {i : Nat} {d : D}, Reps r vs ds → ds[i]? = some d → ∃ v, vs[i]? = some v ∧ Rep r v d
  | _, _, _, _, .nil, e => by simp at e
  | _, _, 0, _, .cons h _, e => by simp at e; subst e; exact ⟨_, rfl, h⟩
  | _, _, i + 1, _, .cons _ t, e => by
    obtain ⟨v, h1, h2⟩ := Reps.get (i := i) t (by simpa using e)
    exact ⟨v, by simpa using h1, h2⟩
theorem Reps.getV {r : RC} : ∀ {vs : List V} {ds : List D} {i : Nat} {v : V}, Reps r vs ds → vs[i]? = some v → ∃ d, ds[i]? = some d ∧ Rep r v d
  | _, _, _, _, .nil, e => by simp at e
  | _, _, 0, _, .cons h _, e => by simp at e; subst e; exact ⟨_, rfl, h⟩
  | _, _, i + 1, _, .cons _ t, e => by
    obtain ⟨v, h1, h2⟩ := Reps.getV (i := i) t (by simpa using e)
    exact ⟨v, by simpa using h1, h2⟩
theorem Reps.set {r : RC} {v : V} {d : D} (h : Rep r v d) : ∀ {vs : List V} {ds : List D} (i : Nat), Reps r vs ds → Reps r (vs.set i v) (ds.set i d)
  | _, _, _, .nil => .nil
  | _, _, 0, .cons _ t => .cons h t
  | _, _, i + 1, .cons q t => .cons q (Reps.set h i t)
theorem Reps.take {r : RC} : ∀ {vs : List V} {ds : List D} (n : Nat), Reps r vs ds → Reps r (vs.take n) (ds.take n)
  | _, _, 0, _ => by simp; exact .nil
  | _, _, _ + 1, .nil => by simp; exact .nil
  | _, _, n + 1, .cons q t => by simp; exact .cons q (Reps.take n t)
theorem Reps.drop {r : RC} : ∀ {vs : List V} {ds : List D} (n : Nat), Reps r vs ds → Reps r (vs.drop n) (ds.drop n)
  | _, _, 0, q => q
  | _, _, _ + 1, .nil => by simp; exact .nil
  | _, _, n + 1, .cons _ t => by simp; exact Reps.drop n t
theorem Reps.one {r : RC} {v : V} {d : D} (h : Rep r v d) : Reps r [v] [d] := .cons h .nil
theorem Reps.reverse {r : RC} : ∀ {vs : List V} {ds : List D}, Reps r vs ds → Reps r vs.reverse ds.reverse
  | _, _, .nil => .nil
  | _, _, .cons h t => by
    rw [List.reverse_cons, List.reverse_cons]
    exact (Reps.reverse t).append (.one h)
theorem Reps.map {r : RC} {f : D → D} {g : V → V} (h : ∀ v d, Rep r v d → Rep r (g v) (f d)) : ∀ {vs : List V} {ds : List D}, Reps r vs ds → Reps r (vs.map g) (ds.map f)
  | _, _, .nil => .nil
  | _, _, .cons q t => .cons (h _ _ q) (Reps.map h t)
theorem Reps.flat {r : RC} {f : List D} {g : List V} (h : Reps r g f) : ∀ n : Nat, Reps r (List.replicate n g).flatten (List.replicate n f).flatten
  | 0 => .nil
  | n + 1 => by
    rw [List.replicate_succ, List.replicate_succ, List.flatten_cons, List.flatten_cons]
    exact h.append (Reps.flat h n)

/-! ### a def's state -/
structure Ctx where
  H0 : Hp
  A0 : Addr → Prop
  C0 : List Addr
  M0 : Addr → Prop
  W : WX
  eh : Option (Addr × Addr)
  ec : Str
  self : Option Addr
/-- the objects that only a slot holds; none: a thing under way that nothing may change -/
abbrev Os := List (Option Nat × Addr)
def AA (Φ : Ctx) (C : List Addr) (os : Os) : Addr → Prop := fun a => Φ.A0 a ∨ a ∈ C ∨ ∃ i, (i, a) ∈ os
def rcK (Φ : Ctx) (K : PySem.W.Frag) (mg : Str → Option Value) (C : List Addr) (os : Os) (H : Hp) : RC := ⟨K, mg, AA Φ C os, fun a => (none, a) ∈ os, C, H⟩
abbrev rc (Φ : Ctx) (X : Cx) (C : List Addr) (os : Os) (H : Hp) : RC := rcK Φ X.K X.mg C os H
/-- the content of an owned object -/
def OwnR (r : RC) (a : Addr) : D → Prop
  | .lst ds => ∃ vs, r.H a = some (.lst vs) ∧ Reps r vs ds
  | .dct ks ds => ∃ kvs, r.H a = some (.dK kvs) ∧ kvs.map (·.1) = ks ∧ Reps r (kvs.map (·.2)) ds
  | _ => False
def BdR (r : RC) (a : Addr) (c : Str) (ns : List Str) (ds : List D) : Prop :=
  ∃ Cc dx fs, r.H a = some (.ins Cc dx fs) ∧ r.mg c = some (.ref Cc) ∧ fs.map (·.1) = ns ∧ Reps r (fs.map (·.2)) ds
/-- an error as a value: its own object, its dict -/
def ErR (r : RC) (a : Addr) (c : Str) (ns : List Str) (ds : List D) : Prop :=
  ∃ Cc dx fs, r.H a = some (exo a Cc (some dx)) ∧ r.H dx = some (exd dx fs) ∧ ¬ r.A dx ∧ r.mg c = some (.ref Cc) ∧ fs.map (·.1) = ns ∧ Reps r (fs.map (·.2)) ds
theorem ErR.stq {r r' : RC} (S : Stq r r') {a : Addr} {c : Str} {ns : List Str} {ds : List D} (h : ∀ o, r.H a = some o → r'.H a = some o) : ErR r a c ns ds → ErR r' a c ns ds := fun ⟨Cc, dx, fs, h1, h2, h3, h4, h5, h6⟩ =>
  ⟨Cc, dx, fs, h _ h1, S.h _ _ h2 h3, S.na h2 h3, by rw [S.g]; exact h4, h5, Reps.stq S h6⟩
def EhR (r : RC) (dx : Addr) (c : Str) (ns : List Str) (ds : List D) : Prop :=
  ∃ fs, r.H dx = some (.xd fs) ∧ ¬ r.A dx ∧ fs.map (·.1) = ns ∧ Reps r (fs.map (·.2)) ds
def EntR (Φ : Ctx) (r : RC) (os : Os) (i : Nat) (v : V) : Ent → Prop
  | .sh d => Rep r v d
  | .ow d => ∃ a, v = .ref a ∧ (some i, a) ∈ os ∧ OwnR r a d
  | .bd c ns ds => ∃ a, (v = .ref a ∧ Φ.self = some a) ∧ (some i, a) ∈ os ∧ BdR r a c ns ds
  | .eh c ns ds => ∃ a dx, v = .ref a ∧ (Φ.eh = some (a, dx) ∧ Φ.ec = c) ∧ EhR r dx c ns ds
def CellR (r : RC) (a : Addr) : Cell → Prop
  | .lst ds => ∃ vs, r.H a = some (.lst vs) ∧ Reps r vs ds
  | .dct ks ds => ∃ kvs, r.H a = some (.dK kvs) ∧ kvs.map (·.1) = ks ∧ Reps r (kvs.map (·.2)) ds
  | .ins c ns ds => BdR r a c ns ds
  | .err c ns ds => ErR r a c ns ds
def StoR (r : RC) (μ : Sto) : Prop := r.C.length = μ.length ∧ ∀ (n : Nat) a c, r.C[n]? = some a → μ[n]? = some c → CellR r a c
structure RlK (Φ : Ctx) (K : PySem.W.Frag) (mg : Str → Option Value) (ρ : Env) (μ : Sto) (C : List Addr) (os : Os) (σ : St) (H : Hp) : Prop where
  len : ρ.length = σ.length
  env : ∀ (i : Nat) e, ρ[i]? = some (some e) → ∃ v, σ[i]? = some (some v) ∧ EntR Φ (rcK Φ K mg C os H) os i v e
  sto : StoR (rcK Φ K mg C os H) μ
  own : ∀ i j a, (i, a) ∈ os → (j, a) ∈ os → i = j
  fre : ∀ i a, (i, a) ∈ os → (Φ.H0 a = none ∨ Φ.M0 a) ∧ a ∉ C ∧ ¬ Φ.A0 a ∧ ∃ o, H a = some o
  pre : ∃ m, C = Φ.C0 ++ m
  cfr : ∀ a ∈ C, a ∈ Φ.C0 ∨ Φ.H0 a = none
  cnd : C.Nodup
  clv : ∀ a ∈ C, ∃ o, H a = some o
  frm : ∀ a o, Φ.H0 a = some o → a ∉ C → ¬ Φ.M0 a → H a = some o
  alv : ∀ a, Φ.A0 a ∨ Φ.M0 a → ∃ o, H a = some o
abbrev Rl (Φ : Ctx) (X : Cx) (ρ : Env) (μ : Sto) (C : List Addr) (os : Os) (σ : St) (H : Hp) : Prop := RlK Φ X.K X.mg ρ μ C os σ H

def PostE (Φ : Ctx) (X : Cx) (C : List Addr) (os : Os) (σ : St) (H : Hp) (o : O D) (Q : VK) : Prop := match o with
  | .ok d ρ' μ' => ∀ v H' C' os', Rl Φ X ρ' μ' C' os' σ H' → Stp (rc Φ X C os H) (rc Φ X C' os' H') → Rep (rc Φ X C' os' H') v d → Q v H'
  | .ex c ns ds ρ' μ' => ∀ Cc dx H' C' os', Rl Φ X ρ' μ' C' os' σ H' → Stp (rc Φ X C os H) (rc Φ X C' os' H') → X.mg c = some (.ref Cc) → EhR (rc Φ X C' os' H') dx c ns ds → Φ.W (.ref Cc) (some dx) σ H'
  | .no => False
def cE (Φ : Ctx) (X : Cx) (f : Mo D) : TE := fun σ H Q => ∃ ρ μ C os, Rl Φ X ρ μ C os σ H ∧ PostE Φ X C os σ H (f ρ μ) Q
def DE (Φ : Ctx) (X : Cx) (e : Expr) (f : Mo D) : Prop := PE X e (cE Φ X f)
theorem PostE.from {Φ : Ctx} {X : Cx} {C C1 : List Addr} {os os1 : Os} {σ : St} {H H1 : Hp} {o : O D} {Q : VK} (S : Stp (rc Φ X C os H) (rc Φ X C1 os1 H1)) (h : PostE Φ X C os σ H o Q) : PostE Φ X C1 os1 σ H1 o Q := by
  cases o with
  | ok d ρ' μ' => exact fun v H' C' os' R T q => h v H' C' os' R (S.trans T) q
  | ex c ns ds ρ' μ' => exact fun Cc dx H' C' os' R T g e => h Cc dx H' C' os' R (S.trans T) g e
  | no => exact h
/-- the second thing behind the first -/
theorem PostE.bnd {Φ : Ctx} {X : Cx} {C : List Addr} {os : Os} {σ : St} {H : Hp} {f : Mo D} {g : D → Mo D} {ρ : Env} {μ : Sto} {Q Q1 : VK} (h : PostE Φ X C os σ H (DL.bnd f g ρ μ) Q)
    (k : ∀ d ρ1 μ1 v H1 C1 os1, Rl Φ X ρ1 μ1 C1 os1 σ H1 → Stp (rc Φ X C os H) (rc Φ X C1 os1 H1) → Rep (rc Φ X C1 os1 H1) v d → PostE Φ X C1 os1 σ H1 (g d ρ1 μ1) Q → Q1 v H1) : PostE Φ X C os σ H (f ρ μ) Q1 := by
  unfold DL.bnd at h
  cases e : f ρ μ with
  | ok d ρ1 μ1 =>
    rw [e] at h
    exact fun v H1 C1 os1 R S q => k d ρ1 μ1 v H1 C1 os1 R S q (PostE.from S h)
  | ex c ns ds ρ1 μ1 => rw [e] at h; exact h
  | no => rw [e] at h; exact h
theorem PE.imp {X : Cx} {e : Expr} {t t' : TE} (h : PE X e t) (i : ∀ σ H Q, t' σ H Q → t σ H Q) : PE X e t' := ⟨fun pins s σ H Q I q => h.run pins s σ H Q I (i σ H Q q)⟩

/-! ### an argument list -/
def PostA (Φ : Ctx) (X : Cx) (C : List Addr) (os : Os) (σ : St) (H : Hp) (o : O (List D)) (Q : List V → Hp → Prop) : Prop := match o with
  | .ok ds ρ' μ' => ∀ vs H' C' os', Rl Φ X ρ' μ' C' os' σ H' → Stp (rc Φ X C os H) (rc Φ X C' os' H') → Reps (rc Φ X C' os' H') vs ds → Q vs H'
  | .ex c ns ds ρ' μ' => ∀ Cc dx H' C' os', Rl Φ X ρ' μ' C' os' σ H' → Stp (rc Φ X C os H) (rc Φ X C' os' H') → X.mg c = some (.ref Cc) → EhR (rc Φ X C' os' H') dx c ns ds → Φ.W (.ref Cc) (some dx) σ H'
  | .no => False
def cA (Φ : Ctx) (X : Cx) (f : Mo (List D)) : TA := fun σ H Q => ∃ ρ μ C os, Rl Φ X ρ μ C os σ H ∧ PostA Φ X C os σ H (f ρ μ) Q
def DA (Φ : Ctx) (X : Cx) (es : List Expr) (f : Mo (List D)) : Prop := PA X es (cA Φ X f)
theorem PostA.from {Φ : Ctx} {X : Cx} {C C1 : List Addr} {os os1 : Os} {σ : St} {H H1 : Hp} {o : O (List D)} {Q : List V → Hp → Prop} (S : Stp (rc Φ X C os H) (rc Φ X C1 os1 H1)) (h : PostA Φ X C os σ H o Q) :
    PostA Φ X C1 os1 σ H1 o Q := by
  cases o with
  | ok d ρ' μ' => exact fun v H' C' os' R T q => h v H' C' os' R (S.trans T) q
  | ex c ns ds ρ' μ' => exact fun Cc dx H' C' os' R T g e => h Cc dx H' C' os' R (S.trans T) g e
  | no => exact h
theorem PA.imp {X : Cx} {es : List Expr} {t t' : TA} (h : PA X es t) (i : ∀ σ H Q, t' σ H Q → t σ H Q) : PA X es t' := ⟨fun pos pins s σ H Q I q => h.run pos pins s σ H Q I (i σ H Q q)⟩
def anil : Mo (List D) := ret []
def acons (f : Mo D) (g : Mo (List D)) : Mo (List D) := bnd f fun d => bnd g fun ds => ret (d :: ds)
theorem da_nil {Φ : Ctx} {X : Cx} : DA Φ X [] anil := PA.imp pa_nil fun σ H Q ⟨ρ, μ, C, os, R, h⟩ => h [] H C os R (Stp.refl _) .nil
theorem da_cons {Φ : Ctx} {X : Cx} {e : Expr} {es : List Expr} {f : Mo D} {g : Mo (List D)} (he : DE Φ X e f) (hr : DA Φ X es g) (hs : starEach (e :: es) X.env = (false, eval e X.env) :: starEach es X.env := by rfl) :
    DA Φ X (e :: es) (acons f g) := PA.imp (pa_cons he hr hs) fun σ H Q ⟨ρ, μ, C, os, R, h⟩ => by
  refine ⟨ρ, μ, C, os, R, ?_⟩
  unfold acons bnd at h
  cases e1 : f ρ μ with
  | no => rw [e1] at h; exact h
  | ex c ns ds ρ1 μ1 => rw [e1] at h; exact h
  | ok d ρ1 μ1 =>
    rw [e1] at h
    intro v H1 C1 os1 R1 S1 q1
    refine ⟨ρ1, μ1, C1, os1, R1, ?_⟩
    have h := PostA.from S1 h
    cases e2 : g ρ1 μ1 with
    | no => simp only [e2] at h; exact h
    | ex c ns ds ρ2 μ2 => simp only [e2] at h; exact h
    | ok ds ρ2 μ2 =>
      simp only [e2] at h
      exact fun vs H2 C2 os2 R2 S2 q2 => h (v :: vs) H2 C2 os2 R2 S2 (.cons (q1.step S2) q2)
end L2.DL

/-! DL2: names, constants, operators, comparisons, tests, displays, places. -/
namespace L2.DL
open PySem PySem.Spec PyProof.Rows

/-! ### growing heaps -/
def Grow (H H' : Hp) : Prop := ∀ b o, H b = some o → H' b = some o
theorem Grow.refl (H : Hp) : Grow H H := fun _ _ h => h
theorem Grow.trans {H H1 H2 : Hp} (a : Grow H H1) (b : Grow H1 H2) : Grow H H2 := fun c o h => b c o (a c o h)
theorem Grow.upd {H : Hp} {p : Addr} {o : HO} (h : H p = none) : Grow H (upd H p o) := fun a u e => by rw [upd_ne (ne_of_none e h)]; exact e
def RC.at (r : RC) (H : Hp) : RC := ⟨r.K, r.mg, r.A, r.B, r.C, H⟩
theorem Grow.stp {r : RC} {H : Hp} (g : Grow r.H H) : Stp r (r.at H) := ⟨rfl, rfl, fun _ h => .inl h, ⟨[], by simp [RC.at]⟩, fun b o h _ => g b o h, fun b o h => ⟨o, g b o h⟩, fun _ h => h, fun b o h _ => g b o h⟩
theorem OwnR.grow {r : RC} {H : Hp} (g : Grow r.H H) {a : Addr} : ∀ {d : D}, OwnR r a d → OwnR (r.at H) a d
  | .lst _, ⟨vs, h, q⟩ => ⟨vs, g _ _ h, q.step g.stp⟩
  | .dct _ _, ⟨kvs, h, e, q⟩ => ⟨kvs, g _ _ h, e, q.step g.stp⟩
  | .non, h => h.elim | .bl _, h => h.elim | .int _, h => h.elim | .str _, h => h.elim | .tup _, h => h.elim | .frz _, h => h.elim | .ins _ _ _, h => h.elim | .cell _, h => h.elim
theorem BdR.grow {r : RC} {H : Hp} (g : Grow r.H H) {a : Addr} {c : Str} {ns : List Str} {ds : List D} : BdR r a c ns ds → BdR (r.at H) a c ns ds := fun ⟨Cc, dx, fs, h, m, e, q⟩ => ⟨Cc, dx, fs, g _ _ h, m, e, q.step g.stp⟩
theorem EhR.step {r r' : RC} (S : Stp r r') {dx : Addr} {c : Str} {ns : List Str} {ds : List D} : EhR r dx c ns ds → EhR r' dx c ns ds := fun ⟨fs, h, n, e, q⟩ => ⟨fs, S.h _ _ h n, S.na h n, e, q.step S⟩
theorem CellR.grow {r : RC} {H : Hp} (g : Grow r.H H) {a : Addr} : ∀ {c : Cell}, CellR r a c → CellR (r.at H) a c
  | .lst _, ⟨vs, h, q⟩ => ⟨vs, g _ _ h, q.step g.stp⟩
  | .dct _ _, ⟨kvs, h, e, q⟩ => ⟨kvs, g _ _ h, e, q.step g.stp⟩
  | .ins _ _ _, h => BdR.grow g h
  | .err _ _ _, h => ErR.stq g.stp.q (fun o e => g _ _ e) h
theorem EntR.grow {Φ : Ctx} {r : RC} {os : Os} {H : Hp} (g : Grow r.H H) {i : Nat} {v : V} : ∀ {e : Ent}, EntR Φ r os i v e → EntR Φ (r.at H) os i v e
  | .sh _, h => h.step g.stp
  | .ow _, ⟨a, e, m, h⟩ => ⟨a, e, m, h.grow g⟩
  | .bd _ _ _, ⟨a, e, m, h⟩ => ⟨a, e, m, h.grow g⟩
  | .eh _ _ _, ⟨a, dx, e, m, h⟩ => ⟨a, dx, e, m, h.step g.stp⟩
theorem Rl.grow {Φ : Ctx} {X : Cx} {ρ : Env} {μ : Sto} {C : List Addr} {os : Os} {σ : St} {H H' : Hp} (R : Rl Φ X ρ μ C os σ H) (g : Grow H H') : Rl Φ X ρ μ C os σ H' where
  len := R.len
  env := fun i e h => by
    obtain ⟨v, h1, h2⟩ := R.env i e h
    exact ⟨v, h1, EntR.grow (r := rc Φ X C os H) g h2⟩
  sto := ⟨R.sto.1, fun n a c h1 h2 => CellR.grow (r := rc Φ X C os H) g (R.sto.2 n a c h1 h2)⟩
  own := R.own
  fre := fun i a h => by
    obtain ⟨h1, h2, h3, o, h4⟩ := R.fre i a h
    exact ⟨h1, h2, h3, o, g _ _ h4⟩
  pre := R.pre
  cfr := R.cfr
  cnd := R.cnd
  clv := fun a h => let ⟨o, e⟩ := R.clv a h; ⟨o, g _ _ e⟩
  frm := fun a o h1 h2 h3 => g _ _ (R.frm a o h1 h2 h3)
  alv := fun a h => let ⟨o, e⟩ := R.alv a h; ⟨o, g _ _ e⟩
theorem rc_at {Φ : Ctx} {X : Cx} {C : List Addr} {os : Os} {H H' : Hp} : (rc Φ X C os H).at H' = rc Φ X C os H' := rfl
theorem stp_grow {Φ : Ctx} {X : Cx} {C : List Addr} {os : Os} {H H' : Hp} (g : Grow H H') : Stp (rc Φ X C os H) (rc Φ X C os H') := Grow.stp (r := rc Φ X C os H) g
theorem Rl.fresh {Φ : Ctx} {X : Cx} {ρ : Env} {μ : Sto} {C : List Addr} {os : Os} {σ : St} {H : Hp} (R : Rl Φ X ρ μ C os σ H) {p : Addr} (h : H p = none) : ¬ AA Φ C os p := by
  rintro (z | z | ⟨i, z⟩)
  · obtain ⟨o, e⟩ := R.alv p (.inl z)
    rw [h] at e; cases e
  · obtain ⟨o, e⟩ := R.clv p z
    rw [h] at e; cases e
  · obtain ⟨_, _, _, o, e⟩ := R.fre i p z
    rw [h] at e; cases e

/-! ### weakly: an owned thing read in passing -/
def RepW (r : RC) (v : V) (d : D) : Prop := Rep r v d ∨ ∃ a, v = .ref a ∧ OwnR r a d
theorem RepW.lst {r : RC} {v : V} {ds : List D} (h : RepW r v (.lst ds)) : ∃ a vs, v = .ref a ∧ r.H a = some (.lst vs) ∧ Reps r vs ds := by
  rcases h with h | ⟨a, e, vs, h, q⟩
  · cases h with
    | lst h n q => exact ⟨_, _, rfl, h, q⟩
  · exact ⟨a, vs, e, h, q⟩
theorem RepW.dct {r : RC} {v : V} {ks : List Key} {ds : List D} (h : RepW r v (.dct ks ds)) : ∃ a kvs, v = .ref a ∧ r.H a = some (.dK kvs) ∧ kvs.map (·.1) = ks ∧ Reps r (kvs.map (·.2)) ds := by
  rcases h with h | ⟨a, e, kvs, h, e2, q⟩
  · cases h with
    | dct h n e q => exact ⟨_, _, rfl, h, e, q⟩
  · exact ⟨a, kvs, e, h, e2, q⟩
theorem RepW.non {r : RC} {v : V} (h : RepW r v .non) : v = .non := by
  rcases h with h | ⟨a, e, h⟩
  · cases h; rfl
  · exact h.elim
theorem RepW.bl {r : RC} {v : V} {b : Bool} (h : RepW r v (.bl b)) : v = .bl b := by
  rcases h with h | ⟨a, e, h⟩
  · cases h; rfl
  · exact h.elim
theorem RepW.int {r : RC} {v : V} {i : Int} (h : RepW r v (.int i)) : v = .int i := by
  rcases h with h | ⟨a, e, h⟩
  · cases h; rfl
  · exact h.elim
theorem RepW.str {r : RC} {v : V} {s : Str} (h : RepW r v (.str s)) : v = .str s := by
  rcases h with h | ⟨a, e, h⟩
  · cases h; rfl
  · exact h.elim
theorem RepW.tup {r : RC} {v : V} {ds : List D} (h : RepW r v (.tup ds)) : ∃ a vs, v = .ref a ∧ r.Tup a vs ∧ Reps r vs ds := by
  rcases h with h | ⟨a, e, h⟩
  · cases h with
    | tup h q => exact ⟨_, _, rfl, h, q⟩
  · exact h.elim
theorem RepW.frz {r : RC} {v : V} {ds : List D} (h : RepW r v (.frz ds)) : ∃ a vs, v = .ref a ∧ r.Lst a vs ∧ Reps r vs ds := by
  rcases h with h | ⟨a, e, h⟩
  · cases h with
    | frz h q => exact ⟨_, _, rfl, h, q⟩
  · exact h.elim
theorem RepW.ins {r : RC} {v : V} {c : Str} {ns : List Str} {ds : List D} (h : RepW r v (.ins c ns ds)) : ∃ a Cc dx fs, v = .ref a ∧ r.H a = some (.ins Cc dx fs) ∧ r.mg c = some (.ref Cc) ∧ fs.map (·.1) = ns ∧ Reps r (fs.map (·.2)) ds := by
  rcases h with h | ⟨a, e, h⟩
  · cases h with
    | ins h n g e q => exact ⟨_, _, _, _, rfl, h, g, e, q⟩
  · exact h.elim
theorem RC.Tup.sq {r : RC} {a : Addr} {vs : List V} (h : r.Tup a vs) : SqT r.K r.H a vs := by
  rcases h with ⟨_, o, h, _⟩ | ⟨o, its, n, h1, h2, _, h3, h4, h5⟩
  · exact .inl (.inr ⟨o, h⟩)
  · exact .inr ⟨o, its, n, h1, h2, h3, h4, h5⟩
theorem RC.Tup.nd {r : RC} {a : Addr} {vs : List V} (h : r.Tup a vs) : TupNd r.K r.H (.ref a) := by
  rcases h with ⟨_, o, h, h2⟩ | ⟨o, its, n, h1, h2, h3, _⟩
  · exact ⟨a, rfl, .inl ⟨o, _, h, h2⟩⟩
  · exact ⟨a, rfl, .inr ⟨o, h1, h2, h3⟩⟩
theorem RC.Lst.sq {r : RC} {a : Addr} {vs : List V} (h : r.Lst a vs) : SqL r.K r.H a vs := by
  rcases h with ⟨_, h⟩ | h
  · exact .inl h
  · rcases h with h | h
    · rcases h with h | ⟨o, h⟩ <;> cases h
    · exact .inr h

def PostB (Φ : Ctx) (X : Cx) (C : List Addr) (os : Os) (σ : St) (H : Hp) (o : O D) (Q : VK) : Prop := match o with
  | .ok d ρ' μ' => ∀ v H' C' os', Rl Φ X ρ' μ' C' os' σ H' → Stp (rc Φ X C os H) (rc Φ X C' os' H') → RepW (rc Φ X C' os' H') v d → Q v H'
  | .ex c ns ds ρ' μ' => ∀ Cc dx H' C' os', Rl Φ X ρ' μ' C' os' σ H' → Stp (rc Φ X C os H) (rc Φ X C' os' H') → X.mg c = some (.ref Cc) → EhR (rc Φ X C' os' H') dx c ns ds → Φ.W (.ref Cc) (some dx) σ H'
  | .no => False
def cB (Φ : Ctx) (X : Cx) (f : Mo D) : TE := fun σ H Q => ∃ ρ μ C os, Rl Φ X ρ μ C os σ H ∧ PostB Φ X C os σ H (f ρ μ) Q
/-- an expression whose value is only read at once -/
def DB (Φ : Ctx) (X : Cx) (e : Expr) (f : Mo D) : Prop := PE X e (cB Φ X f)
section
variable {Φ : Ctx} {X : Cx} {a b c e : Expr} {f g k : Mo D} {pos : Pos}
theorem DE.wk (h : DE Φ X e f) : DB Φ X e f := PE.imp h fun σ H Q ⟨ρ, μ, C, os, R, q⟩ => ⟨ρ, μ, C, os, R, by
  cases e : f ρ μ with
  | ok d ρ' μ' => rw [e] at q; exact fun v H' C' os' R' S z => q v H' C' os' R' S (.inl z)
  | ex c ns ds ρ' μ' => rw [e] at q; exact q
  | no => rw [e] at q; exact q⟩

/-! ### names and constants -/
def cst (d : D) : Mo D := ret d
theorem cE_at {ρ : Env} {μ : Sto} {C : List Addr} {os : Os} {σ : St} {H : Hp} (R : Rl Φ X ρ μ C os σ H) {v : V} {d : D} (h : Rep (rc Φ X C os H) v d) {Q : VK} (q : PostE Φ X C os σ H (ret d ρ μ) Q) : Q v H := q v H C os R (Stp.refl _) h
theorem de_int {i : Int} {j pos} : DE Φ X (.Constant (.int i) j pos) (cst (.int i)) := PE.imp pe_int fun σ H Q ⟨ρ, μ, C, os, R, q⟩ => cE_at R (.int i) q
theorem de_bl {i : Bool} {j pos} : DE Φ X (.Constant (.bool i) j pos) (cst (.bl i)) := PE.imp pe_bl fun σ H Q ⟨ρ, μ, C, os, R, q⟩ => cE_at R (.bl i) q
theorem de_non {j pos} : DE Φ X (.Constant .none j pos) (cst .non) := PE.imp pe_non fun σ H Q ⟨ρ, μ, C, os, R, q⟩ => cE_at R .non q
theorem de_str {i : Str} {j pos} : DE Φ X (.Constant (.str i) j pos) (cst (.str i)) := PE.imp pe_str fun σ H Q ⟨ρ, μ, C, os, R, q⟩ => cE_at R (.str i) q
/-- what the module's name x holds, at every time -/
structure GlD (X : Cx) (x : Str) (d : D) : Prop where
  ex : ∃ u v, X.mg x = some u ∧ RelV v u ∧ ∀ r : RC, r.K = X.K → r.mg = X.mg → Rep r v d
theorem de_glob {x : Str} {d : D} (G : GlD X x d) (hg : Gl X x) (hd : (x == ("__debug__" : Str)) = false := by decide) : DE Φ X (.Name x pos) (cst d) := by
  obtain ⟨u, v, hm, r, h⟩ := G.ex
  exact PE.imp (pe_glob hg hm r hd) fun σ H Q ⟨ρ, μ, C, os, R, q⟩ => cE_at R (h _ rfl rfl) q

/-- an owned thing given out: from now on shared -/
def lett (i : Nat) : Mo D := fun ρ μ => match ρ[i]? with
  | some (some (.sh d)) => .ok d ρ μ
  | some (some (.ow d)) => .ok d (ρ.set i (some (.sh d))) μ
  | some (some (.bd c ns vs)) => .ok (.ins c ns vs) (ρ.set i (some (.sh (.ins c ns vs)))) μ
  | _ => .no
/-- what a cell holds, as a value -/
def Cell.d : Cell → D
  | .lst ds => .lst ds
  | .dct ks ds => .dct ks ds
  | .ins c ns ds => .ins c ns ds
  | .err c ns ds => .ins c ns ds
/-- a shared value read in passing: a cell's content -/
def pekD (d : D) (μ : Sto) : Option D := match d with
  | .cell n => match μ[n]? with
    | some (.lst ds) => some (.lst ds)
    | some (.dct ks ds) => some (.dct ks ds)
    | _ => none
  | d => some d
/-- read in passing -/
def pek (i : Nat) : Mo D := fun ρ μ => match ρ[i]? with
  | some (some (.sh d)) => match pekD d μ with
    | some d' => .ok d' ρ μ
    | none => .no
  | some (some (.ow d)) => .ok d ρ μ
  | _ => .no
def noA (a : Addr) (os : Os) : Os := os.filter fun p => !(p.2 == a)
theorem mem_noA {a b : Addr} {i : Option Nat} {os : Os} : (i, b) ∈ noA a os ↔ (i, b) ∈ os ∧ b ≠ a := by
  unfold noA
  rw [List.mem_filter]
  simp
theorem OwnR.step {r r' : RC} (S : Stp r r') (hH : r'.H = r.H) {a : Addr} : ∀ {d : D}, OwnR r a d → OwnR r' a d
  | .lst _, ⟨vs, h, q⟩ => ⟨vs, by rw [hH]; exact h, q.step S⟩
  | .dct _ _, ⟨kvs, h, e, q⟩ => ⟨kvs, by rw [hH]; exact h, e, q.step S⟩
  | .non, h => h.elim | .bl _, h => h.elim | .int _, h => h.elim | .str _, h => h.elim | .tup _, h => h.elim | .frz _, h => h.elim | .ins _ _ _, h => h.elim | .cell _, h => h.elim
theorem BdR.stepH {r r' : RC} (S : Stp r r') (hH : r'.H = r.H) {a : Addr} {c : Str} {ns : List Str} {ds : List D} : BdR r a c ns ds → BdR r' a c ns ds := fun ⟨Cc, dx, fs, h, m, e, q⟩ =>
  ⟨Cc, dx, fs, by rw [hH]; exact h, by rw [S.g]; exact m, e, q.step S⟩
theorem CellR.step {r r' : RC} (S : Stp r r') (hH : r'.H = r.H) {a : Addr} : ∀ {c : Cell}, CellR r a c → CellR r' a c
  | .lst _, ⟨vs, h, q⟩ => ⟨vs, by rw [hH]; exact h, q.step S⟩
  | .dct _ _, ⟨kvs, h, e, q⟩ => ⟨kvs, by rw [hH]; exact h, e, q.step S⟩
  | .ins _ _ _, h => BdR.stepH S hH h
  | .err _ _ _, h => ErR.stq S.q (fun o e => by rw [hH]; exact e) h
/-- the entry of slot i is turned, its address let go -/
theorem Rl.letgo {ρ : Env} {μ : Sto} {C : List Addr} {os : Os} {σ : St} {H : Hp} {i : Nat} {a : Addr} {d : D} (R : Rl Φ X ρ μ C os σ H) (hi : i < ρ.length) (hv : σ[i]? = some (some (.ref a))) (hm : (some i, a) ∈ os)
    (h : Rep (rc Φ X C (noA a os) H) (.ref a) d) : Rl Φ X (ρ.set i (some (.sh d))) μ C (noA a os) σ H ∧ Stp (rc Φ X C os H) (rc Φ X C (noA a os) H) := by
  have S : Stp (rc Φ X C os H) (rc Φ X C (noA a os) H) := ⟨rfl, rfl, fun b z => by
    rcases z with z | z | ⟨j, z⟩
    · exact .inl (.inl z)
    · exact .inl (.inr (.inl z))
    · exact .inl (.inr (.inr ⟨j, (mem_noA.mp z).1⟩)), ⟨[], by simp [rcK]⟩, fun b o z _ => z, fun b o z => ⟨o, z⟩, fun b z => mem_noA.mpr ⟨z, fun e => by
      have q := R.own none (some i) a (e ▸ z) hm
      cases q⟩, fun b o z _ => z⟩
  have other : ∀ (j : Nat) (b : Addr), j ≠ i → (some j, b) ∈ os → (some j, b) ∈ noA a os := fun j b ne z => mem_noA.mpr ⟨z, fun e => ne (Option.some.inj (R.own (some j) (some i) a (e ▸ z) hm))⟩
  refine ⟨⟨by rw [List.length_set]; exact R.len, fun j e q => ?_, ⟨R.sto.1, fun n b c h1 h2 => (R.sto.2 n b c h1 h2).step S rfl⟩, fun j k b z1 z2 => R.own j k b (mem_noA.mp z1).1 (mem_noA.mp z2).1,
    fun j b z => R.fre j b (mem_noA.mp z).1, R.pre, R.cfr, R.cnd, R.clv, R.frm, R.alv⟩, S⟩
  by_cases hj : j = i
  · subst hj
    rw [List.getElem?_set_self hi] at q
    cases q
    exact ⟨_, hv, h⟩
  · rw [List.getElem?_set_ne (Ne.symm hj)] at q
    obtain ⟨v, h1, h2⟩ := R.env j e q
    refine ⟨v, h1, ?_⟩
    cases e with
    | sh d' => exact Rep.step S h2
    | ow d' =>
      obtain ⟨b, e1, e2, e3⟩ := h2
      exact ⟨b, e1, other j b hj e2, e3.step S rfl⟩
    | bd c ns ds =>
      obtain ⟨b, e1, e2, e3⟩ := h2
      exact ⟨b, e1, other j b hj e2, BdR.stepH S rfl e3⟩
    | eh c ns ds =>
      obtain ⟨b, dx, e1, e2, e3⟩ := h2
      exact ⟨b, dx, e1, e2, e3.step S⟩
theorem Rl.share {ρ : Env} {μ : Sto} {C : List Addr} {os : Os} {σ : St} {H : Hp} {i : Nat} {d : D} (R : Rl Φ X ρ μ C os σ H) (hi : ρ[i]? = some (some (.ow d))) :
    ∃ v os', σ[i]? = some (some v) ∧ Rl Φ X (ρ.set i (some (.sh d))) μ C os' σ H ∧ Stp (rc Φ X C os H) (rc Φ X C os' H) ∧ Rep (rc Φ X C os' H) v d := by
  obtain ⟨v, hv, a, rfl, hm, hO⟩ := R.env i _ hi
  have na : ¬ AA Φ C (noA a os) a := by
    obtain ⟨_, h2, h3, _⟩ := R.fre i a hm
    rintro (z | z | ⟨j, z⟩)
    · exact h3 z
    · exact h2 z
    · exact (mem_noA.mp z).2 rfl
  have S : Stp (rc Φ X C os H) (rc Φ X C (noA a os) H) := ⟨rfl, rfl, fun b z => by
    rcases z with z | z | ⟨j, z⟩
    · exact .inl (.inl z)
    · exact .inl (.inr (.inl z))
    · exact .inl (.inr (.inr ⟨j, (mem_noA.mp z).1⟩)), ⟨[], by simp [rcK]⟩, fun b o z _ => z, fun b o z => ⟨o, z⟩, fun b z => mem_noA.mpr ⟨z, fun e => by
      have q := R.own none (some i) a (e ▸ z) hm
      cases q⟩, fun b o z _ => z⟩
  have q : Rep (rc Φ X C (noA a os) H) (.ref a) d := by
    cases d with
    | lst ds => obtain ⟨vs, h, q⟩ := hO; exact .lst h na (q.step S)
    | dct ks ds => obtain ⟨kvs, h, e, q⟩ := hO; exact .dct h na e (q.step S)
    | _ => exact hO.elim
  exact ⟨_, _, hv, (R.letgo (List.getElem?_eq_some_iff.mp hi).1 hv hm q).1, S, q⟩
theorem Rl.shareB {ρ : Env} {μ : Sto} {C : List Addr} {os : Os} {σ : St} {H : Hp} {i : Nat} {c : Str} {ns : List Str} {ds : List D} (R : Rl Φ X ρ μ C os σ H) (hi : ρ[i]? = some (some (.bd c ns ds))) :
    ∃ v os', σ[i]? = some (some v) ∧ Rl Φ X (ρ.set i (some (.sh (.ins c ns ds)))) μ C os' σ H ∧ Stp (rc Φ X C os H) (rc Φ X C os' H) ∧ Rep (rc Φ X C os' H) v (.ins c ns ds) := by
  obtain ⟨v, hv, a, ⟨rfl, _⟩, hm, Cc, dx, fs, h, g, e, q⟩ := R.env i _ hi
  have na : ¬ AA Φ C (noA a os) a := by
    obtain ⟨_, h2, h3, _⟩ := R.fre i a hm
    rintro (z | z | ⟨j, z⟩)
    · exact h3 z
    · exact h2 z
    · exact (mem_noA.mp z).2 rfl
  have S : Stp (rc Φ X C os H) (rc Φ X C (noA a os) H) := ⟨rfl, rfl, fun b z => by
    rcases z with z | z | ⟨j, z⟩
    · exact .inl (.inl z)
    · exact .inl (.inr (.inl z))
    · exact .inl (.inr (.inr ⟨j, (mem_noA.mp z).1⟩)), ⟨[], by simp [rcK]⟩, fun b o z _ => z, fun b o z => ⟨o, z⟩, fun b z => mem_noA.mpr ⟨z, fun e => by
      have q := R.own none (some i) a (e ▸ z) hm
      cases q⟩, fun b o z _ => z⟩
  have q' : Rep (rc Φ X C (noA a os) H) (.ref a) (.ins c ns ds) := .ins h na g e (q.step S)
  exact ⟨_, _, hv, (R.letgo (List.getElem?_eq_some_iff.mp hi).1 hv hm q').1, S, q'⟩
theorem de_var {i : Nat} {x : Str} (hN : X.N[i]? = some x := by rfl) (hv : Vis X.env.scope x := by first | exact Or.inl rfl | exact Or.inr (Or.inl rfl) | exact Or.inr (Or.inr rfl)) (hd : (x == ("__debug__" : Str)) = false := by decide)
    (hcd : (x == ("__classdict__" : Str)) = false := by decide) : DE Φ X (.Name x pos) (lett i) := PE.imp (pe_var hN hv hd hcd) fun σ H Q ⟨ρ, μ, C, os, R, q⟩ => by
  unfold lett at q
  cases e : ρ[i]? with
  | none => rw [e] at q; exact q.elim
  | some o =>
    cases o with
    | none => rw [e] at q; exact q.elim
    | some t =>
      cases t with
      | sh d =>
        rw [e] at q
        obtain ⟨v, h1, h2⟩ := R.env i _ e
        exact ⟨v, h1, q v H C os R (Stp.refl _) h2⟩
      | ow d =>
        rw [e] at q
        obtain ⟨v, os', h1, R', S, h2⟩ := R.share e
        exact ⟨v, h1, q v H C os' R' S h2⟩
      | bd c ns ds =>
        rw [e] at q
        obtain ⟨v, os', h1, R', S, h2⟩ := R.shareB e
        exact ⟨v, h1, q v H C os' R' S h2⟩
      | eh c ns ds => rw [e] at q; exact q.elim
theorem cell_at {ρ : Env} {μ : Sto} {C : List Addr} {os : Os} {σ : St} {H : Hp} {n : Nat} {a : Addr} {c : Cell} (R : Rl Φ X ρ μ C os σ H) (h : C[n]? = some a) (e : μ[n]? = some c) : CellR (rc Φ X C os H) a c := R.sto.2 n a c h e
theorem pekD_at {ρ : Env} {μ : Sto} {C : List Addr} {os : Os} {σ : St} {H : Hp} {v : V} {d d' : D} (R : Rl Φ X ρ μ C os σ H) (h : Rep (rc Φ X C os H) v d) (e : pekD d μ = some d') : RepW (rc Φ X C os H) v d' := by
  cases h with
  | @cell a n h =>
    simp only [pekD] at e
    cases q : μ[n]? with
    | none => rw [q] at e; cases e
    | some c =>
      rw [q] at e
      have w := cell_at R h q
      cases c with
      | lst ds => cases e; exact .inr ⟨_, rfl, w⟩
      | dct ks ds => cases e; exact .inr ⟨_, rfl, w⟩
      | ins c ns ds => cases e
      | err c ns ds => cases e
  | non => cases e; exact .inl .non
  | bl b => cases e; exact .inl (.bl b)
  | int i => cases e; exact .inl (.int i)
  | str s => cases e; exact .inl (.str s)
  | tup h q => cases e; exact .inl (.tup h q)
  | lst h n q => cases e; exact .inl (.lst h n q)
  | frz h q => cases e; exact .inl (.frz h q)
  | dct h n e' q => cases e; exact .inl (.dct h n e' q)
  | ins h n g e' q => cases e; exact .inl (.ins h n g e' q)
theorem pek_at {ρ ρ' : Env} {μ μ' : Sto} {C : List Addr} {os : Os} {σ : St} {H : Hp} {i : Nat} {d : D} (R : Rl Φ X ρ μ C os σ H) (e : pek i ρ μ = .ok d ρ' μ') : ρ' = ρ ∧ μ' = μ ∧ ∃ v, σ[i]? = some (some v) ∧ RepW (rc Φ X C os H) v d := by
  unfold pek at e
  cases q : ρ[i]? with
  | none => rw [q] at e; cases e
  | some o =>
    cases o with
    | none => rw [q] at e; cases e
    | some t =>
      obtain ⟨v, h1, h2⟩ := R.env i _ q
      cases t with
      | sh d' =>
        rw [q] at e
        cases q2 : pekD d' μ with
        | none => simp only [q2] at e; cases e
        | some d2 =>
          simp only [q2] at e
          cases e
          exact ⟨rfl, rfl, v, h1, pekD_at R h2 q2⟩
      | ow d' =>
        rw [q] at e; cases e
        obtain ⟨a, h3, _, h4⟩ := h2
        exact ⟨rfl, rfl, v, h1, .inr ⟨a, h3, h4⟩⟩
      | bd c ns ds => rw [q] at e; cases e
      | eh c ns ds => rw [q] at e; cases e
theorem pek_ex {ρ ρ' : Env} {μ μ' : Sto} {i : Nat} {c : Str} {ns : List Str} {ds : List D} : ¬ pek i ρ μ = .ex c ns ds ρ' μ' := fun e => by
  unfold pek at e
  split at e <;> first
    | cases e; done
    | (split at e <;> cases e)
theorem db_var {i : Nat} {x : Str} (hN : X.N[i]? = some x := by rfl) (hv : Vis X.env.scope x := by first | exact Or.inl rfl | exact Or.inr (Or.inl rfl) | exact Or.inr (Or.inr rfl)) (hd : (x == ("__debug__" : Str)) = false := by decide)
    (hcd : (x == ("__classdict__" : Str)) = false := by decide) : DB Φ X (.Name x pos) (pek i) := PE.imp (pe_var hN hv hd hcd) fun σ H Q ⟨ρ, μ, C, os, R, q⟩ => by
  cases e : pek i ρ μ with
  | no => rw [e] at q; exact q.elim
  | ex c ns ds ρ' μ' => exact (pek_ex e).elim
  | ok d ρ' μ' =>
    rw [e] at q
    obtain ⟨rfl, rfl, v, h1, h2⟩ := pek_at R e
    exact ⟨v, h1, q v H C os R (Stp.refl _) h2⟩

/-! ### operators by values -/
def OpD (X : Cx) (r : R2) (h : D → D → Option D) : Prop := ∀ (q : RC) (x y : V) (d1 d2 d : D) (Q : VK), q.K = X.K → q.mg = X.mg → (∀ p, q.H p = none → ¬ q.A p) → RepW q x d1 → RepW q y d2 → h d1 d2 = some d →
  (∀ v H', Grow q.H H' → Rep (q.at H') v d → Q v H') → r x y q.H Q
def UnD (X : Cx) (r : V → Hp → VK → Prop) (h : D → Option D) : Prop := ∀ (q : RC) (x : V) (d1 d : D) (Q : VK), q.K = X.K → q.mg = X.mg → (∀ p, q.H p = none → ¬ q.A p) → RepW q x d1 → h d1 = some d →
  (∀ v H', Grow q.H H' → Rep (q.at H') v d → Q v H') → r x q.H Q
theorem OpD.or {r r' : R2} {h h' : D → D → Option D} (a : OpD X r h) (b : OpD X r' h') : OpD X (fun x y H Q => r x y H Q ∨ r' x y H Q) (fun x y => (h x y).or (h' x y)) := fun q x y d1 d2 d Q k1 k2 k3 h1 h2 e z => by
  have e : (h d1 d2).or (h' d1 d2) = some d := e
  cases q1 : h d1 d2 with
  | some d' =>
    rw [q1] at e
    exact .inl (a q x y d1 d2 d Q k1 k2 k3 h1 h2 (by rw [q1]; exact e) z)
  | none =>
    rw [q1] at e
    exact .inr (b q x y d1 d2 d Q k1 k2 k3 h1 h2 e z)
/-- two values, then the operator -/
def op2 (h : D → D → Option D) (f g : Mo D) : Mo D := bnd f fun x => bnd g fun y => lift (h x y)
/-- the left one a name, read in passing -/
def op2v (h : D → D → Option D) (i : Nat) (g : Mo D) : Mo D := bnd (pek i) fun _ => bnd g fun y => bnd (pek i) fun x => lift (h x y)
def op1 (h : D → Option D) (f : Mo D) : Mo D := bnd f fun x => lift (h x)
theorem Rl.fr {ρ : Env} {μ : Sto} {C : List Addr} {os : Os} {σ : St} {H : Hp} (R : Rl Φ X ρ μ C os σ H) : ∀ p, (rc Φ X C os H).H p = none → ¬ (rc Φ X C os H).A p := fun p h => R.fresh h
theorem lift_ok {ρ : Env} {μ : Sto} {C : List Addr} {os : Os} {σ : St} {H : Hp} {o : Option D} {Q : VK} (R : Rl Φ X ρ μ C os σ H) (p : PostE Φ X C os σ H (lift o ρ μ) Q) :
    ∃ d, o = some d ∧ ∀ v H', Grow H H' → Rep (rc Φ X C os H') v d → Q v H' := by
  cases o with
  | none => exact p.elim
  | some d => exact ⟨d, rfl, fun v H' g h => p v H' C os (R.grow g) (stp_grow g) h⟩
theorem cB_bnd {ρ : Env} {μ : Sto} {C : List Addr} {os : Os} {σ : St} {H : Hp} {f : Mo D} {g : D → Mo D} {Q Q1 : VK} (h : PostE Φ X C os σ H (bnd f g ρ μ) Q)
    (k : ∀ d ρ1 μ1 v H1 C1 os1, Rl Φ X ρ1 μ1 C1 os1 σ H1 → Stp (rc Φ X C os H) (rc Φ X C1 os1 H1) → RepW (rc Φ X C1 os1 H1) v d → PostE Φ X C1 os1 σ H1 (g d ρ1 μ1) Q → Q1 v H1) : PostB Φ X C os σ H (f ρ μ) Q1 := by
  unfold bnd at h
  cases e : f ρ μ with
  | ok d ρ1 μ1 =>
    rw [e] at h
    exact fun v H1 C1 os1 R S q => k d ρ1 μ1 v H1 C1 os1 R S q (PostE.from S h)
  | ex c ns ds ρ1 μ1 => rw [e] at h; exact h
  | no => rw [e] at h; exact h
theorem run2 {r : R2} {h : D → D → Option D} (hD : OpD X r h) {σ : St} {H : Hp} {Q : VK} (z : cE Φ X (op2 h f g) σ H Q) : tOp r (cE Φ X f) (cB Φ X g) σ H Q := by
  obtain ⟨ρ, μ, C, os, R, z⟩ := z
  refine ⟨ρ, μ, C, os, R, PostE.bnd z fun d1 ρ1 μ1 x H1 C1 os1 R1 S1 q1 z1 => ⟨ρ1, μ1, C1, os1, R1, cB_bnd z1 fun d2 ρ2 μ2 y H2 C2 os2 R2 S2 q2 z2 => ?_⟩⟩
  obtain ⟨d, e, k⟩ := lift_ok R2 z2
  exact hD (rc Φ X C2 os2 H2) x y d1 d2 d Q rfl rfl R2.fr (.inl (q1.step S2)) q2 e k
theorem de_op {op : Operator} {r : R2} {h : D → D → Option D} (ho : OpR X (binaryOp op) r) (hD : OpD X r h) (ha : DE Φ X a f) (hb : DB Φ X b g) : DE Φ X (.BinOp a op b pos) (op2 h f g) := PE.imp (pe_op ho ha hb) fun _ _ _ z => run2 hD z
theorem run1 {r : V → Hp → VK → Prop} {h : D → Option D} (hD : UnD X r h) {σ : St} {H : Hp} {Q : VK} (z : cE Φ X (op1 h f) σ H Q) : tUn r (cB Φ X f) σ H Q := by
  obtain ⟨ρ, μ, C, os, R, z⟩ := z
  refine ⟨ρ, μ, C, os, R, cB_bnd z fun d1 ρ1 μ1 x H1 C1 os1 R1 S1 q1 z1 => ?_⟩
  obtain ⟨d, e, k⟩ := lift_ok R1 z1
  exact hD (rc Φ X C1 os1 H1) x d1 d Q rfl rfl R1.fr q1 e k
theorem de_un {op : UnaryOp} {r : V → Hp → VK → Prop} {h : D → Option D} (ho : UnR X (unaryOp op) r) (hD : UnD X r h) (ha : DB Φ X a f) : DE Φ X (.UnaryOp op a pos) (op1 h f) := PE.imp (pe_un ho ha) fun _ _ _ z => run1 hD z
theorem de_cmp {op : CmpOp} {r : R2} {h : D → D → Option D} (ho : OpR X (compareOp op) r) (hD : OpD X r h) (ha : DE Φ X a f) (hb : DB Φ X b g) (hm : behindInMarks op b = false) : DE Φ X (.Compare a [op] [b] pos) (op2 h f g) :=
  PE.imp (pe_cmpR ho ha hb hm) fun _ _ _ z => run2 hD z
/-- the left one is a name -/
theorem run2v {r : R2} {h : D → D → Option D} {i : Nat} (hD : OpD X r h) {σ : St} {H : Hp} {Q : VK} (z : cE Φ X (op2v h i g) σ H Q) : tOp r (tVar i) (cE Φ X g) σ H Q := by
  obtain ⟨ρ, μ, C, os, R, z⟩ := z
  unfold op2v bnd at z
  cases e0 : pek i ρ μ with
  | no => rw [e0] at z; exact z.elim
  | ex c ns ds ρ' μ' => exact (pek_ex e0).elim
  | ok d0 ρ0 μ0 =>
    obtain ⟨rfl, rfl, v, hv, _⟩ := pek_at R e0
    rw [e0] at z
    refine ⟨v, hv, ρ0, μ0, C, os, R, PostE.bnd (f := g) z fun d2 ρ2 μ2 y H2 C2 os2 R2 S2 q2 z2 => ?_⟩
    unfold bnd at z2
    cases e : pek i ρ2 μ2 with
    | no => rw [e] at z2; exact z2.elim
    | ex c ns ds ρ' μ' => exact (pek_ex e).elim
    | ok d1 ρ3 μ3 =>
      obtain ⟨rfl, rfl, v', h1, h2⟩ := pek_at R2 e
      rw [hv] at h1; cases h1
      rw [e] at z2
      obtain ⟨d, e2, k⟩ := lift_ok R2 z2
      exact hD (rc Φ X C2 os2 H2) v y d1 d2 d Q rfl rfl R2.fr h2 (.inl q2) e2 k
theorem de_cmpv {op : CmpOp} {r : R2} {h : D → D → Option D} {i : Nat} {x : Str} {px : Pos} (ho : OpR X (compareOp op) r) (hD : OpD X r h) (hb : DE Φ X b g) (hm : behindInMarks op b = false) (hN : X.N[i]? = some x := by rfl)
    (hv : Vis X.env.scope x := by first | exact Or.inl rfl | exact Or.inr (Or.inl rfl) | exact Or.inr (Or.inr rfl)) (hd : (x == ("__debug__" : Str)) = false := by decide) (hcd : (x == ("__classdict__" : Str)) = false := by decide) :
    DE Φ X (.Compare (.Name x px) [op] [b] pos) (op2v h i g) := PE.imp (pe_cmpR ho (pe_var hN hv hd hcd) hb hm) fun _ _ _ z => run2v hD z
theorem de_ixv {r : R2} {h : D → D → Option D} {i : Nat} {x : Str} {px : Pos} (ho : IxR X r) (hD : OpD X r h) (hb : DE Φ X b g) (hs : PlainIx b := by intro _ _; rfl) (hN : X.N[i]? = some x := by rfl)
    (hv : Vis X.env.scope x := by first | exact Or.inl rfl | exact Or.inr (Or.inl rfl) | exact Or.inr (Or.inr rfl)) (hd : (x == ("__debug__" : Str)) = false := by decide) (hcd : (x == ("__classdict__" : Str)) = false := by decide) :
    DE Φ X (.Subscript (.Name x px) b pos) (op2v h i g) := PE.imp (pe_ix ho (pe_var hN hv hd hcd) hb hs) fun _ _ _ z => run2v hD z
theorem de_ix {r : R2} {h : D → D → Option D} (ho : IxR X r) (hD : OpD X r h) (ha : DE Φ X a f) (hb : DE Φ X b g) (hs : PlainIx b := by intro _ _; rfl) : DE Φ X (.Subscript a b pos) (op2 h f g) := PE.imp (pe_ix ho ha hb.wk hs) fun _ _ _ z => run2 hD z
end
end L2.DL

/-! DL3: the operators on trees. -/
namespace L2.DL
open PySem PySem.Spec PyProof.Rows
abbrev lineN : Nat := 16777216
theorem line_eq : sizeLine = lineN := sizeLine_eq

/-! ### ints -/
def ii (g : Int → Int → Int) : D → D → Option D
  | .int i, .int j => some (.int (g i j))
  | _, _ => none
def iiC (C : Int → Int → Bool) (g : Int → Int → Int) : D → D → Option D
  | .int i, .int j => if C i j then some (.int (g i j)) else none
  | _, _ => none
def ib (g : Int → Int → Bool) : D → D → Option D
  | .int i, .int j => some (.bl (g i j))
  | _, _ => none
section
variable {X : Cx}
theorem od_i0 {g : Int → Int → Int} : OpD X (rI0 fun i j => .int (g i j)) (ii g) := by
  intro q x y d1 d2 d Q _ _ _ h1 h2 e k
  cases d1 <;> cases d2 <;> first
    | (cases e; exact ⟨_, _, h1.int, h2.int, k _ _ (Grow.refl _) (.int _)⟩)
    | cases e
theorem od_b0 {g : Int → Int → Bool} : OpD X (rI0 fun i j => .bl (g i j)) (ib g) := by
  intro q x y d1 d2 d Q _ _ _ h1 h2 e k
  cases d1 <;> cases d2 <;> first
    | (cases e; exact ⟨_, _, h1.int, h2.int, k _ _ (Grow.refl _) (.bl _)⟩)
    | cases e
theorem od_iC {P : Int → Int → Prop} {C : Int → Int → Bool} {g : Int → Int → Int} (hC : ∀ i j, C i j = true → P i j) : OpD X (rI P fun i j => .int (g i j)) (iiC C g) := by
  intro q x y d1 d2 d Q _ _ _ h1 h2 e k
  cases d1 <;> cases d2 <;> first
    | (simp only [iiC] at e
       split at e
       · cases e; exact ⟨_, _, h1.int, h2.int, hC _ _ (by assumption), k _ _ (Grow.refl _) (.int _)⟩
       · cases e)
    | cases e
end
def subD := ii fun i j => i - j
def mulC (i j : Int) : Bool := decide (i.natAbs.log2 + j.natAbs.log2 < 1000000)
def mulD := iiC mulC fun i j => i * j
def divC (_ j : Int) : Bool := decide (0 < j) && decide (j.natAbs.log2 < 9000)
def fdivD := iiC divC fun i j => i / j
def modC (_ j : Int) : Bool := decide (0 < j)
def modD := iiC modC fun i j => i % j
def powC (i j : Int) : Bool := decide (0 ≤ j) && decide (j ≤ 1000000) && decide (i.natAbs < 2 ^ 64)
def powD := iiC powC fun i j => i ^ j.toNat
def ltD := ib fun i j => decide (i < j)
def leD := ib fun i j => decide (i ≤ j)
def gtD := ib fun i j => decide (j < i)
def geD := ib fun i j => decide (j ≤ i)
def negD : D → Option D
  | .int i => some (.int (-i))
  | _ => none
section
variable {X : Cx}
theorem od_sub : OpD X (rI0 fun i j => .int (i - j)) subD := od_i0
theorem od_mul : OpD X (rI CMulW fun i j => .int (i * j)) mulD := od_iC fun i j h => (of_decide_eq_true (show decide (i.natAbs.log2 + j.natAbs.log2 < 1000000) = true from h) : i.natAbs.log2 + j.natAbs.log2 < 1000000)
theorem od_fdiv : OpD X (rI CDivW fun i j => .int (i / j)) fdivD := od_iC fun i j h => by
  unfold divC at h
  rw [Bool.and_eq_true, decide_eq_true_iff, decide_eq_true_iff] at h
  exact h
theorem od_mod : OpD X (rI (fun _ j => 0 < j) fun i j => .int (i % j)) modD := od_iC fun i j h => of_decide_eq_true h
theorem od_pow : OpD X (rI CPow fun i j => .int (i ^ j.toNat)) powD := od_iC fun i j h => by
  unfold powC at h
  rw [Bool.and_eq_true, Bool.and_eq_true, decide_eq_true_iff, decide_eq_true_iff, decide_eq_true_iff] at h
  exact ⟨h.1.1, h.1.2, h.2⟩
theorem od_lt : OpD X (rI0 fun i j => .bl (decide (i < j))) ltD := od_b0
theorem od_le : OpD X (rI0 fun i j => .bl (decide (i ≤ j))) leD := od_b0
theorem od_gt : OpD X (rI0 fun i j => .bl (decide (j < i))) gtD := od_b0
theorem od_ge : OpD X (rI0 fun i j => .bl (decide (j ≤ i))) geD := od_b0
theorem ud_neg : UnD X (rU fun i => .int (-i)) negD := by
  intro q x d1 d Q _ _ _ h1 e k
  cases d1 <;> first
    | (cases e; exact ⟨_, h1.int, k _ _ (Grow.refl _) (.int _)⟩)
    | cases e
end

/-! ### a new object -/
theorem OwnR.rep {r : RC} {a : Addr} (n : ¬ r.A a) : ∀ {d : D}, OwnR r a d → Rep r (.ref a) d
  | .lst _, ⟨_, h, q⟩ => .lst h n q
  | .dct _ _, ⟨_, h, e, q⟩ => .dct h n e q
  | .non, h => h.elim | .bl _, h => h.elim | .int _, h => h.elim | .str _, h => h.elim | .tup _, h => h.elim | .frz _, h => h.elim | .ins _ _ _, h => h.elim | .cell _, h => h.elim
/-- what stands in a new object -/
def NewR (q : RC) (o : HO) : D → Prop
  | .lst ds => ∃ vs, o = .lst vs ∧ Reps q vs ds
  | .dct ks ds => ∃ kvs, o = .dK kvs ∧ kvs.map (·.1) = ks ∧ Reps q (kvs.map (·.2)) ds
  | _ => False
theorem NewR.own {q r : RC} {p : Addr} {o : HO} (S : Stp q r) (h : r.H p = some o) : ∀ {d : D}, NewR q o d → OwnR r p d
  | .lst _, ⟨vs, e, w⟩ => ⟨vs, by rw [h, e], w.step S⟩
  | .dct _ _, ⟨kvs, e, e2, w⟩ => ⟨kvs, by rw [h, e], e2, w.step S⟩
  | .non, h => h.elim | .bl _, h => h.elim | .int _, h => h.elim | .str _, h => h.elim | .tup _, h => h.elim | .frz _, h => h.elim | .ins _ _ _, h => h.elim | .cell _, h => h.elim
theorem NewR.rep {q : RC} {p : Addr} {o : HO} {d : D} (h : NewR q o d) (n : q.H p = none) (na : ¬ q.A p) : Rep (q.at (upd q.H p o)) (.ref p) d :=
  OwnR.rep (r := q.at (upd q.H p o)) na (h.own (Grow.stp (Grow.upd n)) upd_same)
/-- an operator whose value is a new list or dict -/
def OpF (X : Cx) (r : R2) (h : D → D → Option D) : Prop := ∀ (q : RC) (x y : V) (d1 d2 d : D) (Q : VK), q.K = X.K → q.mg = X.mg → (∀ p, q.H p = none → ¬ q.A p) → RepW q x d1 → RepW q y d2 → h d1 d2 = some d →
  (∀ p o, q.H p = none → NewR q o d → Q (.ref p) (upd q.H p o)) → r x y q.H Q
theorem OpF.d {X : Cx} {r : R2} {h : D → D → Option D} (f : OpF X r h) : OpD X r h := fun q x y d1 d2 d Q k1 k2 k3 h1 h2 e k =>
  f q x y d1 d2 d Q k1 k2 k3 h1 h2 e fun p o n w => k _ _ (Grow.upd n) (w.rep n (k3 p n))
theorem own_lst {q : RC} {p : Addr} {vs : List V} {ds : List D} (n : q.H p = none) (h : Reps q vs ds) : OwnR (q.at (upd q.H p (.lst vs))) p (.lst ds) := ⟨vs, upd_same, h.step (Grow.stp (Grow.upd n))⟩
theorem own_dct {q : RC} {p : Addr} {kvs : List (Key × V)} {ks : List Key} {ds : List D} (n : q.H p = none) (e : kvs.map (·.1) = ks) (h : Reps q (kvs.map (·.2)) ds) : OwnR (q.at (upd q.H p (.dK kvs))) p (.dct ks ds) :=
  ⟨kvs, upd_same, e, h.step (Grow.stp (Grow.upd n))⟩
theorem rep_tup {q : RC} {p : Addr} {o : Obj} {vs : List V} {ds : List D} (n : q.H p = none) (na : ¬ q.A p) (hc : o.cls = .type "tuple") (hd : o.dict = none) (h : Reps q vs ds) : Rep (q.at (upd q.H p (.frz o (.tup vs)))) (.ref p) (.tup ds) :=
  .tup (.inl ⟨na, o, upd_same, hc, hd⟩) (h.step (Grow.stp (Grow.upd n)))
/-- a new tuple -/
theorem newT {q : RC} {vs : List V} {ds : List D} {Q : VK} (hn : ∀ p, q.H p = none → ¬ q.A p) (h : Reps q vs ds) (k : ∀ v H', Grow q.H H' → Rep (q.at H') v (.tup ds) → Q v H') : NewT vs q.H Q :=
  fun p o n hc hd => k _ _ (Grow.upd n) (rep_tup n (hn p n) hc hd h)

/-! ### + -/
def addL : D → D → Option D
  | .lst a, .lst b => if a.length + b.length ≤ lineN then some (.lst (a ++ b)) else none
  | _, _ => none
def addT : D → D → Option D
  | .tup a, .tup b => if a.length + b.length ≤ lineN then some (.tup (a ++ b)) else none
  | _, _ => none
def addS : D → D → Option D
  | .str a, .str b => if a.length + b.length ≤ lineN then some (.str (a ++ b)) else none
  | _, _ => none
def addI := ii fun i j => i + j
section
variable {X : Cx}
theorem of_addL : OpF X rCat addL := by
  intro q x y d1 d2 d Q _ _ _ h1 h2 e k
  cases d1 <;> cases d2 <;> first
    | (simp only [addL] at e
       split at e
       · rename_i hl
         cases e
         obtain ⟨a, vs, rfl, ha, qa⟩ := h1.lst
         obtain ⟨b, ws, rfl, hb, qb⟩ := h2.lst
         refine ⟨a, b, vs, ws, rfl, rfl, ha, hb, ?_, fun p n => k p _ n ⟨_, rfl, qa.append qb⟩⟩
         rw [qa.length, qb.length, line_eq]
         exact hl
       · cases e)
    | cases e
theorem od_addT : OpD X (rCatX X.K) addT := by
  intro q x y d1 d2 d Q hK _ hn h1 h2 e k
  cases d1 <;> cases d2 <;> first
    | (simp only [addT] at e
       split at e
       · rename_i hl
         cases e
         obtain ⟨a, vs, rfl, ha, qa⟩ := h1.tup
         obtain ⟨b, ws, rfl, hb, qb⟩ := h2.tup
         refine ⟨a, b, vs, ws, rfl, rfl, hK ▸ ha.sq, hK ▸ hb.sq, ?_, fun z => ?_, fun z1 z2 => ?_, fun z1 z2 => newT hn (qa.append qb) k⟩
         · rw [qa.length, qb.length, line_eq]; exact hl
         · subst z
           cases qa
           exact k _ _ (Grow.refl _) (.tup hb qb)
         · subst z2
           cases qb
           rw [List.append_nil] at k
           exact k _ _ (Grow.refl _) (.tup ha qa)
       · cases e)
    | cases e
theorem od_addS : OpD X (fun x y H Q => ∃ i j, x = .str i ∧ y = .str j ∧ i.length + j.length ≤ sizeLine ∧ Q (.str (i ++ j)) H) addS := by
  intro q x y d1 d2 d Q _ _ _ h1 h2 e k
  cases d1 <;> cases d2 <;> first
    | (simp only [addS] at e
       split at e
       · rename_i hl
         cases e
         exact ⟨_, _, h1.str, h2.str, by rw [line_eq]; exact hl, k _ _ (Grow.refl _) (.str _)⟩
       · cases e)
    | cases e
theorem od_addI : OpD X (rI0 fun i j => .int (i + j)) addI := od_i0
end
/-- x + y of ints, texts, lists, tuples -/
def addD : D → D → Option D := fun x y => (addI x y).or ((addS x y).or ((addL x y).or (addT x y)))
theorem addD_int (i j : Int) : addD (.int i) (.int j) = some (.int (i + j)) := rfl
theorem addD_str (s t : Str) : addD (.str s) (.str t) = if s.length + t.length ≤ lineN then some (.str (s ++ t)) else none := by
  show ((addS (.str s) (.str t)).or none) = _
  rw [Option.or_none]; rfl
theorem addD_lst (s t : List D) : addD (.lst s) (.lst t) = if s.length + t.length ≤ lineN then some (.lst (s ++ t)) else none := by
  show ((addL (.lst s) (.lst t)).or none) = _
  rw [Option.or_none]; rfl
theorem addD_tup (s t : List D) : addD (.tup s) (.tup t) = if s.length + t.length ≤ lineN then some (.tup (s ++ t)) else none := rfl
section
variable {Φ : Ctx} {X : Cx} {a b c e : Expr} {f g k : Mo D} {pos : Pos}
theorem de_add (ha : DE Φ X a f) (hb : DB Φ X b g) : DE Φ X (.BinOp a .Add b pos) (op2 addD f g) :=
  de_op (op_add.or (op_add_str.or (op_cat.or op_catX))) (od_addI.or (od_addS.or (of_addL.d.or od_addT))) ha hb
theorem de_sub (ha : DE Φ X a f) (hb : DB Φ X b g) : DE Φ X (.BinOp a .Sub b pos) (op2 subD f g) := de_op op_sub od_sub ha hb
theorem de_mul (ha : DE Φ X a f) (hb : DB Φ X b g) : DE Φ X (.BinOp a .Mult b pos) (op2 mulD f g) := de_op op_mulW od_mul ha hb
theorem de_fdiv (ha : DE Φ X a f) (hb : DB Φ X b g) : DE Φ X (.BinOp a .FloorDiv b pos) (op2 fdivD f g) := de_op op_fdivW od_fdiv ha hb
theorem de_mod (ha : DE Φ X a f) (hb : DB Φ X b g) : DE Φ X (.BinOp a .Mod b pos) (op2 modD f g) := de_op op_mod od_mod ha hb
theorem de_pow (ha : DE Φ X a f) (hb : DB Φ X b g) : DE Φ X (.BinOp a .Pow b pos) (op2 powD f g) := de_op op_pow od_pow ha hb
theorem de_neg (ha : DB Φ X a f) : DE Φ X (.UnaryOp .USub a pos) (op1 negD f) := de_un un_neg ud_neg ha
end

/-! ### comparisons of data -/
def flatD : D → Bool
  | .non | .bl _ | .int _ | .str _ => true
  | _ => false
def eqF : D → D → Bool
  | .non, .non => true
  | .bl a, .bl b => a == b
  | .bl a, .int b => (if a then 1 else 0) == b
  | .int a, .bl b => a == (if b then 1 else 0)
  | .int a, .int b => a == b
  | .str a, .str b => a == b
  | _, _ => false
theorem Rep.flat {r : RC} {v : V} {d : D} (h : Rep r v d) (f : flatD d = true) : flatV v = true := by cases h <;> first | rfl | (cases f; done)
theorem Reps.flatV {r : RC} : ∀ {vs : List V} {ds : List D}, Reps r vs ds → ds.all flatD = true → vs.all L2.flatV = true
  | _, _, .nil, _ => rfl
  | _, _, .cons h t, f => by
    rw [List.all_cons, Bool.and_eq_true] at f ⊢
    exact ⟨h.flat f.1, Reps.flatV t f.2⟩
theorem Rep.eqF {r : RC} {v w : V} {d e : D} (h : Rep r v d) (k : Rep r w e) (f : flatD d = true) (g : flatD e = true) : eqV v w = DL.eqF d e := by
  cases h <;> first
    | (cases f; done)
    | (cases k <;> first | (cases g; done) | rfl)
theorem Reps.inV {r : RC} {v : V} {d : D} (h : Rep r v d) (f : flatD d = true) : ∀ {vs : List V} {ds : List D}, Reps r vs ds → ds.all flatD = true → L2.inV v vs = ds.any fun y => DL.eqF y d
  | _, _, .nil, _ => rfl
  | _, _, .cons q t, g => by
    rw [List.all_cons, Bool.and_eq_true] at g
    unfold L2.inV
    rw [List.any_cons, List.any_cons, q.eqF h g.1 f]
    exact congrArg (fun b => _ || b) (Reps.inV h f t g.2)
def inL (neg : Bool) (x : D) (ds : List D) : Option D := if flatD x && ds.all flatD then some (.bl (if neg then !(ds.any fun y => eqF y x) else ds.any fun y => eqF y x)) else none
def inSeq (neg : Bool) (x : D) : D → Option D
  | .lst ds | .tup ds | .frz ds => inL neg x ds
  | _ => none
theorem RepW.flat {r : RC} {v : V} {d : D} (h : RepW r v d) (f : flatD d = true) : Rep r v d := by
  rcases h with h | ⟨a, e, h⟩
  · exact h
  · cases d <;> first | (cases f; done) | exact h.elim
section
variable {X : Cx}
theorem od_in (neg : Bool) : OpD X (rIn X.K neg) (inSeq neg) := by
  intro q x y d1 d2 d Q hK _ _ h1 h2 e k
  have fin : ∀ {p : Addr} {vs : List V} {ds : List D}, y = .ref p → (SqL X.K q.H p vs ∨ SqT X.K q.H p vs) → Reps q vs ds → inL neg d1 ds = some d → rIn X.K neg x y q.H Q := by
    intro p vs ds ey hs qs e
    unfold inL at e
    split at e
    · rename_i hf
      rw [Bool.and_eq_true] at hf
      cases e
      have r1 := h1.flat hf.1
      refine ⟨p, vs, ey, hs, r1.flat hf.1, qs.flatV hf.2, ?_⟩
      rw [Reps.inV r1 hf.1 qs hf.2]
      exact k _ _ (Grow.refl _) (.bl _)
    · cases e
  cases d2 with
  | lst ds =>
    obtain ⟨b, ws, rfl, hb, qb⟩ := h2.lst
    exact fin rfl (.inl (.of hb)) qb e
  | tup ds =>
    obtain ⟨b, ws, rfl, hb, qb⟩ := h2.tup
    exact fin rfl (.inr (hK ▸ hb.sq)) qb e
  | frz ds =>
    obtain ⟨b, ws, rfl, hb, qb⟩ := h2.frz
    exact fin rfl (.inl (hK ▸ hb.sq)) qb e
  | _ => cases e
end

/-! ### == -/
mutual
/-- as the model's data; junk for what is no data -/
def toP : D → PyData
  | .non => .none | .bl b => .bool b | .int i => .int i | .str s => .str s
  | .tup xs => .tuple (toPs xs) | .lst xs => .list (toPs xs) | .frz xs => .list (toPs xs)
  | .dct _ _ => .none | .ins _ _ _ => .none | .cell _ => .none
def toPs : List D → List PyData
  | [] => []
  | d :: ds => toP d :: toPs ds
end
mutual
def isData : D → Bool
  | .non | .bl _ | .int _ | .str _ => true
  | .tup xs | .lst xs | .frz xs => areData xs
  | .dct _ _ => false | .ins _ _ _ => false | .cell _ => false
def areData : List D → Bool
  | [] => true
  | d :: ds => isData d && areData ds
end
mutual
theorem Rep.dp {r : RC} : ∀ {v : V} {d : D}, Rep r v d → isData d = true → Dp r.K r.H v (toP d)
  | _, _, .non, _ => .non
  | _, _, .bl b, _ => .bl b
  | _, _, .int i, _ => .int i
  | _, _, .str s, _ => .str s
  | _, _, .tup h q, e => .tup h.sq (Reps.dp q e)
  | _, _, .lst h n q, e => .lst (.of h) (Reps.dp q e)
  | _, _, .frz h q, e => .lst h.sq (Reps.dp q e)
  | _, _, .dct _ _ _ _, e => by cases e
  | _, _, .ins _ _ _ _ _, e => by cases e
  | _, _, .cell _, e => by cases e
theorem Reps.dp {r : RC} : ∀ {vs : List V} {ds : List D}, Reps r vs ds → areData ds = true → DpAll r.K r.H vs (toPs ds)
  | _, _, .nil, _ => .nil
  | _, _, .cons h t, e => by
    have e : (isData _ && areData _) = true := e
    rw [Bool.and_eq_true] at e
    exact .cons (Rep.dp h e.1) (Reps.dp t e.2)
end
theorem RepW.dp {r : RC} {v : V} {d : D} (h : RepW r v d) (e : isData d = true) : Dp r.K r.H v (toP d) := by
  rcases h with h | ⟨a, rfl, h⟩
  · exact h.dp e
  · cases d with
    | lst ds => obtain ⟨vs, h, q⟩ := h; exact .lst (.of h) (q.dp e)
    | dct ks ds => cases e
    | _ => exact h.elim
/-- scalars that the plain rule tells apart -/
def scalD : D → D → Option Bool
  | .non, .non => some true | .non, .int _ => some false | .int _, .non => some false | .non, .bl _ => some false | .bl _, .non => some false | .non, .str _ => some false | .str _, .non => some false
  | .int i, .int j => some (decide (i = j)) | .bl i, .bl j => some (decide (i = j)) | .str i, .str j => some (decide (i = j))
  | .int _, .str _ => some false | .str _, .int _ => some false | .bl _, .str _ => some false | .str _, .bl _ => some false
  | _, _ => none
def dataEq (x y : D) : Option Bool := if isData x && isData y && SeqAt.shaped (toP x) && SeqAt.shaped (toP y) then some (PyData.eqv (toP x) (toP y)) else none
/-- two dicts of flat things that are the same -/
def dctEq : D → D → Option Bool
  | .dct ks vs, .dct ks' vs' => if decide (ks = ks') && decide (ks.Nodup) && vs.all flatD && vs'.all flatD && decide (vs.length = vs'.length) && (vs.zip vs').all (fun p => eqF p.1 p.2) then some true else none
  | _, _ => none
def eqB (x y : D) : Option Bool := (scalD x y).or (dataEq x y)
def eqD (x y : D) : Option D := ((scalD x y).map D.bl).or ((dataEq x y).map D.bl)
def neD (x y : D) : Option D := ((scalD x y).map fun b => D.bl (!b)).or ((dataEq x y).map fun b => D.bl (!b))
theorem scal_eq {r : RC} {x y : V} {d1 d2 : D} {b : Bool} (h1 : RepW r x d1) (h2 : RepW r y d2) (e : scalD d1 d2 = some b) : scal x y = true ∧ decide (x = y) = b := by
  cases d1 <;> cases d2 <;> first
    | cases e; done
    | (have e := Option.some.inj e
       subst e
       first
         | (rw [h1.int, h2.int]; exact ⟨rfl, by simp⟩)
         | (rw [h1.bl, h2.bl]; exact ⟨rfl, by simp⟩)
         | (rw [h1.str, h2.str]; exact ⟨rfl, by simp⟩)
         | (rw [h1.non, h2.non]; exact ⟨rfl, by simp⟩)
         | (rw [h1.int, h2.str]; exact ⟨rfl, by simp⟩)
         | (rw [h1.str, h2.int]; exact ⟨rfl, by simp⟩)
         | (rw [h1.bl, h2.str]; exact ⟨rfl, by simp⟩)
         | (rw [h1.str, h2.bl]; exact ⟨rfl, by simp⟩)
         | (rw [h1.non, h2.int]; exact ⟨rfl, by simp⟩)
         | (rw [h1.int, h2.non]; exact ⟨rfl, by simp⟩)
         | (rw [h1.non, h2.bl]; exact ⟨rfl, by simp⟩)
         | (rw [h1.bl, h2.non]; exact ⟨rfl, by simp⟩)
         | (rw [h1.non, h2.str]; exact ⟨rfl, by simp⟩)
         | (rw [h1.str, h2.non]; exact ⟨rfl, by simp⟩))
section
variable {X : Cx}
theorem od_eqS : OpD X rEq (fun x y => (scalD x y).map D.bl) := by
  intro q x y d1 d2 d Q _ _ _ h1 h2 e k
  obtain ⟨b, e2, rfl⟩ := Option.map_eq_some_iff.mp e
  obtain ⟨s, z⟩ := scal_eq h1 h2 e2
  exact ⟨s, by rw [z]; exact k _ _ (Grow.refl _) (.bl _)⟩
theorem od_neS : OpD X rNe (fun x y => (scalD x y).map fun b => D.bl (!b)) := by
  intro q x y d1 d2 d Q _ _ _ h1 h2 e k
  obtain ⟨b, e2, rfl⟩ := Option.map_eq_some_iff.mp e
  obtain ⟨s, z⟩ := scal_eq h1 h2 e2
  exact ⟨s, by rw [z]; exact k _ _ (Grow.refl _) (.bl _)⟩
theorem od_eqP : OpD X (rEqD X.K) (fun x y => (dataEq x y).map D.bl) := by
  intro q x y d1 d2 d Q hK _ _ h1 h2 e k
  obtain ⟨b, e2, rfl⟩ := Option.map_eq_some_iff.mp e
  unfold dataEq at e2
  split at e2
  · rename_i hc
    simp only [Bool.and_eq_true] at hc
    cases e2
    exact ⟨_, _, hK ▸ h1.dp hc.1.1.1, hK ▸ h2.dp hc.1.1.2, hc.1.2, hc.2, k _ _ (Grow.refl _) (.bl _)⟩
  · cases e2
theorem od_neP : OpD X (rNeD X.K) (fun x y => (dataEq x y).map fun b => D.bl (!b)) := by
  intro q x y d1 d2 d Q hK _ _ h1 h2 e k
  obtain ⟨b, e2, rfl⟩ := Option.map_eq_some_iff.mp e
  unfold dataEq at e2
  split at e2
  · rename_i hc
    simp only [Bool.and_eq_true] at hc
    cases e2
    exact ⟨_, _, hK ▸ h1.dp hc.1.1.1, hK ▸ h2.dp hc.1.1.2, hc.1.2, hc.2, k _ _ (Grow.refl _) (.bl _)⟩
  · cases e2
def isND (neg : Bool) : D → D → Option D
  | .non, .non => some (.bl (!neg))
  | _, .non => some (.bl neg)
  | _, _ => none
theorem Rep.notNon {r : RC} {v : V} {d : D} (h : Rep r v d) (n : d ≠ .non) : v ≠ .non := by
  cases h <;> first | exact absurd rfl n | (intro z; cases z)
theorem RepW.notNon {r : RC} {v : V} {d : D} (h : RepW r v d) (n : d ≠ .non) : v ≠ .non := by
  rcases h with h | ⟨a, rfl, h⟩
  · exact h.notNon n
  · intro z; cases z
theorem od_isN : OpD X (fun x y H Q => y = .non ∧ Q (.bl (decide (x = .non))) H) (isND false) := by
  intro q x y d1 d2 d Q _ _ _ h1 h2 e k
  have fin : d1 ≠ .non → d2 = .non → d = .bl false → y = .non ∧ Q (.bl (decide (x = .non))) q.H := fun n e2 e3 => by
    subst e2 e3
    refine ⟨h2.non, ?_⟩
    rw [decide_eq_false (h1.notNon n)]
    exact k _ _ (Grow.refl _) (.bl _)
  cases d2 <;> first
    | (cases d1 <;> first
        | cases e; done
        | exact fin (by intro z; cases z) rfl (Option.some.inj e).symm
        | (refine ⟨h2.non, ?_⟩
           rw [h1.non]
           cases e
           exact k _ _ (Grow.refl _) (.bl _)))
    | (cases d1 <;> cases e)
theorem od_notN : OpD X (fun x y H Q => y = .non ∧ Q (.bl (!decide (x = .non))) H) (isND true) := by
  intro q x y d1 d2 d Q _ _ _ h1 h2 e k
  have fin : d1 ≠ .non → d2 = .non → d = .bl true → y = .non ∧ Q (.bl (!decide (x = .non))) q.H := fun n e2 e3 => by
    subst e2 e3
    refine ⟨h2.non, ?_⟩
    rw [decide_eq_false (h1.notNon n)]
    exact k _ _ (Grow.refl _) (.bl _)
  cases d2 <;> first
    | (cases d1 <;> first
        | cases e; done
        | exact fin (by intro z; cases z) rfl (Option.some.inj e).symm
        | (refine ⟨h2.non, ?_⟩
           rw [h1.non]
           cases e
           exact k _ _ (Grow.refl _) (.bl _)))
    | (cases d1 <;> cases e)
end
end L2.DL

/-! DL4: tests, and/or, displays, slices, built-ins by values. -/
namespace L2.DL
open PySem PySem.Spec PyProof.Rows
section
variable {Φ : Ctx} {X : Cx} {a b c e : Expr} {f g k : Mo D} {pos : Pos}

/-! ### == of anything that is data -/
abbrev hasUnits (X : Cx) : Prop := X.A.units + 64 < cLine
theorem or_eq (hu : hasUnits X) : OpR X (compareOp .Eq) (fun x y H Q => rEq x y H Q ∨ rEqD X.K x y H Q) := op_eq.or (op_eqD hu)
theorem or_ne (hu : hasUnits X) : OpR X (compareOp .NotEq) (fun x y H Q => rNe x y H Q ∨ rNeD X.K x y H Q) := op_ne.or (op_neD hu)
theorem od_eq : OpD X (fun x y H Q => rEq x y H Q ∨ rEqD X.K x y H Q) eqD := od_eqS.or od_eqP
theorem od_ne : OpD X (fun x y H Q => rNe x y H Q ∨ rNeD X.K x y H Q) neD := od_neS.or od_neP

/-! ### one sign in a text -/
def inTxt (neg : Bool) : D → D → Option D
  | .str s, .str t => some (.bl (if neg then !(!(Builtin.Str.occurrences t s 0 t.length 1).isEmpty) else !(Builtin.Str.occurrences t s 0 t.length 1).isEmpty))
  | _, _ => none
theorem od_inT : OpD X (fun x y H Q => ∃ i j, x = .str i ∧ y = .str j ∧ Q (.bl (!(Builtin.Str.occurrences j i 0 j.length 1).isEmpty)) H) (inTxt false) := by
  intro q x y d1 d2 d Q _ _ _ h1 h2 e k
  cases d1 <;> cases d2 <;> first
    | (cases e; exact ⟨_, _, h1.str, h2.str, k _ _ (Grow.refl _) (.bl _)⟩)
    | cases e
theorem od_ninT : OpD X (fun x y H Q => ∃ i j, x = .str i ∧ y = .str j ∧ Q (.bl (!(!(Builtin.Str.occurrences j i 0 j.length 1).isEmpty))) H) (inTxt true) := by
  intro q x y d1 d2 d Q _ _ _ h1 h2 e k
  cases d1 <;> cases d2 <;> first
    | (cases e; exact ⟨_, _, h1.str, h2.str, k _ _ (Grow.refl _) (.bl _)⟩)
    | cases e
def inD (x y : D) : Option D := (inSeq false x y).or (inTxt false x y)
def ninD (x y : D) : Option D := (inSeq true x y).or (inTxt true x y)
theorem od_inD : OpD X (fun x y H Q => rIn X.K false x y H Q ∨ (∃ i j, x = .str i ∧ y = .str j ∧ Q (.bl (!(Builtin.Str.occurrences j i 0 j.length 1).isEmpty)) H)) inD := (od_in false).or od_inT
theorem od_ninD : OpD X (fun x y H Q => rIn X.K true x y H Q ∨ (∃ i j, x = .str i ∧ y = .str j ∧ Q (.bl (!(!(Builtin.Str.occurrences j i 0 j.length 1).isEmpty))) H)) ninD := (od_in true).or od_ninT

/-! ### order of ints and texts -/
def strLt : D → D → Option D
  | .str s, .str t => some (.bl (decide (s.cps.toList < t.cps.toList)))
  | _, _ => none
def strLe : D → D → Option D
  | .str s, .str t => some (.bl (decide (s.cps.toList ≤ t.cps.toList)))
  | _, _ => none
theorem od_ltS : OpD X (fun x y H Q => ∃ i j, x = .str i ∧ y = .str j ∧ Q (.bl (decide (i.cps.toList < j.cps.toList))) H) strLt := by
  intro q x y d1 d2 d Q _ _ _ h1 h2 e k
  cases d1 <;> cases d2 <;> first
    | (cases e; exact ⟨_, _, h1.str, h2.str, k _ _ (Grow.refl _) (.bl _)⟩)
    | cases e
def ltA (x y : D) : Option D := (ltD x y).or (strLt x y)
theorem ltA_int (i j : Int) : ltA (.int i) (.int j) = some (.bl (decide (i < j))) := rfl

theorem de_lt (ha : DE Φ X a f) (hb : DB Φ X b g) : DE Φ X (.Compare a [.Lt] [b] pos) (op2 ltA f g) := de_cmp (op_lt.or op_lt_str) (od_lt.or od_ltS) ha hb (nomark _)
theorem de_le (ha : DE Φ X a f) (hb : DB Φ X b g) : DE Φ X (.Compare a [.LtE] [b] pos) (op2 leD f g) := de_cmp op_le od_le ha hb (nomark _)
theorem de_gt (ha : DE Φ X a f) (hb : DB Φ X b g) : DE Φ X (.Compare a [.Gt] [b] pos) (op2 gtD f g) := de_cmp op_gt od_gt ha hb (nomark _)
theorem de_ge (ha : DE Φ X a f) (hb : DB Φ X b g) : DE Φ X (.Compare a [.GtE] [b] pos) (op2 geD f g) := de_cmp op_ge od_ge ha hb (nomark _)
theorem de_eq (hu : hasUnits X) (ha : DE Φ X a f) (hb : DB Φ X b g) : DE Φ X (.Compare a [.Eq] [b] pos) (op2 eqD f g) := de_cmp (or_eq hu) od_eq ha hb (nomark _)
theorem de_ne (hu : hasUnits X) (ha : DE Φ X a f) (hb : DB Φ X b g) : DE Φ X (.Compare a [.NotEq] [b] pos) (op2 neD f g) := de_cmp (or_ne hu) od_ne ha hb (nomark _)
theorem de_in (ha : DE Φ X a f) (hb : DB Φ X b g) (hm : behindInMarks .In b = false := by rfl) : DE Φ X (.Compare a [.In] [b] pos) (op2 inD f g) := de_cmp (op_in_seq.or op_in_str) od_inD ha hb hm
theorem de_nin (ha : DE Φ X a f) (hb : DB Φ X b g) (hm : behindInMarks .NotIn b = false := by rfl) : DE Φ X (.Compare a [.NotIn] [b] pos) (op2 ninD f g) := de_cmp (op_notIn_seq.or op_notIn_str) od_ninD ha hb hm
theorem de_isN (ha : DE Φ X a f) (hb : DB Φ X b g) : DE Φ X (.Compare a [.Is] [b] pos) (op2 (isND false) f g) := de_cmp op_isN od_isN ha hb (nomark _)
theorem de_notN (ha : DE Φ X a f) (hb : DB Φ X b g) : DE Φ X (.Compare a [.IsNot] [b] pos) (op2 (isND true) f g) := de_cmp op_notN od_notN ha hb (nomark _)

/-! ### tests -/
def PostT (Φ : Ctx) (X : Cx) (C : List Addr) (os : Os) (σ : St) (H : Hp) (o : O Bool) (Q : Bool → Hp → Prop) : Prop := match o with
  | .ok d ρ' μ' => ∀ H' C' os', Rl Φ X ρ' μ' C' os' σ H' → Stp (rc Φ X C os H) (rc Φ X C' os' H') → Q d H'
  | .ex c ns ds ρ' μ' => ∀ Cc dx H' C' os', Rl Φ X ρ' μ' C' os' σ H' → Stp (rc Φ X C os H) (rc Φ X C' os' H') → X.mg c = some (.ref Cc) → EhR (rc Φ X C' os' H') dx c ns ds → Φ.W (.ref Cc) (some dx) σ H'
  | .no => False
def cT (Φ : Ctx) (X : Cx) (f : Mo Bool) : TT := fun σ H Q => ∃ ρ μ C os, Rl Φ X ρ μ C os σ H ∧ PostT Φ X C os σ H (f ρ μ) Q
def DT (Φ : Ctx) (X : Cx) (e : Expr) (f : Mo Bool) : Prop := PT X e (cT Φ X f)
def DW (Φ : Ctx) (X : Cx) (e : Expr) (f : Mo Bool) : Prop := PW X e (cT Φ X f)
theorem PT.imp {e : Expr} {t t' : TT} (h : PT X e t) (i : ∀ σ H Q, t' σ H Q → t σ H Q) : PT X e t' := ⟨fun pins s σ H Q I q => h.run pins s σ H Q I (i σ H Q q)⟩
theorem PW.imp {e : Expr} {t t' : TT} (h : PW X e t) (i : ∀ σ H Q, t' σ H Q → t σ H Q) : PW X e t' := ⟨fun w pins s σ H Q I q => h.run w pins s σ H Q I (i σ H Q q)⟩
theorem PostT.from {C C1 : List Addr} {os os1 : Os} {σ : St} {H H1 : Hp} {o : O Bool} {Q : Bool → Hp → Prop} (S : Stp (rc Φ X C os H) (rc Φ X C1 os1 H1)) (h : PostT Φ X C os σ H o Q) : PostT Φ X C1 os1 σ H1 o Q := by
  cases o with
  | ok d ρ' μ' => exact fun H' C' os' R T => h H' C' os' R (S.trans T)
  | ex c ns ds ρ' μ' => exact fun Cc dx H' C' os' R T g e => h Cc dx H' C' os' R (S.trans T) g e
  | no => exact h
def asBl : D → Option Bool
  | .bl b => some b
  | _ => none
def tst (f : Mo D) : Mo Bool := bnd f fun x => lift (asBl x)
theorem cE_tst {σ : St} {H : Hp} {Q : Bool → Hp → Prop} (z : cT Φ X (tst f) σ H Q) : cE Φ X f σ H fun x H1 => ∃ k, x = .bl k ∧ Q k H1 := by
  obtain ⟨ρ, μ, C, os, R, z⟩ := z
  refine ⟨ρ, μ, C, os, R, ?_⟩
  unfold tst bnd at z
  cases e : f ρ μ with
  | no => rw [e] at z; exact z.elim
  | ex c ns ds ρ1 μ1 => rw [e] at z; exact z
  | ok d ρ1 μ1 =>
    rw [e] at z
    intro v H1 C1 os1 R1 S1 q
    cases d <;> first
      | (cases q; exact ⟨_, rfl, z H1 C1 os1 R1 S1⟩)
      | exact z.elim
theorem dt_val (h : DE Φ X e f) (he : ∀ whole, isTrue e X.env whole = (do let v ← whole; standAt e.pos; holding [v] (truthy v)) := by intro _; rfl) : DT Φ X e (tst f) := PT.imp (pt_val h he) fun σ H Q z => cE_tst z
theorem pt_of {op : CmpOp} {r : R2} {h : D → D → Option D} (ho : OpR X (compareOp op) r) (hD : OpD X r h) (ha : DE Φ X a f) (hb : DB Φ X b g) (hm : behindInMarks op b = false) : DT Φ X (.Compare a [op] [b] pos) (tst (op2 h f g)) :=
  PT.imp (pt_cmpR ho ha hb hm) fun σ H Q z => run2 hD (cE_tst z)
theorem pt_ofv {op : CmpOp} {r : R2} {h : D → D → Option D} {i : Nat} {x : Str} {px : Pos} (ho : OpR X (compareOp op) r) (hD : OpD X r h) (hb : DE Φ X b g) (hm : behindInMarks op b = false) (hN : X.N[i]? = some x := by rfl)
    (hv : Vis X.env.scope x := by first | exact Or.inl rfl | exact Or.inr (Or.inl rfl) | exact Or.inr (Or.inr rfl)) (hd : (x == ("__debug__" : Str)) = false := by decide) (hcd : (x == ("__classdict__" : Str)) = false := by decide) :
    DT Φ X (.Compare (.Name x px) [op] [b] pos) (tst (op2v h i g)) := PT.imp (pt_cmpR ho (pe_var hN hv hd hcd) hb hm) fun σ H Q z => run2v hD (cE_tst z)
theorem dt_lt (ha : DE Φ X a f) (hb : DB Φ X b g) : DT Φ X (.Compare a [.Lt] [b] pos) (tst (op2 ltA f g)) := pt_of (op_lt.or op_lt_str) (od_lt.or od_ltS) ha hb (nomark _)
theorem dt_le (ha : DE Φ X a f) (hb : DB Φ X b g) : DT Φ X (.Compare a [.LtE] [b] pos) (tst (op2 leD f g)) := pt_of op_le od_le ha hb (nomark _)
theorem dt_gt (ha : DE Φ X a f) (hb : DB Φ X b g) : DT Φ X (.Compare a [.Gt] [b] pos) (tst (op2 gtD f g)) := pt_of op_gt od_gt ha hb (nomark _)
theorem dt_ge (ha : DE Φ X a f) (hb : DB Φ X b g) : DT Φ X (.Compare a [.GtE] [b] pos) (tst (op2 geD f g)) := pt_of op_ge od_ge ha hb (nomark _)
theorem dt_eq (hu : hasUnits X) (ha : DE Φ X a f) (hb : DB Φ X b g) : DT Φ X (.Compare a [.Eq] [b] pos) (tst (op2 eqD f g)) := pt_of (or_eq hu) od_eq ha hb (nomark _)
theorem dt_ne (hu : hasUnits X) (ha : DE Φ X a f) (hb : DB Φ X b g) : DT Φ X (.Compare a [.NotEq] [b] pos) (tst (op2 neD f g)) := pt_of (or_ne hu) od_ne ha hb (nomark _)
theorem dt_in (ha : DE Φ X a f) (hb : DB Φ X b g) (hm : behindInMarks .In b = false := by rfl) : DT Φ X (.Compare a [.In] [b] pos) (tst (op2 inD f g)) := pt_of (op_in_seq.or op_in_str) od_inD ha hb hm
theorem dt_nin (ha : DE Φ X a f) (hb : DB Φ X b g) (hm : behindInMarks .NotIn b = false := by rfl) : DT Φ X (.Compare a [.NotIn] [b] pos) (tst (op2 ninD f g)) := pt_of (op_notIn_seq.or op_notIn_str) od_ninD ha hb hm
theorem dt_isN (ha : DE Φ X a f) (hb : DB Φ X b g) : DT Φ X (.Compare a [.Is] [b] pos) (tst (op2 (isND false) f g)) := pt_of op_isN od_isN ha hb (nomark _)
theorem dt_notN (ha : DE Φ X a f) (hb : DB Φ X b g) : DT Φ X (.Compare a [.IsNot] [b] pos) (tst (op2 (isND true) f g)) := pt_of op_notN od_notN ha hb (nomark _)

/-- a list, a tuple, a text, a dict, an int by its truth -/
def truD : D → Option Bool
  | .non => some false
  | .bl b => some b
  | .int i => some (i != 0)
  | .str s => if s.length ≤ lineN then some ((s.length : Int) != 0) else none
  | .lst ds | .tup ds | .frz ds => some (!ds.isEmpty)
  | .dct ks _ => some (!ks.isEmpty)
  | _ => none
theorem Reps.isEmpty {r : RC} {vs : List V} {ds : List D} (h : Reps r vs ds) : vs.isEmpty = ds.isEmpty := by cases h <;> rfl
theorem tru_of {r : RC} {v : V} {d : D} {k : Bool} (h : RepW r v d) (e : truD d = some k) : TruV r.K v r.H k := by
  unfold TruV
  cases d with
  | non => cases e; rw [h.non]
  | bl b => cases e; rw [h.bl]
  | int i => cases e; rw [h.int]
  | str s =>
    rw [h.str]
    simp only [truD] at e
    split at e
    · rename_i hl
      cases e
      exact ⟨by rw [line_eq]; exact hl, rfl⟩
    · cases e
  | tup ds =>
    obtain ⟨a, vs, rfl, ha, q⟩ := h.tup
    cases e
    exact .inr (.inl ⟨vs, ha.sq, by rw [q.isEmpty]⟩)
  | lst ds =>
    obtain ⟨a, vs, rfl, ha, q⟩ := h.lst
    cases e
    exact .inl ⟨vs, .of ha, by rw [q.isEmpty]⟩
  | frz ds =>
    obtain ⟨a, vs, rfl, ha, q⟩ := h.frz
    cases e
    exact .inl ⟨vs, ha.sq, by rw [q.isEmpty]⟩
  | dct ks ds =>
    obtain ⟨a, kvs, rfl, ha, hk, q⟩ := h.dct
    cases e
    refine .inr (.inr ⟨kvs, ha, ?_⟩)
    subst hk
    cases kvs <;> rfl
  | ins c ns ds => cases e
  | cell n => cases e
end
end L2.DL

/-! DL5: truth, and/or/not, a if b else c, chains, displays, slices. -/
namespace L2.DL
open PySem PySem.Spec PyProof.Rows
section
variable {Φ : Ctx} {X : Cx} {a b c e : Expr} {f g k : Mo D} {ft gt : Mo Bool} {rest : List Expr} {pos : Pos}
/-! ### a test by truth -/
def tru (f : Mo D) : Mo Bool := bnd f fun x => lift (truD x)
theorem dt_truth (h : DB Φ X e f) (he : ∀ whole, isTrue e X.env whole = (do let v ← whole; standAt e.pos; holding [v] (truthy v)) := by intro _; rfl) : DT Φ X e (tru f) := PT.imp (pt_truth h he) fun σ H Q ⟨ρ, μ, C, os, R, z⟩ => by
  refine ⟨ρ, μ, C, os, R, ?_⟩
  unfold tru bnd at z
  cases e : f ρ μ with
  | no => rw [e] at z; exact z.elim
  | ex c ns ds ρ1 μ1 => rw [e] at z; exact z
  | ok d ρ1 μ1 =>
    rw [e] at z
    intro v H1 C1 os1 R1 S1 q
    cases e2 : truD d with
    | none => simp only [lift, e2] at z; exact z.elim
    | some k =>
      simp only [lift, e2] at z
      exact ⟨k, tru_of q e2, z H1 C1 os1 R1 S1⟩

/-! ### and, or, not -/
def andM (f g : Mo Bool) : Mo Bool := bnd f fun b => if b then g else ret false
def orM (f g : Mo Bool) : Mo Bool := bnd f fun b => if b then ret true else g
def notM (f : Mo Bool) : Mo Bool := bnd f fun b => ret (!b)
theorem PostT.bnd {C : List Addr} {os : Os} {σ : St} {H : Hp} {f : Mo Bool} {g : Bool → Mo Bool} {ρ : Env} {μ : Sto} {Q Q1 : Bool → Hp → Prop} (h : PostT Φ X C os σ H (DL.bnd f g ρ μ) Q)
    (k : ∀ d ρ1 μ1 H1 C1 os1, Rl Φ X ρ1 μ1 C1 os1 σ H1 → Stp (rc Φ X C os H) (rc Φ X C1 os1 H1) → PostT Φ X C1 os1 σ H1 (g d ρ1 μ1) Q → Q1 d H1) : PostT Φ X C os σ H (f ρ μ) Q1 := by
  unfold DL.bnd at h
  cases e : f ρ μ with
  | ok d ρ1 μ1 =>
    rw [e] at h
    exact fun H1 C1 os1 R S => k d ρ1 μ1 H1 C1 os1 R S (PostT.from S h)
  | ex c ns ds ρ1 μ1 => rw [e] at h; exact h
  | no => rw [e] at h; exact h
theorem retT {ρ : Env} {μ : Sto} {C : List Addr} {os : Os} {σ : St} {H : Hp} {b : Bool} {Q : Bool → Hp → Prop} (R : Rl Φ X ρ μ C os σ H) (p : PostT Φ X C os σ H (ret b ρ μ) Q) : Q b H := p H C os R (Stp.refl _)
theorem DW.dt (h : DW Φ X e ft) : DT Φ X e ft := PW.pt h
theorem dw_and1 (h : DT Φ X a ft) : DW Φ X (.BoolOp .And [a] pos) ft := pw_and1 h
theorem dw_or1 (h : DT Φ X a ft) : DW Φ X (.BoolOp .Or [a] pos) ft := pw_or1 h
theorem dw_and (ha : DT Φ X a ft) (hb : DW Φ X (.BoolOp .And (b :: rest) pos) gt) : DW Φ X (.BoolOp .And (a :: b :: rest) pos) (andM ft gt) := PW.imp (pw_and ha hb) fun σ H Q ⟨ρ, μ, C, os, R, z⟩ =>
  ⟨ρ, μ, C, os, R, PostT.bnd z fun d ρ1 μ1 H1 C1 os1 R1 S1 z1 => by
    cases d with
    | true => exact (if_pos rfl).mpr ⟨ρ1, μ1, C1, os1, R1, z1⟩
    | false => exact (if_neg Bool.false_ne_true).mpr (retT R1 z1)⟩
theorem dw_or (ha : DT Φ X a ft) (hb : DW Φ X (.BoolOp .Or (b :: rest) pos) gt) : DW Φ X (.BoolOp .Or (a :: b :: rest) pos) (orM ft gt) := PW.imp (pw_or ha hb) fun σ H Q ⟨ρ, μ, C, os, R, z⟩ =>
  ⟨ρ, μ, C, os, R, PostT.bnd z fun d ρ1 μ1 H1 C1 os1 R1 S1 z1 => by
    cases d with
    | true => exact (if_pos rfl).mpr (retT R1 z1)
    | false => exact (if_neg Bool.false_ne_true).mpr ⟨ρ1, μ1, C1, os1, R1, z1⟩⟩
theorem dt_not (h : DT Φ X a ft) : DT Φ X (.UnaryOp .Not a pos) (notM ft) := PT.imp (pt_not h) fun σ H Q ⟨ρ, μ, C, os, R, z⟩ =>
  ⟨ρ, μ, C, os, R, PostT.bnd z fun d ρ1 μ1 H1 C1 os1 R1 S1 z1 => retT R1 z1⟩
/-- as values; the left one True or False -/
def andV (f g : Mo D) : Mo D := bnd f fun x => bnd (lift (asBl x)) fun b => if b then g else ret (.bl false)
def orV (f g : Mo D) : Mo D := bnd f fun x => bnd (lift (asBl x)) fun b => if b then ret (.bl true) else g
def notV (f : Mo D) : Mo D := bnd f fun x => bnd (lift (asBl x)) fun b => ret (.bl (!b))
theorem asBl_bnd {ρ : Env} {μ : Sto} {C : List Addr} {os : Os} {σ : St} {H : Hp} {d : D} {v : V} {g : Bool → Mo D} {Q : VK} (q : Rep (rc Φ X C os H) v d) (z : PostE Φ X C os σ H (bnd (lift (asBl d)) g ρ μ) Q) :
    ∃ k, v = .bl k ∧ PostE Φ X C os σ H (g k ρ μ) Q := by
  cases d <;> first
    | (cases q; exact ⟨_, rfl, z⟩)
    | exact z.elim
theorem de_one {op} (h : DE Φ X a f) : DE Φ X (.BoolOp op [a] pos) f := pe_one h
theorem de_and (ha : DE Φ X a f) (hb : DE Φ X (.BoolOp .And (b :: rest) pos) g) : DE Φ X (.BoolOp .And (a :: b :: rest) pos) (andV f g) := PE.imp (pe_and ha hb) fun σ H Q ⟨ρ, μ, C, os, R, z⟩ =>
  ⟨ρ, μ, C, os, R, PostE.bnd z fun d ρ1 μ1 v H1 C1 os1 R1 S1 q1 z1 => by
    obtain ⟨k, rfl, z2⟩ := asBl_bnd q1 z1
    refine ⟨k, rfl, ?_⟩
    cases k with
    | true => exact (if_pos rfl).mpr ⟨ρ1, μ1, C1, os1, R1, z2⟩
    | false => exact (if_neg Bool.false_ne_true).mpr (cE_at R1 (.bl false) z2)⟩
theorem de_or (ha : DE Φ X a f) (hb : DE Φ X (.BoolOp .Or (b :: rest) pos) g) : DE Φ X (.BoolOp .Or (a :: b :: rest) pos) (orV f g) := PE.imp (pe_or ha hb) fun σ H Q ⟨ρ, μ, C, os, R, z⟩ =>
  ⟨ρ, μ, C, os, R, PostE.bnd z fun d ρ1 μ1 v H1 C1 os1 R1 S1 q1 z1 => by
    obtain ⟨k, rfl, z2⟩ := asBl_bnd q1 z1
    refine ⟨k, rfl, ?_⟩
    cases k with
    | true => exact (if_pos rfl).mpr (cE_at R1 (.bl true) z2)
    | false => exact (if_neg Bool.false_ne_true).mpr ⟨ρ1, μ1, C1, os1, R1, z2⟩⟩
theorem de_not (ha : DE Φ X a f) : DE Φ X (.UnaryOp .Not a pos) (notV f) := PE.imp (pe_not ha) fun σ H Q ⟨ρ, μ, C, os, R, z⟩ =>
  ⟨ρ, μ, C, os, R, PostE.bnd z fun d ρ1 μ1 v H1 C1 os1 R1 S1 q1 z1 => by
    obtain ⟨k, rfl, z2⟩ := asBl_bnd q1 z1
    exact ⟨k, rfl, cE_at R1 (.bl _) z2⟩⟩
def ifM (t : Mo Bool) (f g : Mo D) : Mo D := bnd t fun b => if b then f else g
theorem PostE.bndT {C : List Addr} {os : Os} {σ : St} {H : Hp} {f : Mo Bool} {g : Bool → Mo D} {ρ : Env} {μ : Sto} {Q : VK} {Q1 : Bool → Hp → Prop} (h : PostE Φ X C os σ H (DL.bnd f g ρ μ) Q)
    (k : ∀ d ρ1 μ1 H1 C1 os1, Rl Φ X ρ1 μ1 C1 os1 σ H1 → Stp (rc Φ X C os H) (rc Φ X C1 os1 H1) → PostE Φ X C1 os1 σ H1 (g d ρ1 μ1) Q → Q1 d H1) : PostT Φ X C os σ H (f ρ μ) Q1 := by
  unfold DL.bnd at h
  cases e : f ρ μ with
  | ok d ρ1 μ1 =>
    rw [e] at h
    exact fun H1 C1 os1 R S => k d ρ1 μ1 H1 C1 os1 R S (PostE.from S h)
  | ex c ns ds ρ1 μ1 => rw [e] at h; exact h
  | no => rw [e] at h; exact h
theorem de_if (ht : DT Φ X c ft) (ha : DE Φ X a f) (hb : DE Φ X b g) : DE Φ X (.IfExp c a b pos) (ifM ft f g) := PE.imp (pe_ifExp ht ha hb) fun σ H Q ⟨ρ, μ, C, os, R, z⟩ =>
  ⟨ρ, μ, C, os, R, PostE.bndT z fun d ρ1 μ1 H1 C1 os1 R1 S1 z1 => by
    cases d with
    | true => exact (if_pos rfl).mpr ⟨ρ1, μ1, C1, os1, R1, z1⟩
    | false => exact (if_neg Bool.false_ne_true).mpr ⟨ρ1, μ1, C1, os1, R1, z1⟩⟩
/-- a < b < c: by two operators that say True or False -/
def chn (h h' : D → D → Option D) (f g k : Mo D) : Mo D := bnd f fun x => bnd g fun y => bnd (lift (h x y)) fun z => bnd (lift (asBl z)) fun b => if b then bnd k fun w => lift (h' y w) else ret (.bl false)
theorem run_chn {r r' : R2} {h h' : D → D → Option D} (hD : OpD X r h) (hD' : OpD X r' h') {σ : St} {H : Hp} {Q : VK} (z : cE Φ X (chn h h' f g k) σ H Q) : tChain r r' (cE Φ X f) (cE Φ X g) (cE Φ X k) σ H Q := by
  obtain ⟨ρ, μ, C, os, R, z⟩ := z
  refine ⟨ρ, μ, C, os, R, PostE.bnd z fun d1 ρ1 μ1 x H1 C1 os1 R1 S1 q1 z1 => ⟨ρ1, μ1, C1, os1, R1, PostE.bnd z1 fun d2 ρ2 μ2 y H2 C2 os2 R2 S2 q2 z2 => ?_⟩⟩
  cases e : h d1 d2 with
  | none => simp only [bnd, lift, e] at z2; exact z2.elim
  | some d =>
    have z2 : PostE Φ X C2 os2 σ H2 (bnd (lift (asBl d)) (fun b => if b then bnd k fun w => lift (h' d2 w) else ret (.bl false)) ρ2 μ2) Q := by
      have z3 := z2
      simp only [bnd, lift, e] at z3
      exact z3
    refine hD (rc Φ X C2 os2 H2) x y d1 d2 d _ rfl rfl R2.fr (.inl (q1.step S2)) (.inl q2) e fun v H' gr qv => ?_
    have R3 := R2.grow gr
    have S3 := stp_grow (Φ := Φ) (X := X) (C := C2) (os := os2) gr
    obtain ⟨b, rfl, z4⟩ := asBl_bnd (Φ := Φ) (X := X) (C := C2) (os := os2) (H := H') qv (PostE.from S3 z2)
    refine ⟨b, rfl, ?_⟩
    cases b with
    | true =>
      refine (if_pos rfl).mpr ⟨ρ2, μ2, C2, os2, R3, PostE.bnd z4 fun d3 ρ3 μ3 w H3 C3 os3 R4 S4 q3 z5 => ?_⟩
      obtain ⟨d4, e4, k4⟩ := lift_ok R4 z5
      exact hD' (rc Φ X C3 os3 H3) y w d2 d3 d4 Q rfl rfl R4.fr (.inl ((q2.step S3).step S4)) (.inl q3) e4 k4
    | false => exact (if_neg Bool.false_ne_true).mpr (cE_at R3 (.bl false) z4)
theorem de_chn {op op' : CmpOp} {r r' : R2} {h h' : D → D → Option D} (ho : OpR X (compareOp op) r) (ho' : OpR X (compareOp op') r') (hD : OpD X r h) (hD' : OpD X r' h') (ha : DE Φ X a f) (hb : DE Φ X b g) (hc : DE Φ X c k)
    (hm : lastMarks [op, op'] [b, c] = false := by rfl) : DE Φ X (.Compare a [op, op'] [b, c] pos) (chn h h' f g k) := PE.imp (pe_chain ho ho' ha hb hc hm) fun _ _ _ z => run_chn hD hD' z
theorem dt_chn {op op' : CmpOp} {r r' : R2} {h h' : D → D → Option D} (ho : OpR X (compareOp op) r) (ho' : OpR X (compareOp op') r') (hD : OpD X r h) (hD' : OpD X r' h') (ha : DE Φ X a f) (hb : DE Φ X b g) (hc : DE Φ X c k)
    (hm : lastMarks [op, op'] [b, c] = false := by rfl) : DT Φ X (.Compare a [op, op'] [b, c] pos) (tst (chn h h' f g k)) := PT.imp (pt_chain ho ho' ha hb hc hm) fun _ _ _ z => run_chn hD hD' (cE_tst z)

/-! ### displays -/
theorem PostE.bndA {C : List Addr} {os : Os} {σ : St} {H : Hp} {f : Mo (List D)} {g : List D → Mo D} {ρ : Env} {μ : Sto} {Q : VK} {Q1 : List V → Hp → Prop} (h : PostE Φ X C os σ H (DL.bnd f g ρ μ) Q)
    (k : ∀ d ρ1 μ1 v H1 C1 os1, Rl Φ X ρ1 μ1 C1 os1 σ H1 → Stp (rc Φ X C os H) (rc Φ X C1 os1 H1) → Reps (rc Φ X C1 os1 H1) v d → PostE Φ X C1 os1 σ H1 (g d ρ1 μ1) Q → Q1 v H1) : PostA Φ X C os σ H (f ρ μ) Q1 := by
  unfold DL.bnd at h
  cases e : f ρ μ with
  | ok d ρ1 μ1 =>
    rw [e] at h
    exact fun v H1 C1 os1 R S q => k d ρ1 μ1 v H1 C1 os1 R S q (PostE.from S h)
  | ex c ns ds ρ1 μ1 => rw [e] at h; exact h
  | no => rw [e] at h; exact h
def mkT (ds : List D) : Option D := if ds.length ≤ lineN then some (.tup ds) else none
def mkL (ds : List D) : Option D := if ds.length ≤ lineN then some (.lst ds) else none
def tupM (f : Mo (List D)) : Mo D := bnd f fun ds => lift (mkT ds)
def lstM (f : Mo (List D)) : Mo D := bnd f fun ds => lift (mkL ds)
variable {fa : Mo (List D)} {es : List Expr}
theorem de_tup {n} (h : DA Φ X es fa) : DE Φ X (.Tuple es n pos) (tupM fa) := PE.imp (pe_tupX h) fun σ H Q ⟨ρ, μ, C, os, R, z⟩ =>
  ⟨ρ, μ, C, os, R, PostE.bndA z fun ds ρ1 μ1 vs H1 C1 os1 R1 S1 q1 z1 => by
    obtain ⟨d, e, k⟩ := lift_ok R1 z1
    unfold mkT at e
    split at e
    · rename_i hl
      cases e
      exact ⟨by rw [q1.length, line_eq]; exact hl, newT (q := rc Φ X C1 os1 H1) R1.fr q1 k⟩
    · cases e⟩
theorem de_lst (h : DA Φ X es fa) : DE Φ X (.List es pos) (lstM fa) := PE.imp (pe_lst h) fun σ H Q ⟨ρ, μ, C, os, R, z⟩ =>
  ⟨ρ, μ, C, os, R, PostE.bndA z fun ds ρ1 μ1 vs H1 C1 os1 R1 S1 q1 z1 => by
    obtain ⟨d, e, k⟩ := lift_ok R1 z1
    unfold mkL at e
    split at e
    · rename_i hl
      cases e
      exact ⟨by rw [q1.length, line_eq]; exact hl, fun p n => k _ _ (Grow.upd n) (OwnR.rep (r := (rc Φ X C1 os1 H1).at _) (R1.fresh n) (own_lst (q := rc Φ X C1 os1 H1) n q1))⟩
    · cases e⟩

/-! ### slices -/
abbrev OI := Option Int
def PostO (Φ : Ctx) (X : Cx) (C : List Addr) (os : Os) (σ : St) (H : Hp) (o : O OI) (Q : OI → Hp → Prop) : Prop := match o with
  | .ok d ρ' μ' => ∀ H' C' os', Rl Φ X ρ' μ' C' os' σ H' → Stp (rc Φ X C os H) (rc Φ X C' os' H') → Q d H'
  | .ex c ns ds ρ' μ' => ∀ Cc dx H' C' os', Rl Φ X ρ' μ' C' os' σ H' → Stp (rc Φ X C os H) (rc Φ X C' os' H') → X.mg c = some (.ref Cc) → EhR (rc Φ X C' os' H') dx c ns ds → Φ.W (.ref Cc) (some dx) σ H'
  | .no => False
def cO (Φ : Ctx) (X : Cx) (f : Mo OI) : TO := fun σ H Q => ∃ ρ μ C os, Rl Φ X ρ μ C os σ H ∧ PostO Φ X C os σ H (f ρ μ) Q
def DO (Φ : Ctx) (X : Cx) (e : Option Expr) (f : Mo OI) : Prop := PO X e (cO Φ X f)
theorem PO.imp {e : Option Expr} {t t' : TO} (h : PO X e t) (i : ∀ σ H Q, t' σ H Q → t σ H Q) : PO X e t' := ⟨fun pins s σ H Q I q => h.run pins s σ H Q I (i σ H Q q)⟩
def asI : D → Option OI
  | .int i => some (some i)
  | _ => none
def noP : Mo OI := ret none
def prt (f : Mo D) : Mo OI := bnd f fun x => lift (asI x)
theorem do_none : DO Φ X none noP := PO.imp po_none fun σ H Q ⟨ρ, μ, C, os, R, z⟩ => z H C os R (Stp.refl _)
theorem do_some (h : DE Φ X e f) : DO Φ X (some e) (prt f) := PO.imp (po_some h) fun σ H Q ⟨ρ, μ, C, os, R, z⟩ => by
  refine ⟨ρ, μ, C, os, R, ?_⟩
  unfold prt bnd at z
  cases e : f ρ μ with
  | no => rw [e] at z; exact z.elim
  | ex c ns ds ρ1 μ1 => rw [e] at z; exact z
  | ok d ρ1 μ1 =>
    rw [e] at z
    intro v H1 C1 os1 R1 S1 q
    cases d <;> first
      | (cases q; exact ⟨_, rfl, z H1 C1 os1 R1 S1⟩)
      | exact z.elim
theorem PostE.bndO {C : List Addr} {os : Os} {σ : St} {H : Hp} {f : Mo OI} {g : OI → Mo D} {ρ : Env} {μ : Sto} {Q : VK} {Q1 : OI → Hp → Prop} (h : PostE Φ X C os σ H (DL.bnd f g ρ μ) Q)
    (k : ∀ d ρ1 μ1 H1 C1 os1, Rl Φ X ρ1 μ1 C1 os1 σ H1 → Stp (rc Φ X C os H) (rc Φ X C1 os1 H1) → PostE Φ X C1 os1 σ H1 (g d ρ1 μ1) Q → Q1 d H1) : PostO Φ X C os σ H (f ρ μ) Q1 := by
  unfold DL.bnd at h
  cases e : f ρ μ with
  | ok d ρ1 μ1 =>
    rw [e] at h
    exact fun H1 C1 os1 R S => k d ρ1 μ1 H1 C1 os1 R S (PostE.from S h)
  | ex c ns ds ρ1 μ1 => rw [e] at h; exact h
  | no => rw [e] at h; exact h
def cutD (xs : List D) (lo hi : OI) : List D := (xs.drop (HT.sIx xs.length 0 lo)).take (HT.sIx xs.length xs.length hi - HT.sIx xs.length 0 lo)
def slD (d : D) (lo hi : OI) : Option D := match d with
  | .str z => if z.length ≤ lineN then some (.str (cutS z lo hi)) else none
  | .tup xs => some (.tup (cutD xs lo hi))
  | .lst xs => some (.lst (cutD xs lo hi))
  | .frz xs => some (.lst (cutD xs lo hi))
  | _ => none
theorem Reps.cut {r : RC} {vs : List V} {ds : List D} (h : Reps r vs ds) (lo hi : OI) : Reps r (cutV vs lo hi) (cutD ds lo hi) := by
  unfold cutV cutD
  rw [h.length]
  exact Reps.take _ (Reps.drop _ h)
theorem cut_whole {α : Type} (xs : List α) {lo hi : OI} (h : HT.sIx xs.length 0 lo = 0 ∧ HT.sIx xs.length xs.length hi = xs.length) : (xs.drop (HT.sIx xs.length 0 lo)).take (HT.sIx xs.length xs.length hi - HT.sIx xs.length 0 lo) = xs := by
  rw [h.1, h.2]
  simp
def slR (K : PySem.W.Frag) : V → Option Int → Option Int → Hp → VK → Prop := fun x lo hi H Q => rSlL K x lo hi H Q ∨ (rSlX K x lo hi H Q ∨ rSlS x lo hi H Q)
theorem sl_all : SlR X (slR X.K) := sl_list.or (sl_tupX.or sl_str)
def slM (f : Mo D) (l h : Mo OI) : Mo D := bnd f fun x => bnd l fun lo => bnd h fun hi => lift (slD x lo hi)
variable {lo hi : Option Expr} {fl fh : Mo OI}
theorem sl_run {q : RC} {v : V} {d d' : D} {l h : OI} {Q : VK} (hK : q.K = X.K) (hn : ∀ p, q.H p = none → ¬ q.A p) (w : Rep q v d) (e : slD d l h = some d') (k : ∀ v H', Grow q.H H' → Rep (q.at H') v d' → Q v H') : slR X.K v l h q.H Q := by
  cases w with
  | str s =>
    simp only [slD] at e
    split at e
    · rename_i hl
      cases e
      exact .inr (.inr ⟨_, rfl, by rw [line_eq]; exact hl, k _ _ (Grow.refl _) (.str _)⟩)
    · cases e
  | tup hT qs =>
    cases e
    refine .inr (.inl ⟨_, _, rfl, hK ▸ hT.sq, fun z => ?_, fun z => newT hn (qs.cut l h) k⟩)
    have e1 : cutD _ l h = _ := cut_whole _ (by rw [← qs.length]; exact z)
    rw [e1] at k
    exact k _ _ (Grow.refl _) (.tup hT qs)
  | @lst a vs ds ha n qs =>
    cases e
    exact .inl ⟨_, _, rfl, .of ha, fun p n => k _ _ (Grow.upd n) (OwnR.rep (r := q.at (upd q.H p (HO.lst (cutV vs l h)))) (hn p n) (own_lst n (qs.cut l h)))⟩
  | @frz a vs ds ha qs =>
    cases e
    exact .inl ⟨_, _, rfl, hK ▸ ha.sq, fun p n => k _ _ (Grow.upd n) (OwnR.rep (r := q.at (upd q.H p (HO.lst (cutV vs l h)))) (hn p n) (own_lst n (qs.cut l h)))⟩
  | _ => cases e
theorem de_sl {p2} (he : DE Φ X e f) (hl : DO Φ X lo fl) (hh : DO Φ X hi fh) : DE Φ X (.Subscript e (.Slice lo hi none p2) pos) (slM f fl fh) := PE.imp (pe_slice sl_all he hl hh) fun σ H Q ⟨ρ, μ, C, os, R, z⟩ =>
  ⟨ρ, μ, C, os, R, PostE.bnd z fun d ρ1 μ1 v H1 C1 os1 R1 S1 q1 z1 => ⟨ρ1, μ1, C1, os1, R1, PostE.bndO z1 fun l ρ2 μ2 H2 C2 os2 R2 S2 z2 => ⟨ρ2, μ2, C2, os2, R2, PostE.bndO z2 fun h ρ3 μ3 H3 C3 os3 R3 S3 z3 => by
    obtain ⟨d', e, k⟩ := lift_ok R3 z3
    exact sl_run (q := rc Φ X C3 os3 H3) rfl R3.fr ((q1.step S2).step S3) e k⟩⟩⟩

/-! ### an item by its place -/
def ixL (xs : List D) (i : Int) : Option D := atI xs i
def ixD : D → D → Option D
  | .lst xs, .int i | .tup xs, .int i | .frz xs, .int i => atI xs i
  | .str z, .int i => if z.length ≤ lineN then (atI z.cps.toList i).map fun c => .str ⟨#[c]⟩ else none
  | _, _ => none
theorem Reps.atI {r : RC} {vs : List V} {ds : List D} {i : Int} {d : D} (h : Reps r vs ds) (e : L2.atI ds i = some d) : ∃ v, L2.atI vs i = some v ∧ Rep r v d := by
  unfold L2.atI at e ⊢
  rw [h.length]
  cases q : ixN ds.length i with
  | none => rw [q] at e; cases e
  | some j =>
    rw [q] at e
    exact h.get e
theorem od_ix : OpD X (rIx X.K) ixD := by
  intro q x y d1 d2 d Q hK _ _ h1 h2 e k
  cases d2 with
  | int i =>
    have ey := h2.int
    cases d1 with
    | lst ds =>
      obtain ⟨a, vs, rfl, ha, qa⟩ := h1.lst
      obtain ⟨v, e1, e2⟩ := qa.atI e
      exact .inl ⟨a, vs, i, v, rfl, ey, .of ha, e1, k _ _ (Grow.refl _) e2⟩
    | frz ds =>
      obtain ⟨a, vs, rfl, ha, qa⟩ := h1.frz
      obtain ⟨v, e1, e2⟩ := qa.atI e
      exact .inl ⟨a, vs, i, v, rfl, ey, hK ▸ ha.sq, e1, k _ _ (Grow.refl _) e2⟩
    | tup ds =>
      obtain ⟨a, vs, rfl, ha, qa⟩ := h1.tup
      obtain ⟨v, e1, e2⟩ := qa.atI e
      exact .inr (.inl ⟨a, vs, i, v, rfl, ey, hK ▸ ha.sq, e1, k _ _ (Grow.refl _) e2⟩)
    | str z =>
      simp only [ixD] at e
      split at e
      · rename_i hl
        obtain ⟨c, e1, rfl⟩ := Option.map_eq_some_iff.mp e
        exact .inr (.inr ⟨z, i, c, h1.str, ey, by rw [line_eq]; exact hl, e1, k _ _ (Grow.refl _) (.str _)⟩)
      · cases e
    | _ => cases e
  | _ => cases d1 <;> cases e
theorem de_at (ha : DE Φ X a f) (hb : DE Φ X b g) (hs : PlainIx b := by intro _ _; rfl) : DE Φ X (.Subscript a b pos) (op2 ixD f g) := de_ix ix_seq od_ix ha hb hs
theorem de_atv {i : Nat} {x : Str} {px : Pos} (hb : DE Φ X b g) (hs : PlainIx b := by intro _ _; rfl) (hN : X.N[i]? = some x := by rfl)
    (hv : Vis X.env.scope x := by first | exact Or.inl rfl | exact Or.inr (Or.inl rfl) | exact Or.inr (Or.inr rfl)) (hd : (x == ("__debug__" : Str)) = false := by decide) (hcd : (x == ("__classdict__" : Str)) = false := by decide) :
    DE Φ X (.Subscript (.Name x px) b pos) (op2v ixD i g) := de_ixv ix_seq od_ix hb hs hN hv hd hcd
end
end L2.DL

/-! DL6: statements, targets, owned things changed, for, while. -/
namespace L2.DL
open PySem PySem.Spec PyProof.Rows
inductive Fl where
  | nx | bk | ct | rt (d : D) | ro (d : D)
/-- what a rule wants of the body it stands in -/
structure Cn (Φ : Ctx) (X : Cx) (k : Nat) : Prop where
  nd : X.N.Nodup
  calm : X.calm = true
  po : PassesOwn (model X.prog X.w) X.A X.env X.xe
  tk : Takes X Φ.W
  rm : Room k X.A
theorem Cn.hu {Φ : Ctx} {X : Cx} {k : Nat} (c : Cn Φ X k) : hasUnits X := c.rm.units
section
variable {Φ : Ctx} {X : Cx} {a b c e : Expr} {f g k : Mo D} {pos : Pos}
def Fl.post (Φ : Ctx) (X : Cx) (D : Ends) (σ : St) (H : Hp) (C : List Addr) (os : Os) : Fl → Prop
  | .nx => D.nx σ H
  | .bk => D.bk σ H
  | .ct => D.ct σ H
  | .rt d => ∀ v, Rep (rc Φ X C os H) v d → D.rt v H
  | .ro d => ∀ a i, (i, a) ∈ os → OwnR (rc Φ X C os H) a d → D.rt (.ref a) H
def PostS (Φ : Ctx) (X : Cx) (C : List Addr) (os : Os) (H : Hp) (o : O Fl) (D : Ends) : Prop := match o with
  | .ok fl ρ' μ' => ∀ σ' H' C' os', Rl Φ X ρ' μ' C' os' σ' H' → Stp (rc Φ X C os H) (rc Φ X C' os' H') → fl.post Φ X D σ' H' C' os'
  | .ex c ns ds ρ' μ' => ∀ Cc dx σ' H' C' os', Rl Φ X ρ' μ' C' os' σ' H' → Stp (rc Φ X C os H) (rc Φ X C' os' H') → X.mg c = some (.ref Cc) → EhR (rc Φ X C' os' H') dx c ns ds → Φ.W (.ref Cc) (some dx) σ' H'
  | .no => False
def cS (Φ : Ctx) (X : Cx) (f : Mo Fl) : TS := fun D σ H => ∃ ρ μ C os, Rl Φ X ρ μ C os σ H ∧ PostS Φ X C os H (f ρ μ) D
def DS (Φ : Ctx) (X : Cx) (st : Stmt) (f : Mo Fl) : Prop := PS X st (cS Φ X f)
def DSs (Φ : Ctx) (X : Cx) (sts : List Stmt) (f : Mo Fl) : Prop := PSs X sts (cS Φ X f)
theorem PS.imp {st : Stmt} {t t' : TS} (h : PS X st t) (i : ∀ D σ H, t' D σ H → t D σ H) : PS X st t' := ⟨fun pins s σ H D I q => h.run pins s σ H D I (i D σ H q)⟩
theorem PSs.imp {st : List Stmt} {t t' : TS} (h : PSs X st t) (i : ∀ D σ H, t' D σ H → t D σ H) : PSs X st t' := ⟨fun pins s σ H D I q => h.run pins s σ H D I (i D σ H q)⟩
theorem PostS.from {C C1 : List Addr} {os os1 : Os} {H H1 : Hp} {o : O Fl} {D : Ends} (S : Stp (rc Φ X C os H) (rc Φ X C1 os1 H1)) (h : PostS Φ X C os H o D) : PostS Φ X C1 os1 H1 o D := by
  cases o with
  | ok d ρ' μ' => exact fun σ' H' C' os' R T => h σ' H' C' os' R (S.trans T)
  | ex c ns ds ρ' μ' => exact fun Cc dx σ' H' C' os' R T g e => h Cc dx σ' H' C' os' R (S.trans T) g e
  | no => exact h
/-- an expression, then the rest of the statement -/
theorem PostS.bndE {C : List Addr} {os : Os} {σ : St} {H : Hp} {f : Mo D} {g : D → Mo Fl} {ρ : Env} {μ : Sto} {E : Ends} {Q1 : VK} (h : PostS Φ X C os H (bnd f g ρ μ) E)
    (k : ∀ d ρ1 μ1 v H1 C1 os1, Rl Φ X ρ1 μ1 C1 os1 σ H1 → Stp (rc Φ X C os H) (rc Φ X C1 os1 H1) → Rep (rc Φ X C1 os1 H1) v d → PostS Φ X C1 os1 H1 (g d ρ1 μ1) E → Q1 v H1) : PostE Φ X C os σ H (f ρ μ) Q1 := by
  unfold bnd at h
  cases e : f ρ μ with
  | ok d ρ1 μ1 =>
    rw [e] at h
    exact fun v H1 C1 os1 R S q => k d ρ1 μ1 v H1 C1 os1 R S q (PostS.from S h)
  | ex c ns ds ρ1 μ1 => rw [e] at h; exact fun Cc dx H' C' os' R S g e => h Cc dx σ H' C' os' R S g e
  | no => rw [e] at h; exact h
theorem PostS.bndT {C : List Addr} {os : Os} {σ : St} {H : Hp} {f : Mo Bool} {g : Bool → Mo Fl} {ρ : Env} {μ : Sto} {E : Ends} {Q1 : Bool → Hp → Prop} (h : PostS Φ X C os H (bnd f g ρ μ) E)
    (k : ∀ d ρ1 μ1 H1 C1 os1, Rl Φ X ρ1 μ1 C1 os1 σ H1 → Stp (rc Φ X C os H) (rc Φ X C1 os1 H1) → PostS Φ X C1 os1 H1 (g d ρ1 μ1) E → Q1 d H1) : PostT Φ X C os σ H (f ρ μ) Q1 := by
  unfold bnd at h
  cases e : f ρ μ with
  | ok d ρ1 μ1 =>
    rw [e] at h
    exact fun H1 C1 os1 R S => k d ρ1 μ1 H1 C1 os1 R S (PostS.from S h)
  | ex c ns ds ρ1 μ1 => rw [e] at h; exact fun Cc dx H' C' os' R S g e => h Cc dx σ H' C' os' R S g e
  | no => rw [e] at h; exact h

/-! ### blocks -/
def skp : Mo Fl := ret .nx
def seqM (f g : Mo Fl) : Mo Fl := bnd f fun fl => match fl with
  | .nx => g
  | o => ret o
variable {st : Stmt} {sts : List Stmt} {fs gs : Mo Fl} {ft : Mo Bool}
theorem retS {C : List Addr} {os : Os} {σ : St} {H : Hp} {fl : Fl} {ρ : Env} {μ : Sto} {E : Ends} (R : Rl Φ X ρ μ C os σ H) (h : PostS Φ X C os H (ret fl ρ μ) E) : fl.post Φ X E σ H C os := h σ H C os R (Stp.refl _)
theorem dss_nil : DSs Φ X [] skp := PSs.imp pss_nil fun D σ H ⟨ρ, μ, C, os, R, z⟩ => retS R z
theorem dss_cons (h1 : DS Φ X st fs) (h2 : DSs Φ X sts gs) : DSs Φ X (st :: sts) (seqM fs gs) := PSs.imp (pss_cons h1 h2) fun D σ H ⟨ρ, μ, C, os, R, z⟩ => by
  refine ⟨ρ, μ, C, os, R, ?_⟩
  unfold seqM bnd at z
  cases e : fs ρ μ with
  | no => rw [e] at z; exact z
  | ex c ns ds ρ1 μ1 => rw [e] at z; exact z
  | ok fl ρ1 μ1 =>
    rw [e] at z
    intro σ1 H1 C1 os1 R1 S1
    cases fl with
    | nx => exact ⟨ρ1, μ1, C1, os1, R1, PostS.from S1 z⟩
    | bk => exact z σ1 H1 C1 os1 R1 S1
    | ct => exact z σ1 H1 C1 os1 R1 S1
    | rt d => exact z σ1 H1 C1 os1 R1 S1
    | ro d => exact z σ1 H1 C1 os1 R1 S1
theorem dss_one (h1 : DS Φ X st fs) : DSs Φ X [st] fs := pss_one h1
theorem ds_pass : DS Φ X (.Pass pos) (ret .nx) := PS.imp ps_pass fun D σ H ⟨ρ, μ, C, os, R, z⟩ => retS R z
theorem ds_break : DS Φ X (.Break pos) (ret .bk) := PS.imp ps_break fun D σ H ⟨ρ, μ, C, os, R, z⟩ => retS R z
theorem ds_cont : DS Φ X (.Continue pos) (ret .ct) := PS.imp ps_continue fun D σ H ⟨ρ, μ, C, os, R, z⟩ => retS R z
def rtM (f : Mo D) : Mo Fl := bnd f fun d => ret (.rt d)
theorem ds_ret (h : DE Φ X e f) : DS Φ X (.Return (some e) pos) (rtM f) := PS.imp (ps_ret h) fun D σ H ⟨ρ, μ, C, os, R, z⟩ =>
  ⟨ρ, μ, C, os, R, PostS.bndE z fun d ρ1 μ1 v H1 C1 os1 R1 S1 q1 z1 => retS R1 z1 v q1⟩
theorem ds_retN : DS Φ X (.Return none pos) (ret (.rt .non)) := PS.imp ps_retN fun D σ H ⟨ρ, μ, C, os, R, z⟩ => retS R z .non .non
def drp (f : Mo D) : Mo Fl := bnd f fun _ => ret .nx
theorem ds_expr (h : DE Φ X e f) (hs : swapsWith e none pos.line X.env = pure false := by rfl) : DS Φ X (.Expr e pos) (drp f) := PS.imp (ps_expr h hs) fun D σ H ⟨ρ, μ, C, os, R, z⟩ =>
  ⟨ρ, μ, C, os, R, PostS.bndE z fun d ρ1 μ1 v H1 C1 os1 R1 S1 q1 z1 => retS R1 z1⟩
def ifS (t : Mo Bool) (f g : Mo Fl) : Mo Fl := bnd t fun b => if b then f else g
theorem ds_if {A B : List Stmt} (ht : DT Φ X c ft) (ha : DSs Φ X A fs) (hb : DSs Φ X B gs) : DS Φ X (.If c A B pos) (ifS ft fs gs) := PS.imp (ps_if ht ha hb) fun D σ H ⟨ρ, μ, C, os, R, z⟩ =>
  ⟨ρ, μ, C, os, R, PostS.bndT z fun d ρ1 μ1 H1 C1 os1 R1 S1 z1 => by
    cases d with
    | true => exact (if_pos rfl).mpr ⟨ρ1, μ1, C1, os1, R1, z1⟩
    | false => exact (if_neg Bool.false_ne_true).mpr ⟨ρ1, μ1, C1, os1, R1, z1⟩⟩

/-! ### names stored -/
def put (i : Nat) (t : Ent) : Mo Fl := fun ρ μ => .ok .nx (ρ.set i (some t)) μ
theorem Rl.setv {ρ : Env} {μ : Sto} {C : List Addr} {os : Os} {σ : St} {H : Hp} {i : Nat} {v : V} {t : Ent} (R : Rl Φ X ρ μ C os σ H) (h : EntR Φ (rc Φ X C os H) os i v t) : Rl Φ X (ρ.set i (some t)) μ C os (σ.set i (some v)) H where
  len := by rw [List.length_set, List.length_set]; exact R.len
  env := fun j t' q => by
    by_cases hj : i = j
    · subst hj
      have hl : i < ρ.length := by
        have := (List.getElem?_eq_some_iff.mp q).1
        rwa [List.length_set] at this
      rw [List.getElem?_set_self hl] at q
      cases q
      exact ⟨v, List.getElem?_set_self (R.len ▸ hl), h⟩
    · rw [List.getElem?_set_ne hj] at q
      obtain ⟨v', h1, h2⟩ := R.env j t' q
      exact ⟨v', by rw [List.getElem?_set_ne hj]; exact h1, h2⟩
  sto := R.sto
  own := R.own
  fre := R.fre
  pre := R.pre
  cfr := R.cfr
  cnd := R.cnd
  clv := R.clv
  frm := R.frm
  alv := R.alv
def setM (i : Nat) (f : Mo D) : Mo Fl := bnd f fun d => put i (.sh d)
theorem ds_set {i : Nat} {x : Str} {pos' : Pos} (hN : X.N.Nodup) (he : DE Φ X e f) (hi : X.N[i]? = some x := by rfl) (hx : Loc X.env.scope x := by first | exact Or.inl rfl | exact Or.inr rfl)
    (hs : swapsWith e (some (.Name x pos')) pos.line X.env = pure false := by rfl) (hf : X.fn x = true ∨ X.env.scope.names.lookup x = some .local := by first | exact .inl rfl | exact .inr rfl) :
    DS Φ X (.Assign [.Name x pos'] e pos) (setM i f) := PS.imp (ps_set hN hi hx he hs hf) fun D σ H ⟨ρ, μ, C, os, R, z⟩ =>
  ⟨ρ, μ, C, os, R, PostS.bndE z fun d ρ1 μ1 v H1 C1 os1 R1 S1 q1 z1 => z1 _ _ C1 os1 (R1.setv (t := .sh d) q1) (Stp.refl _)⟩

/-! ### a new thing that only a name holds -/
def PostF (Φ : Ctx) (X : Cx) (i : Nat) (C : List Addr) (os : Os) (σ : St) (H : Hp) (o : O D) (Q : VK) : Prop := match o with
  | .ok d ρ' μ' => ∀ a H' C' os', Rl Φ X ρ' μ' C' ((some i, a) :: os') σ H' → Stp (rc Φ X C os H) (rc Φ X C' ((some i, a) :: os') H') → OwnR (rc Φ X C' ((some i, a) :: os') H') a d → Q (.ref a) H'
  | .ex c ns ds ρ' μ' => ∀ Cc dx H' C' os', Rl Φ X ρ' μ' C' os' σ H' → Stp (rc Φ X C os H) (rc Φ X C' os' H') → X.mg c = some (.ref Cc) → EhR (rc Φ X C' os' H') dx c ns ds → Φ.W (.ref Cc) (some dx) σ H'
  | .no => False
def cF (Φ : Ctx) (X : Cx) (i : Nat) (f : Mo D) : TE := fun σ H Q => ∃ ρ μ C os, Rl Φ X ρ μ C os σ H ∧ PostF Φ X i C os σ H (f ρ μ) Q
def DF (Φ : Ctx) (X : Cx) (i : Nat) (e : Expr) (f : Mo D) : Prop := PE X e (cF Φ X i f)
theorem OwnR.stepH {r r' : RC} (S : Stp r r') {a : Addr} (h : ∀ o, r.H a = some o → r'.H a = some o) : ∀ {d : D}, OwnR r a d → OwnR r' a d
  | .lst _, ⟨vs, z, q⟩ => ⟨vs, h _ z, q.step S⟩
  | .dct _ _, ⟨kvs, z, e, q⟩ => ⟨kvs, h _ z, e, q.step S⟩
  | .non, h => h.elim | .bl _, h => h.elim | .int _, h => h.elim | .str _, h => h.elim | .tup _, h => h.elim | .frz _, h => h.elim | .ins _ _ _, h => h.elim | .cell _, h => h.elim
theorem BdR.stepB {r r' : RC} (S : Stp r r') {a : Addr} {c : Str} {ns : List Str} {ds : List D} (h : ∀ o, r.H a = some o → r'.H a = some o) : BdR r a c ns ds → BdR r' a c ns ds := fun ⟨Cc, dx, fs, z, m, e, q⟩ =>
  ⟨Cc, dx, fs, h _ z, by rw [S.g]; exact m, e, q.step S⟩
theorem CellR.stepH {r r' : RC} (S : Stp r r') {a : Addr} (h : ∀ o, r.H a = some o → r'.H a = some o) : ∀ {c : Cell}, CellR r a c → CellR r' a c
  | .lst _, ⟨vs, z, q⟩ => ⟨vs, h _ z, q.step S⟩
  | .dct _ _, ⟨kvs, z, e, q⟩ => ⟨kvs, h _ z, e, q.step S⟩
  | .ins _ _ _, q => BdR.stepB S h q
  | .err _ _ _, q => ErR.stq S.q h q
/-- to a state in which only the objects of M are others: M owned or cells -/
theorem Rl.move {ρ : Env} {μ : Sto} {C : List Addr} {os os' : Os} {σ : St} {H H' : Hp} (R : Rl Φ X ρ μ C os σ H) (S : Stp (rc Φ X C os H) (rc Φ X C os' H')) (M : Addr → Prop)
    (same : ∀ b o, ¬ M b → H b = some o → H' b = some o)
    (he : ∀ (j : Nat) t v, ρ[j]? = some (some t) → σ[j]? = some (some v) → EntR Φ (rc Φ X C os H) os j v t → EntR Φ (rc Φ X C os' H') os' j v t)
    (hc : ∀ (n : Nat) a c, C[n]? = some a → μ[n]? = some c → CellR (rc Φ X C os H) a c → CellR (rc Φ X C os' H') a c)
    (own : ∀ i j a, (i, a) ∈ os' → (j, a) ∈ os' → i = j) (fre : ∀ i a, (i, a) ∈ os' → (Φ.H0 a = none ∨ Φ.M0 a) ∧ a ∉ C ∧ ¬ Φ.A0 a ∧ ∃ o, H' a = some o)
    (hM : ∀ b, M b → b ∉ C → Φ.H0 b = none ∨ Φ.M0 b) (live : ∀ b o, H b = some o → ∃ o', H' b = some o') : Rl Φ X ρ μ C os' σ H' where
  len := R.len
  env := fun j t q => by
    obtain ⟨v, h1, h2⟩ := R.env j t q
    exact ⟨v, h1, he j t v q h1 h2⟩
  sto := ⟨R.sto.1, fun n a c h1 h2 => hc n a c h1 h2 (R.sto.2 n a c h1 h2)⟩
  own := own
  fre := fre
  pre := R.pre
  cfr := R.cfr
  cnd := R.cnd
  clv := fun b h => let ⟨o, e⟩ := R.clv b h; live b o e
  frm := fun b o h1 h2 h3 => by
    by_cases hb : M b
    · rcases hM b hb h2 with z | z
      · rw [h1] at z; cases z
      · exact (h3 z).elim
    · exact same b o hb (R.frm b o h1 h2 h3)
  alv := fun b h => let ⟨o, e⟩ := R.alv b h; live b o e
theorem stp_add {C : List Addr} {os : Os} {H : Hp} {p : Addr} {o : HO} {i : Option Nat} (n : H p = none) : Stp (rc Φ X C os H) (rc Φ X C ((i, p) :: os) (upd H p o)) := ⟨rfl, rfl, fun b z => by
    rcases z with z | z | ⟨j, z⟩
    · exact .inl (.inl z)
    · exact .inl (.inr (.inl z))
    · rcases List.mem_cons.mp z with e | z
      · cases e; exact .inr n
      · exact .inl (.inr (.inr ⟨j, z⟩)), ⟨[], by simp [rcK]⟩, fun b u h _ => Grow.upd n b u h, fun b u h => ⟨u, Grow.upd n b u h⟩, fun b z => List.mem_cons_of_mem _ z, fun b u h _ => Grow.upd n b u h⟩
/-- a new object for slot i -/
theorem Rl.add {ρ : Env} {μ : Sto} {C : List Addr} {os : Os} {σ : St} {H : Hp} {p : Addr} {o : HO} (i : Option Nat) (R : Rl Φ X ρ μ C os σ H) (n : H p = none) : Rl Φ X ρ μ C ((i, p) :: os) σ (upd H p o) := by
  have S : Stp (rc Φ X C os H) (rc Φ X C ((i, p) :: os) (upd H p o)) := stp_add n
  have np : ∀ j, (j, p) ∉ os := fun j z => by
    obtain ⟨_, _, _, u, e⟩ := R.fre j p z
    rw [n] at e; cases e
  refine R.move S (fun _ => False) (fun b u _ h => Grow.upd n b u h) (fun j t v q h1 h2 => ?_) (fun m b c h1 h2 h3 => h3.stepH S (Grow.upd n b)) (fun j k b z1 z2 => ?_) (fun j b z => ?_) (fun _ h => h.elim) fun b u h => ⟨u, Grow.upd n b u h⟩
  · cases t with
    | sh d => exact Rep.step S h2
    | ow d =>
      obtain ⟨b, e1, e2, e3⟩ := h2
      exact ⟨b, e1, List.mem_cons_of_mem _ e2, e3.stepH S (Grow.upd n b)⟩
    | bd c ns ds =>
      obtain ⟨b, e1, e2, e3⟩ := h2
      exact ⟨b, e1, List.mem_cons_of_mem _ e2, BdR.stepB S (Grow.upd n b) e3⟩
    | eh c ns ds =>
      obtain ⟨b, dx, e1, e2, e3⟩ := h2
      exact ⟨b, dx, e1, e2, e3.step S⟩
  · rcases List.mem_cons.mp z1 with e1 | z1 <;> rcases List.mem_cons.mp z2 with e2 | z2
    · cases e1; cases e2; rfl
    · cases e1; exact (np _ z2).elim
    · cases e2; exact (np _ z1).elim
    · exact R.own j k b z1 z2
  · rcases List.mem_cons.mp z with e | z
    · cases e
      refine ⟨?_, fun hC => ?_, fun hA => ?_, ⟨o, upd_same⟩⟩
      · cases h0 : Φ.H0 p with
        | none => exact .inl rfl
        | some u =>
          refine .inr (Classical.byContradiction fun hm => ?_)
          have hC : p ∉ C := fun hC => by
            obtain ⟨u', e'⟩ := R.clv p hC
            rw [n] at e'; cases e'
          rw [R.frm p u h0 hC hm] at n
          cases n
      · obtain ⟨u', e'⟩ := R.clv p hC
        rw [n] at e'; cases e'
      · obtain ⟨u', e'⟩ := R.alv p (.inl hA)
        rw [n] at e'; cases e'
    · obtain ⟨h1, h2, h3, u, h4⟩ := R.fre j b z
      exact ⟨h1, h2, h3, u, Grow.upd n b u h4⟩
theorem PostF.bndA {i : Nat} {C : List Addr} {os : Os} {σ : St} {H : Hp} {f : Mo (List D)} {g : List D → Mo D} {ρ : Env} {μ : Sto} {Q : VK} {Q1 : List V → Hp → Prop} (h : PostF Φ X i C os σ H (bnd f g ρ μ) Q)
    (k : ∀ d ρ1 μ1 v H1 C1 os1, Rl Φ X ρ1 μ1 C1 os1 σ H1 → Stp (rc Φ X C os H) (rc Φ X C1 os1 H1) → Reps (rc Φ X C1 os1 H1) v d → PostF Φ X i C1 os1 σ H1 (g d ρ1 μ1) Q → Q1 v H1) : PostA Φ X C os σ H (f ρ μ) Q1 := by
  unfold bnd at h
  cases e : f ρ μ with
  | ok d ρ1 μ1 =>
    rw [e] at h
    refine fun v H1 C1 os1 R S q => k d ρ1 μ1 v H1 C1 os1 R S q ?_
    have h : PostF Φ X i C os σ H (g d ρ1 μ1) Q := h
    cases e2 : g d ρ1 μ1 with
    | ok d2 ρ2 μ2 => rw [e2] at h; exact fun a H' C' os' R' T w => h a H' C' os' R' (S.trans T) w
    | ex c ns ds ρ2 μ2 => rw [e2] at h; exact fun Cc dx H' C' os' R' T g e => h Cc dx H' C' os' R' (S.trans T) g e
    | no => rw [e2] at h; exact h
  | ex c ns ds ρ1 μ1 => rw [e] at h; exact h
  | no => rw [e] at h; exact h
theorem lift_okF {i : Nat} {ρ : Env} {μ : Sto} {C : List Addr} {os : Os} {σ : St} {H : Hp} {o : Option D} {Q : VK} (R : Rl Φ X ρ μ C os σ H) (p : PostF Φ X i C os σ H (lift o ρ μ) Q) :
    ∃ d, o = some d ∧ ∀ a u, H a = none → NewR (rc Φ X C os H) u d → Q (.ref a) (upd H a u) := by
  cases o with
  | none => exact p.elim
  | some d => exact ⟨d, rfl, fun a u n w => p a _ C os (R.add (some i) n) (stp_add n) (w.own (stp_add n) upd_same)⟩
variable {fa : Mo (List D)} {es : List Expr}
theorem df_lst {i : Nat} (h : DA Φ X es fa) : DF Φ X i (.List es pos) (lstM fa) := PE.imp (pe_lst h) fun σ H Q ⟨ρ, μ, C, os, R, z⟩ =>
  ⟨ρ, μ, C, os, R, PostF.bndA z fun ds ρ1 μ1 vs H1 C1 os1 R1 S1 q1 z1 => by
    obtain ⟨d, e, k⟩ := lift_okF R1 z1
    unfold mkL at e
    split at e
    · rename_i hl
      cases e
      exact ⟨by rw [q1.length, line_eq]; exact hl, fun p n => k _ _ n ⟨_, rfl, q1⟩⟩
    · cases e⟩
def setF (i : Nat) (f : Mo D) : Mo Fl := bnd f fun d => put i (.ow d)
theorem ds_setF {i : Nat} {x : Str} {pos' : Pos} (hN : X.N.Nodup) (he : DF Φ X i e f) (hi : X.N[i]? = some x := by rfl) (hx : Loc X.env.scope x := by first | exact Or.inl rfl | exact Or.inr rfl)
    (hs : swapsWith e (some (.Name x pos')) pos.line X.env = pure false := by rfl) (hf : X.fn x = true ∨ X.env.scope.names.lookup x = some .local := by first | exact .inl rfl | exact .inr rfl) :
    DS Φ X (.Assign [.Name x pos'] e pos) (setF i f) := PS.imp (ps_set hN hi hx he hs hf) fun D σ H ⟨ρ, μ, C, os, R, z⟩ => by
  refine ⟨ρ, μ, C, os, R, ?_⟩
  unfold setF bnd at z
  cases e : f ρ μ with
  | no => rw [e] at z; exact z
  | ex c ns ds ρ1 μ1 => rw [e] at z; exact fun Cc dx H' C' os' R S g e => z Cc dx σ H' C' os' R S g e
  | ok d ρ1 μ1 =>
    rw [e] at z
    exact fun a H1 C1 os1 R1 S1 w => z _ _ C1 _ (R1.setv (t := .ow d) ⟨a, rfl, List.mem_cons_self, w⟩) S1
end
end L2.DL

/-! DL7: owned lists and cells changed; for, while. -/
namespace L2.DL
open PySem PySem.Spec PyProof.Rows
section
variable {Φ : Ctx} {X : Cx} {a b c e : Expr} {f g k : Mo D} {pos : Pos}
theorem stp_mut {C : List Addr} {os : Os} {H : Hp} {p : Addr} {o o0 : HO} (h : H p = some o0) (hA : AA Φ C os p) (hB : (none, p) ∉ os) : Stp (rc Φ X C os H) (rc Φ X C os (upd H p o)) :=
  ⟨rfl, rfl, fun b z => .inl z, ⟨[], by simp [rcK]⟩, fun b u z n => by
    have nb : b ≠ p := fun e => n (by rw [e]; exact hA)
    show upd H p o b = some u
    rw [upd_ne nb]; exact z, fun b u z => by
    by_cases hb : b = p
    · exact ⟨o, by rw [hb]; exact upd_same⟩
    · exact ⟨u, by
        show upd H p o b = some u
        rw [upd_ne hb]; exact z⟩, fun b z => z, fun b u z w => by
    have nb : b ≠ p := fun e => hB (by rw [← e]; exact w)
    show upd H p o b = some u
    rw [upd_ne nb]; exact z⟩
theorem Rl.notB {ρ : Env} {μ : Sto} {C : List Addr} {os : Os} {σ : St} {H : Hp} {i : Nat} {p : Addr} (R : Rl Φ X ρ μ C os σ H) (h : (some i, p) ∈ os ∨ p ∈ C) : (none, p) ∉ os := fun z => by
  rcases h with h | h
  · have q := R.own none (some i) p z h
    cases q
  · exact (R.fre _ _ z).2.1 h
theorem Rl.forget {ρ : Env} {μ : Sto} {C : List Addr} {os : Os} {σ : St} {H : Hp} (i : Nat) (R : Rl Φ X ρ μ C os σ H) : Rl Φ X (ρ.set i none) μ C os σ H where
  len := by rw [List.length_set]; exact R.len
  env := fun j t q => by
    by_cases hj : i = j
    · subst hj
      by_cases hl : i < ρ.length
      · rw [List.getElem?_set_self hl] at q; cases q
      · rw [List.getElem?_eq_none (by rw [List.length_set]; omega)] at q; cases q
    · rw [List.getElem?_set_ne hj] at q
      exact R.env j t q
  sto := R.sto
  own := R.own
  fre := R.fre
  pre := R.pre
  cfr := R.cfr
  cnd := R.cnd
  clv := R.clv
  frm := R.frm
  alv := R.alv
theorem Rl.sete {ρ : Env} {μ : Sto} {C : List Addr} {os : Os} {σ : St} {H : Hp} {i : Nat} {v : V} {t : Ent} (R : Rl Φ X ρ μ C os σ H) (hv : σ[i]? = some (some v)) (h : EntR Φ (rc Φ X C os H) os i v t) : Rl Φ X (ρ.set i (some t)) μ C os σ H := by
  have q := R.setv (i := i) (v := v) h
  have e : σ.set i (some v) = σ := by
    apply List.ext_getElem?
    intro j
    by_cases hj : i = j
    · subst hj
      rw [List.getElem?_set_self (List.getElem?_eq_some_iff.mp hv).1, hv]
    · rw [List.getElem?_set_ne hj]
  rw [e] at q
  exact q
/-- an owned object changed -/
theorem Rl.mutO {ρ : Env} {μ : Sto} {C : List Addr} {os : Os} {σ : St} {H : Hp} {i : Nat} {p : Addr} {t : Ent} {o : HO} (R : Rl Φ X ρ μ C os σ H) (hv : σ[i]? = some (some (.ref p))) (hm : (some i, p) ∈ os)
    (h : EntR Φ (rc Φ X C os (upd H p o)) os i (.ref p) t) : Rl Φ X (ρ.set i (some t)) μ C os σ (upd H p o) ∧ Stp (rc Φ X C os H) (rc Φ X C os (upd H p o)) := by
  obtain ⟨f1, f2, f3, o0, h0⟩ := R.fre _ p hm
  have S : Stp (rc Φ X C os H) (rc Φ X C os (upd H p o)) := stp_mut h0 (.inr (.inr ⟨_, hm⟩)) (R.notB (.inl hm))
  have ne : ∀ {b : Addr} {u : HO}, b ≠ p → H b = some u → upd H p o b = some u := fun nb z => by rw [upd_ne nb]; exact z
  have R1 : Rl Φ X (ρ.set i none) μ C os σ (upd H p o) := by
    refine (R.forget i).move S (fun b => b = p) (fun b u nb z => ne nb z) (fun j t v q h1 h2 => ?_) (fun m b c h1 h2 h3 => ?_) R.own (fun j b z => ?_) (fun b e _ => by rw [e]; exact f1) S.l
    · have hj : j ≠ i := fun e => by
        subst e
        by_cases hl : j < ρ.length
        · rw [List.getElem?_set_self hl] at q; cases q
        · rw [List.getElem?_eq_none (by rw [List.length_set]; omega)] at q; cases q
      cases t with
      | sh d => exact Rep.step S h2
      | ow d =>
        obtain ⟨b, e1, e2, e3⟩ := h2
        exact ⟨b, e1, e2, e3.stepH S fun u z => ne (fun e => hj (Option.some.inj (R.own (some j) (some i) p (e ▸ e2) hm))) z⟩
      | bd c ns ds =>
        obtain ⟨b, e1, e2, e3⟩ := h2
        exact ⟨b, e1, e2, BdR.stepB S (fun u z => ne (fun e => hj (Option.some.inj (R.own (some j) (some i) p (e ▸ e2) hm))) z) e3⟩
      | eh c ns ds =>
        obtain ⟨b, dx, e1, e2, e3⟩ := h2
        exact ⟨b, dx, e1, e2, e3.step S⟩
    · exact h3.stepH S fun u z => ne (fun e => f2 (e ▸ List.mem_of_getElem? h1)) z
    · obtain ⟨h1, h2, h3, u, h4⟩ := R.fre j b z
      exact ⟨h1, h2, h3, S.l b u h4⟩
  have R2 := R1.sete hv h
  rw [List.set_set] at R2
  exact ⟨R2, S⟩
/-- a cell changed -/
theorem Rl.mutC {ρ : Env} {μ : Sto} {C : List Addr} {os : Os} {σ : St} {H : Hp} {n : Nat} {p : Addr} {c : Cell} {o : HO} (R : Rl Φ X ρ μ C os σ H) (hp : C[n]? = some p) (h : CellR (rc Φ X C os (upd H p o)) p c) :
    Rl Φ X ρ (μ.set n c) C os σ (upd H p o) ∧ Stp (rc Φ X C os H) (rc Φ X C os (upd H p o)) := by
  have hC : p ∈ C := List.mem_of_getElem? hp
  obtain ⟨o0, h0⟩ := R.clv p hC
  have S : Stp (rc Φ X C os H) (rc Φ X C os (upd H p o)) := stp_mut h0 (.inr (.inl hC)) (R.notB (i := 0) (.inr hC))
  have ne : ∀ {b : Addr} {u : HO}, b ≠ p → H b = some u → upd H p o b = some u := fun nb z => by rw [upd_ne nb]; exact z
  have nos : ∀ {j : Option Nat} {b : Addr}, (j, b) ∈ os → b ≠ p := fun z e => (R.fre _ _ z).2.1 (e ▸ hC)
  refine ⟨⟨R.len, fun j t q => ?_, ⟨by rw [List.length_set]; exact R.sto.1, fun m b c' h1 h2 => ?_⟩, R.own, fun j b z => ?_, R.pre, R.cfr, R.cnd, fun b z => let ⟨u, e⟩ := R.clv b z; S.l b u e, fun b u h1 h2 h3 => ne (fun e => h2 (e ▸ hC)) (R.frm b u h1 h2 h3),
    fun b z => let ⟨u, e⟩ := R.alv b z; S.l b u e⟩, S⟩
  · obtain ⟨v, h1, h2⟩ := R.env j t q
    refine ⟨v, h1, ?_⟩
    cases t with
    | sh d => exact Rep.step S h2
    | ow d =>
      obtain ⟨b, e1, e2, e3⟩ := h2
      exact ⟨b, e1, e2, e3.stepH S fun u z => ne (nos e2) z⟩
    | bd c ns ds =>
      obtain ⟨b, e1, e2, e3⟩ := h2
      exact ⟨b, e1, e2, BdR.stepB S (fun u z => ne (nos e2) z) e3⟩
    | eh c ns ds =>
      obtain ⟨b, dx, e1, e2, e3⟩ := h2
      exact ⟨b, dx, e1, e2, e3.step S⟩
  · by_cases hm : n = m
    · subst hm
      have hl : n < μ.length := by
        have := (List.getElem?_eq_some_iff.mp h2).1
        rwa [List.length_set] at this
      rw [List.getElem?_set_self hl] at h2
      cases h2
      have e : b = p := Option.some.inj (h1.symm.trans hp)
      rw [e]; exact h
    · rw [List.getElem?_set_ne hm] at h2
      refine (R.sto.2 m b c' h1 h2).stepH S fun u z => ne (fun e => hm ?_) z
      exact (List.getElem_inj R.cnd).mp ((List.getElem?_eq_some_iff.mp hp).2.trans ((List.getElem?_eq_some_iff.mp h1).2.trans e).symm)
  · obtain ⟨h1, h2, h3, u, h4⟩ := R.fre j b z
    exact ⟨h1, h2, h3, S.l b u h4⟩

/-! ### a list that a name holds, changed -/
/-- the list at slot i (owned, or a cell's) -/
def lstAt (i : Nat) (ρ : Env) (μ : Sto) : Option (List D) := match ρ[i]? with
  | some (some (.ow (.lst ds))) => some ds
  | some (some (.sh (.cell n))) => match μ[n]? with
    | some (.lst ds) => some ds
    | _ => none
  | _ => none
def lstPut (i : Nat) (ds : List D) : Mo Fl := fun ρ μ => match ρ[i]? with
  | some (some (.ow (.lst _))) => .ok .nx (ρ.set i (some (.ow (.lst ds)))) μ
  | some (some (.sh (.cell n))) => .ok .nx ρ (μ.set n (.lst ds))
  | _ => .no
/-- h: what becomes of the list -/
def lstUp (i : Nat) (h : List D → Option (List D)) : Mo Fl := fun ρ μ => match lstAt i ρ μ with
  | some ds => match h ds with
    | some es => lstPut i es ρ μ
    | none => .no
  | none => .no
def isLst (i : Nat) : Mo Unit := fun ρ μ => match lstAt i ρ μ with
  | some _ => .ok () ρ μ
  | none => .no
theorem lstAt_ok {ρ : Env} {μ : Sto} {C : List Addr} {os : Os} {σ : St} {H : Hp} {i : Nat} {ds : List D} (R : Rl Φ X ρ μ C os σ H) (h : lstAt i ρ μ = some ds) : ∃ p vs, σ[i]? = some (some (.ref p)) ∧ H p = some (.lst vs) ∧ Reps (rc Φ X C os H) vs ds ∧ AA Φ C os p ∧
    ∀ (ws : List V) (es : List D), Reps (rc Φ X C os H) ws es → ∃ ρ' μ', lstPut i es ρ μ = .ok .nx ρ' μ' ∧ Rl Φ X ρ' μ' C os σ (upd H p (.lst ws)) ∧ Stp (rc Φ X C os H) (rc Φ X C os (upd H p (.lst ws))) := by
  unfold lstAt at h
  cases q : ρ[i]? with
  | none => rw [q] at h; cases h
  | some o =>
    cases o with
    | none => rw [q] at h; cases h
    | some t =>
      obtain ⟨v, h1, h2⟩ := R.env i _ q
      cases t with
      | ow d =>
        cases d with
        | lst ds' =>
          rw [q] at h
          cases h
          obtain ⟨p, rfl, hm, vs, hp, qs⟩ := h2
          refine ⟨p, vs, h1, hp, qs, .inr (.inr ⟨_, hm⟩), fun ws es hq => ?_⟩
          have S : Stp (rc Φ X C os H) (rc Φ X C os (upd H p (.lst ws))) := stp_mut hp (.inr (.inr ⟨_, hm⟩)) (R.notB (.inl hm))
          have z := R.mutO (t := .ow (.lst es)) (o := .lst ws) h1 hm ⟨p, rfl, hm, ws, upd_same, hq.step S⟩
          exact ⟨_, _, by unfold lstPut; rw [q], z.1, z.2⟩
        | _ => rw [q] at h; cases h
      | sh d =>
        cases d with
        | cell n =>
          rw [q] at h
          cases q2 : μ[n]? with
          | none => simp only [q2] at h; cases h
          | some c =>
            simp only [q2] at h
            cases c with
            | lst ds' =>
              cases h
              cases h2 with
              | @cell p _ hc =>
                obtain ⟨vs, hp, qs⟩ := cell_at R hc q2
                refine ⟨p, vs, h1, hp, qs, .inr (.inl (List.mem_of_getElem? hc)), fun ws es hq => ?_⟩
                have S : Stp (rc Φ X C os H) (rc Φ X C os (upd H p (.lst ws))) := stp_mut hp (.inr (.inl (List.mem_of_getElem? hc))) (R.notB (i := 0) (.inr (List.mem_of_getElem? hc)))
                have z := R.mutC (c := .lst es) (o := .lst ws) hc ⟨ws, upd_same, hq.step S⟩
                exact ⟨_, _, by unfold lstPut; rw [q], z.1, z.2⟩
            | _ => cases h
        | _ => rw [q] at h; cases h
      | bd c ns ds => rw [q] at h; cases h
      | eh c ns ds => rw [q] at h; cases h
theorem lstUp_ok {ρ : Env} {μ : Sto} {C : List Addr} {os : Os} {σ : St} {H : Hp} {i : Nat} {h : List D → Option (List D)} {E : Ends} (R : Rl Φ X ρ μ C os σ H) (z : PostS Φ X C os H (lstUp i h ρ μ) E) :
    ∃ p vs ds es, σ[i]? = some (some (.ref p)) ∧ H p = some (.lst vs) ∧ Reps (rc Φ X C os H) vs ds ∧ h ds = some es ∧ ∀ ws, Reps (rc Φ X C os H) ws es → E.nx σ (upd H p (.lst ws)) := by
  unfold lstUp at z
  cases e : lstAt i ρ μ with
  | none => rw [e] at z; exact z.elim
  | some ds =>
    rw [e] at z
    cases e2 : h ds with
    | none => simp only [e2] at z; exact z.elim
    | some es =>
      simp only [e2] at z
      obtain ⟨p, vs, h1, h2, h3, _, k⟩ := lstAt_ok R e
      refine ⟨p, vs, ds, es, h1, h2, h3, e2, fun ws hq => ?_⟩
      obtain ⟨ρ', μ', e3, R', S⟩ := k ws es hq
      rw [e3] at z
      exact z σ _ C os R' S
theorem isLst_ok {ρ : Env} {μ : Sto} {C : List Addr} {os : Os} {σ : St} {H : Hp} {i : Nat} {g : Mo Fl} {E : Ends} (R : Rl Φ X ρ μ C os σ H) (z : PostS Φ X C os H (bnd (isLst i) (fun _ => g) ρ μ) E) :
    ∃ p vs, σ[i]? = some (some (.ref p)) ∧ H p = some (.lst vs) ∧ PostS Φ X C os H (g ρ μ) E := by
  unfold bnd isLst at z
  cases e : lstAt i ρ μ with
  | none => rw [e] at z; exact z.elim
  | some ds =>
    rw [e] at z
    obtain ⟨p, vs, h1, h2, _⟩ := lstAt_ok R e
    exact ⟨p, vs, h1, h2, z⟩
def apnM (i : Nat) (f : Mo D) : Mo Fl := bnd (isLst i) fun _ => bnd f fun d => lstUp i fun ds => if ds.length < lineN then some (ds ++ [d]) else none
theorem ds_apn {i : Nat} {x : Str} {p1 p2 cpos : Pos} (he : DE Φ X e f) (hN : X.N[i]? = some x := by rfl) (hv : Vis X.env.scope x := by first | exact Or.inl rfl | exact Or.inr (Or.inl rfl) | exact Or.inr (Or.inr rfl)) (hd : (x == ("__debug__" : Str)) = false := by decide)
    (hcd : (x == ("__classdict__" : Str)) = false := by decide) (hs : swapsWith (.Call (.Attribute (.Name x p1) "append" p2) [e] [] cpos) none pos.line X.env = pure false := by rfl)
    (hst : starEach [e] X.env = (false, eval e X.env) :: starEach [] X.env := by rfl) (hbase : attributeBase (.Name x p1) "append" X.env (eval (.Name x p1) X.env) = eval (.Name x p1) X.env := by rfl)
    (hfew : ((backTo cpos (starEach [e] X.env)).all (fun y => !y.1) && (backToKw cpos (keywordEach [] X.env)).all (fun y => y.1.isSome) && decide ([e].length + ([] : List Keyword).length + (if ([] : List Keyword).isEmpty then 0 else 1) < 30)) = true := by rfl)
    (hline : (p2.endLine == cpos.line) = true := by rfl) (hpl : (backTo cpos (starEach [] X.env)).any (·.1) = false := by rfl) : DS Φ X (.Expr (.Call (.Attribute (.Name x p1) "append" p2) [e] [] cpos) pos) (apnM i f) :=
  PS.imp (ps_expr (pe_bm PySem.F.plainAttrs_list PySem.F.slot_list_append PySem.F.type_list_append mt_append (pe_var hN hv hd hcd) (pa_cons he pa_nil hst) hbase hfew hline hst hpl) hs) fun D σ H ⟨ρ, μ, C, os, R, z⟩ => by
    obtain ⟨p, vs, h1, h2, z1⟩ := isLst_ok R z
    refine ⟨_, h1, .inl ⟨rfl, vs, .of h2⟩, ρ, μ, C, os, R, PostS.bndE z1 fun d ρ1 μ1 v H1 C1 os1 R1 S1 q1 z2 => ?_⟩
    obtain ⟨p', vs', ds, es, h3, h4, h5, h6, k⟩ := lstUp_ok R1 z2
    rw [h1] at h3; cases h3
    split at h6
    · rename_i hl
      cases h6
      exact ⟨p, vs', v, rfl, rfl, h4, by rw [h5.length, line_eq]; exact hl, k _ (h5.append (.one q1))⟩
    · cases h6
/-- x[j] = e -/
def stiM (i : Nat) (f g : Mo D) : Mo Fl := bnd f fun d => bnd (isLst i) fun _ => bnd g fun j => lstUp i fun ds => match j with
  | .int n => (ixN ds.length n).map fun m => ds.set m d
  | _ => none
theorem ds_sti {i : Nat} {x : Str} {p1 p2 : Pos} (he : DE Φ X e f) (hj : DE Φ X b g) (hN : X.N[i]? = some x := by rfl) (hv : Vis X.env.scope x := by first | exact Or.inl rfl | exact Or.inr (Or.inl rfl) | exact Or.inr (Or.inr rfl))
    (hd : (x == ("__debug__" : Str)) = false := by decide) (hcd : (x == ("__classdict__" : Str)) = false := by decide)
    (ha : ∀ v, assign (.Subscript (.Name x p1) b p2) X.env v = (do
      let ov ← holding [v] (eval (.Name x p1) X.env)
      let iv ← holding [v, ov] (eval b X.env)
      standAt p2
      holding [v, ov, iv] (setItem ov iv v)
      release [v, ov, iv] []) := by intro _; rfl)
    (hs : swapsWithSole [.Subscript (.Name x p1) b p2] e pos.line X.env = pure false := by rfl) (hw : swappedStores [.Subscript (.Name x p1) b p2] e X.env = pure none := by rfl) (h1 : (assignEach [.Subscript (.Name x p1) b p2] X.env).map (·.2) = [assign (.Subscript (.Name x p1) b p2) X.env] := by rfl) :
    DS Φ X (.Assign [.Subscript (.Name x p1) b p2] e pos) (stiM i f g) :=
  PS.imp (ps_asg he (pg_sub (pe_var hN hv hd hcd) hj set_list ha) hs hw h1) fun D σ H ⟨ρ, μ, C, os, R, z⟩ =>
    ⟨ρ, μ, C, os, R, PostS.bndE z fun d ρ1 μ1 v H1 C1 os1 R1 S1 q1 z1 => by
      obtain ⟨p, vs, h1, h2, z2⟩ := isLst_ok R1 z1
      refine ⟨_, h1, ρ1, μ1, C1, os1, R1, PostS.bndE z2 fun j ρ2 μ2 w H2 C2 os2 R2 S2 q2 z3 => ?_⟩
      obtain ⟨p', vs', ds, es, h3, h4, h5, h6, k⟩ := lstUp_ok R2 z3
      rw [h1] at h3; cases h3
      cases q2 with
      | int n =>
        obtain ⟨m, h7, rfl⟩ := Option.map_eq_some_iff.mp h6
        exact ⟨p, vs', n, m, rfl, rfl, h4, by rw [h5.length]; exact h7, k _ (Reps.set (q1.step S2) m h5)⟩
      | _ => cases h6⟩
end
end L2.DL

/-! DL8: targets, what is walked, for, while, list comprehensions. -/
namespace L2.DL
open PySem PySem.Spec PyProof.Rows
section
variable {Φ : Ctx} {X : Cx} {a b c e : Expr} {f g k : Mo D} {pos : Pos}
/-- what a walk yields: a value, or a pair that is unpacked at once -/
def RepU (r : RC) (v : V) (d : D) : Prop := Rep r v d ∨ ∃ a vs ds, v = .ref a ∧ d = .tup ds ∧ r.H a = some (.tup vs) ∧ ¬ r.A a ∧ Reps r vs ds
abbrev Vr := RC → V → D → Prop
/-! ### targets -/
def PostG (Φ : Ctx) (X : Cx) (C : List Addr) (os : Os) (H : Hp) (o : O Unit) (Q : St → Hp → Prop) : Prop := match o with
  | .ok _ ρ' μ' => ∀ σ' H' C' os', Rl Φ X ρ' μ' C' os' σ' H' → Stp (rc Φ X C os H) (rc Φ X C' os' H') → Q σ' H'
  | _ => False
def cG (U : Vr) (Φ : Ctx) (X : Cx) (g : D → Mo Unit) : TG := fun v σ H Q => ∃ ρ μ C os d, Rl Φ X ρ μ C os σ H ∧ U (rc Φ X C os H) v d ∧ PostG Φ X C os H (g d ρ μ) Q
def cGs (Φ : Ctx) (X : Cx) (g : List D → Mo Unit) : TGs := fun vs σ H Q => ∃ ρ μ C os ds, Rl Φ X ρ μ C os σ H ∧ Reps (rc Φ X C os H) vs ds ∧ PostG Φ X C os H (g ds ρ μ) Q
def DG (U : Vr) (Φ : Ctx) (X : Cx) (tg : Expr) (g : D → Mo Unit) : Prop := PG X tg (cG U Φ X g)
def DGs (Φ : Ctx) (X : Cx) (tgs : List Expr) (g : List D → Mo Unit) : Prop := PGs X tgs (cGs Φ X g)
theorem PG.imp {tg : Expr} {t t' : TG} (h : PG X tg t) (i : ∀ v σ H Q, t' v σ H Q → t v σ H Q) : PG X tg t' := ⟨fun pins s σ H v u Q I r q => h.run pins s σ H v u Q I r (i v σ H Q q)⟩
theorem PGs.imp {tgs : List Expr} {t t' : TGs} (h : PGs X tgs t) (i : ∀ v σ H Q, t' v σ H Q → t v σ H Q) : PGs X tgs t' := ⟨fun pins s σ H v u Q I r q => h.run pins s σ H v u Q I r (i v σ H Q q)⟩
theorem PostG.from {C C1 : List Addr} {os os1 : Os} {H H1 : Hp} {o : O Unit} {Q : St → Hp → Prop} (S : Stp (rc Φ X C os H) (rc Φ X C1 os1 H1)) (h : PostG Φ X C os H o Q) : PostG Φ X C1 os1 H1 o Q := by
  cases o with
  | ok d ρ' μ' => exact fun σ' H' C' os' R T => h σ' H' C' os' R (S.trans T)
  | ex c ns ds ρ' μ' => exact h
  | no => exact h
def tgN (i : Nat) (d : D) : Mo Unit := fun ρ μ => .ok () (ρ.set i (some (.sh d))) μ
def tgT (n : Nat) (g : List D → Mo Unit) : D → Mo Unit
  | .tup ds => if ds.length = n then g ds else no
  | _ => no
def tgNil : List D → Mo Unit
  | [] => ret ()
  | _ => no
def tgCons (g : D → Mo Unit) (gs : List D → Mo Unit) : List D → Mo Unit
  | d :: ds => bnd (g d) fun _ => gs ds
  | [] => no
theorem dg_name {i : Nat} {x : Str} (hN : X.N.Nodup) (hi : X.N[i]? = some x := by rfl) (hx : Loc X.env.scope x := by first | exact Or.inl rfl | exact Or.inr rfl) (hf : X.fn x = true ∨ X.env.scope.names.lookup x = some .local := by first | exact .inl rfl | exact .inr rfl) :
    DG Rep Φ X (.Name x pos) (tgN i) := PG.imp (pg_name hN hi hx hf) fun v σ H Q ⟨ρ, μ, C, os, d, R, q, z⟩ => z _ _ C os (R.setv (t := .sh d) q) (Stp.refl _)
theorem dgs_nil : DGs Φ X [] tgNil := PGs.imp pgs_nil fun vs σ H Q ⟨ρ, μ, C, os, ds, R, q, z⟩ => by
  cases q with
  | nil => exact ⟨rfl, z _ _ C os R (Stp.refl _)⟩
  | cons h t => exact z.elim
theorem dgs_cons {e : Expr} {es : List Expr} {g : D → Mo Unit} {gs : List D → Mo Unit} (h1 : DG Rep Φ X e g) (h2 : DGs Φ X es gs) (hs : (assignEach (e :: es) X.env).map (·.2) = assign e X.env :: (assignEach es X.env).map (·.2) := by rfl) : DGs Φ X (e :: es) (tgCons g gs) :=
  PGs.imp (pgs_cons h1 h2 hs) fun vs σ H Q ⟨ρ, μ, C, os, ds, R, q, z⟩ => by
    cases q with
    | nil => exact z.elim
    | @cons v d vs ds h t =>
      refine ⟨v, vs, rfl, ρ, μ, C, os, d, R, h, ?_⟩
      have z : PostG Φ X C os H (bnd (g d) (fun _ => gs ds) ρ μ) Q := z
      unfold bnd at z
      cases e1 : g d ρ μ with
      | no => rw [e1] at z; exact z.elim
      | ex c ns ds ρ1 μ1 => rw [e1] at z; exact z.elim
      | ok u ρ1 μ1 =>
        rw [e1] at z
        exact fun σ1 H1 C1 os1 R1 S1 => ⟨ρ1, μ1, C1, os1, ds, R1, t.step S1, PostG.from S1 z⟩
theorem dg_tup {es : List Expr} {n : Nat} {m : Nat} {gs : List D → Mo Unit} (hc : X.calm = true) (h : DGs Φ X es gs) (hn : (assignEach es X.env).length = n := by rfl) (hst : (assignEach es X.env).findIdx? (·.1) = none := by rfl) :
    DG RepU Φ X (.Tuple es m pos) (tgT n gs) := PG.imp (pg_tup hc h hn hst) fun v σ H Q ⟨ρ, μ, C, os, d, R, q, z⟩ => by
  have fin : ∀ {a : Addr} {vs : List V} {ds : List D}, SqT X.K H a vs → Reps (rc Φ X C os H) vs ds → PostG Φ X C os H ((if ds.length = n then gs ds else no) ρ μ) Q → gTup X.K n (cGs Φ X gs) (.ref a) σ H Q := fun {a vs ds} hT qs z => by
    by_cases hl : ds.length = n
    · rw [if_pos hl] at z
      exact ⟨a, vs, rfl, hT, by rw [qs.length]; exact hl, ρ, μ, C, os, ds, R, qs, z⟩
    · rw [if_neg hl] at z
      exact z.elim
  rcases q with q | ⟨a, vs, ds, rfl, rfl, hH, _, qs⟩
  · cases q with
    | @tup a vs ds hT qs => exact fin hT.sq qs z
    | _ => exact z.elim
  · exact fin (.of hH) qs z
theorem DG.rep {tg : Expr} {g : D → Mo Unit} (h : DG RepU Φ X tg g) : DG Rep Φ X tg g := PG.imp h fun v σ H Q ⟨ρ, μ, C, os, d, R, q, z⟩ => ⟨ρ, μ, C, os, d, R, .inl q, z⟩
/-- a, b = e with any targets -/
def asgM (f : Mo D) (g : D → Mo Unit) : Mo Fl := bnd f fun d => bnd (g d) fun _ => ret .nx
theorem PostG_nx {C : List Addr} {os : Os} {H : Hp} {g : Mo Unit} {ρ : Env} {μ : Sto} {E : Ends} (z : PostS Φ X C os H (bnd g (fun _ => ret .nx) ρ μ) E) (hx : ∀ c ns ds ρ' μ', g ρ μ ≠ .ex c ns ds ρ' μ') : PostG Φ X C os H (g ρ μ) E.nx := by
  unfold bnd at z
  cases e : g ρ μ with
  | no => rw [e] at z; exact z
  | ex c ns ds ρ1 μ1 => exact (hx _ _ _ _ _ e).elim
  | ok u ρ1 μ1 => rw [e] at z; exact fun σ' H' C' os' R S => z σ' H' C' os' R S
/-- a target's store raises nothing -/
def NoEx (g : D → Mo Unit) : Prop := ∀ d ρ μ c ns ds ρ' μ', g d ρ μ ≠ .ex c ns ds ρ' μ'
theorem ds_asg {tg : Expr} {g : D → Mo Unit} (he : DE Φ X e f) (hg : DG Rep Φ X tg g) (hx : NoEx g) (hs : swapsWithSole [tg] e pos.line X.env = pure false := by rfl) (hw : swappedStores [tg] e X.env = pure none := by rfl)
    (h1 : (assignEach [tg] X.env).map (·.2) = [assign tg X.env] := by rfl) : DS Φ X (.Assign [tg] e pos) (asgM f g) := PS.imp (ps_asg he hg hs hw h1) fun D σ H ⟨ρ, μ, C, os, R, z⟩ =>
  ⟨ρ, μ, C, os, R, PostS.bndE z fun d ρ1 μ1 v H1 C1 os1 R1 S1 q1 z1 => ⟨ρ1, μ1, C1, os1, d, R1, q1, PostG_nx z1 (hx d ρ1 μ1)⟩⟩

/-! ### what is walked -/
structure ItOk (U : Vr) (J : It) (r : RC) (ds : List D) : Prop where
  go : ∀ (i : Nat) r', Stq r r' → i < ds.length → J.go i r'.H
  yl : ∀ (i : Nat) r' x H' d, Stq r r' → (∀ p, r'.H p = none → ¬ r'.A p) → ds[i]? = some d → J.yld i r'.H x H' → Grow r'.H H' ∧ U (r'.at H') x d
  st : ∀ r', Stq r r' → J.stop ds.length r'.H
def PostI (U : Vr) (Φ : Ctx) (X : Cx) (C : List Addr) (os : Os) (σ : St) (H : Hp) (o : O (List D)) (R : It → Hp → Prop) : Prop := match o with
  | .ok ds ρ' μ' => ∀ J H' C' os', Rl Φ X ρ' μ' C' os' σ H' → Stp (rc Φ X C os H) (rc Φ X C' os' H') → ItOk U J (rc Φ X C' os' H') ds → R J H'
  | .ex c ns ds ρ' μ' => ∀ Cc dx H' C' os', Rl Φ X ρ' μ' C' os' σ H' → Stp (rc Φ X C os H) (rc Φ X C' os' H') → X.mg c = some (.ref Cc) → EhR (rc Φ X C' os' H') dx c ns ds → Φ.W (.ref Cc) (some dx) σ H'
  | .no => False
def cI (U : Vr) (Φ : Ctx) (X : Cx) (f : Mo (List D)) : TI := fun σ H R => ∃ ρ μ C os, Rl Φ X ρ μ C os σ H ∧ PostI U Φ X C os σ H (f ρ μ) R
def DI (U : Vr) (Φ : Ctx) (X : Cx) (tg e : Expr) (f : Mo (List D)) : Prop := PI X tg e (cI U Φ X f)
theorem PI.imp {tg e : Expr} {t t' : TI} (h : PI X tg e t) (i : ∀ σ H R, t' σ H R → t σ H R) : PI X tg e t' := ⟨fun pins s σ H R I q => h.run pins s σ H R I (i σ H R q)⟩
theorem PI.or {tg e : Expr} {t t' : TI} (h : PI X tg e t) (h' : PI X tg e t') : PI X tg e (fun σ H R => t σ H R ∨ t' σ H R) := ⟨fun pins s σ H R I q => by
  rcases q with q | q
  · exact h.run pins s σ H R I q
  · exact h'.run pins s σ H R I q⟩
theorem PostI.from {U : Vr} {C C1 : List Addr} {os os1 : Os} {σ : St} {H H1 : Hp} {o : O (List D)} {Q : It → Hp → Prop} (S : Stp (rc Φ X C os H) (rc Φ X C1 os1 H1)) (h : PostI U Φ X C os σ H o Q) : PostI U Φ X C1 os1 σ H1 o Q := by
  cases o with
  | ok d ρ' μ' => exact fun J H' C' os' R T q => h J H' C' os' R (S.trans T) q
  | ex c ns ds ρ' μ' => exact fun Cc dx H' C' os' R T g e => h Cc dx H' C' os' R (S.trans T) g e
  | no => exact h
theorem sqL_stp {r r' : RC} (S : Stq r r') {a : Addr} {vs : List V} (h : (r.H a = some (.lst vs) ∧ ¬ r.A a) ∨ r.Lst a vs) : SqL r.K r'.H a vs := by
  rcases h with ⟨h, n⟩ | h
  · exact .inl (.inl (S.h _ _ h n))
  · rw [← S.k]; exact (S.lst h).sq
theorem it_list {r : RC} {a : Addr} {vs : List V} {ds : List D} (h : (r.H a = some (.lst vs) ∧ ¬ r.A a) ∨ r.Lst a vs) (q : Reps r vs ds) : ItOk Rep (Itl r.K a) r ds where
  go := fun i r' S hi => by
    obtain ⟨v, e, _⟩ := q.get (List.getElem?_eq_getElem hi)
    exact ⟨vs, v, sqL_stp S h, e⟩
  yl := fun i r' x H' d S _ e ⟨e1, e2⟩ => by
    subst e1
    obtain ⟨v, e3, e4⟩ := q.get e
    have e5 := e2 vs (sqL_stp S h)
    rw [e3] at e5; cases e5
    exact ⟨Grow.refl _, e4.stq S⟩
  st := fun r' S => ⟨vs, sqL_stp S h, Nat.le_of_eq q.length⟩
theorem it_tup {r : RC} {a : Addr} {vs : List V} {ds : List D} (h : r.Tup a vs) (q : Reps r vs ds) : ItOk Rep (Itt r.K a) r ds where
  go := fun i r' S hi => by
    obtain ⟨v, e, _⟩ := q.get (List.getElem?_eq_getElem hi)
    exact ⟨vs, v, S.k ▸ (S.tup h).sq, e⟩
  yl := fun i r' x H' d S _ e ⟨e1, e2⟩ => by
    subst e1
    obtain ⟨v, e3, e4⟩ := q.get e
    have e5 := e2 vs (S.k ▸ (S.tup h).sq)
    rw [e3] at e5; cases e5
    exact ⟨Grow.refl _, e4.stq S⟩
  st := fun r' S => ⟨vs, S.k ▸ (S.tup h).sq, Nat.le_of_eq q.length⟩
theorem it_range {r : RC} (lo : Int) (n : Nat) : ItOk Rep (Itr lo n) r ((List.range n).map fun k => D.int (lo + (k : Nat))) where
  go := fun i r' S hi => (by simpa using hi : i < n)
  yl := fun i r' x H' d S _ e ⟨e1, e2⟩ => by
    subst e1 e2
    rw [List.getElem?_map] at e
    cases q : (List.range n)[i]? with
    | none => rw [q] at e; cases e
    | some k =>
      rw [q] at e
      cases e
      obtain ⟨h1, h2⟩ := List.getElem?_eq_some_iff.mp q
      rw [List.getElem_range] at h2
      subst h2
      exact ⟨Grow.refl _, .int _⟩
  st := fun r' S => by simp [Itr]
theorem it_str {r : RC} (s : Str) : ItOk Rep (Its s) r (s.cps.toList.map fun c => D.str ⟨#[c]⟩) where
  go := fun i r' S hi => (by simpa using hi : i < s.cps.size)
  yl := fun i r' x H' d S _ e ⟨e1, c, e2, e3⟩ => by
    subst e1 e3
    rw [List.getElem?_map, Array.getElem?_toList, e2] at e
    cases e
    exact ⟨Grow.refl _, .str _⟩
  st := fun r' S => by simp [Its]
def seqD : D → Option (List D)
  | .lst ds | .tup ds | .frz ds => some ds
  | _ => none
def walk (f : Mo D) : Mo (List D) := bnd f fun d => lift (seqD d)
theorem walk_ok {U : Vr} {ρ : Env} {μ : Sto} {C : List Addr} {os : Os} {σ : St} {H : Hp} {R : It → Hp → Prop} {g : D → Option (List D)} (z : PostI U Φ X C os σ H (bnd f (fun d => lift (g d)) ρ μ) R) {Q1 : VK}
    (k : ∀ d ds ρ1 μ1 v H1 C1 os1, f ρ μ = .ok d ρ1 μ1 → g d = some ds → Rl Φ X ρ1 μ1 C1 os1 σ H1 → Stp (rc Φ X C os H) (rc Φ X C1 os1 H1) → Rep (rc Φ X C1 os1 H1) v d → (∀ J, ItOk U J (rc Φ X C1 os1 H1) ds → R J H1) → Q1 v H1) : PostE Φ X C os σ H (f ρ μ) Q1 := by
  unfold bnd at z
  cases e : f ρ μ with
  | no => rw [e] at z; exact z.elim
  | ex c ns ds ρ1 μ1 => rw [e] at z; exact z
  | ok d ρ1 μ1 =>
    rw [e] at z
    intro v H1 C1 os1 R1 S1 q
    cases e2 : g d with
    | none => simp only [lift, e2] at z; exact z.elim
    | some ds =>
      simp only [lift, e2] at z
      exact k d ds ρ1 μ1 v H1 C1 os1 e e2 R1 S1 q fun J hJ => z J H1 C1 os1 R1 S1 hJ
theorem di_seq {tg : Expr} (h : DE Φ X e f) : DI Rep Φ X tg e (walk f) := PI.imp (PI.or (pi_list h) (pi_tup h)) fun σ H R ⟨ρ, μ, C, os, R0, z⟩ => by
  have key : (∃ ds ρ1 μ1, f ρ μ = .ok (.tup ds) ρ1 μ1) ∨ ∀ ds ρ1 μ1, f ρ μ ≠ .ok (.tup ds) ρ1 μ1 := Classical.em _ |>.imp id fun h ds ρ1 μ1 e => h ⟨ds, ρ1, μ1, e⟩
  rcases key with ⟨ds0, ρ0, μ0, e0⟩ | nt
  · refine .inr ⟨ρ, μ, C, os, R0, walk_ok z fun d ds ρ1 μ1 v H1 C1 os1 e1 e2 R1 S1 q k => ?_⟩
    rw [e0] at e1; cases e1; cases e2
    cases q with
    | tup hT qs => exact ⟨_, rfl, ⟨_, hT.sq⟩, k _ (it_tup hT qs)⟩
  · refine .inl ⟨ρ, μ, C, os, R0, walk_ok z fun d ds ρ1 μ1 v H1 C1 os1 e1 e2 R1 S1 q k => ?_⟩
    cases q with
    | lst ha n qs => cases e2; exact ⟨_, rfl, ⟨_, .of ha⟩, k _ (it_list (.inl ⟨ha, n⟩) qs)⟩
    | frz ha qs => cases e2; exact ⟨_, rfl, ⟨_, ha.sq⟩, k _ (it_list (.inr ha) qs)⟩
    | tup hT qs => exact (nt _ _ _ e1).elim
    | _ => cases e2
def chrs : D → Option (List D)
  | .str s => some (s.cps.toList.map fun c => D.str ⟨#[c]⟩)
  | _ => none
def walkS (f : Mo D) : Mo (List D) := bnd f fun d => lift (chrs d)
theorem di_str {tg : Expr} (h : DE Φ X e f) : DI Rep Φ X tg e (walkS f) := PI.imp (pi_str h) fun σ H R ⟨ρ, μ, C, os, R0, z⟩ =>
  ⟨ρ, μ, C, os, R0, walk_ok z fun d ds ρ1 μ1 v H1 C1 os1 e1 e2 R1 S1 q k => by
    cases q with
    | str s => cases e2; exact ⟨s, rfl, k _ (it_str s)⟩
    | _ => cases e2⟩
theorem PostI.bndA {U : Vr} {C : List Addr} {os : Os} {σ : St} {H : Hp} {f : Mo (List D)} {g : List D → Option (List D)} {ρ : Env} {μ : Sto} {R : It → Hp → Prop} {Q1 : List V → Hp → Prop} (z : PostI U Φ X C os σ H (bnd f (fun d => lift (g d)) ρ μ) R)
    (k : ∀ d ds v H1 C1 os1, g d = some ds → (∀ p, (rc Φ X C1 os1 H1).H p = none → ¬ (rc Φ X C1 os1 H1).A p) → Reps (rc Φ X C1 os1 H1) v d → (∀ J, ItOk U J (rc Φ X C1 os1 H1) ds → R J H1) → Q1 v H1) : PostA Φ X C os σ H (f ρ μ) Q1 := by
  unfold bnd at z
  cases e : f ρ μ with
  | no => rw [e] at z; exact z.elim
  | ex c ns ds ρ1 μ1 => rw [e] at z; exact z
  | ok d ρ1 μ1 =>
    rw [e] at z
    intro v H1 C1 os1 R1 S1 q
    cases e2 : g d with
    | none => simp only [lift, e2] at z; exact z.elim
    | some ds =>
      simp only [lift, e2] at z
      exact k d ds v H1 C1 os1 e2 R1.fr q fun J hJ => z J H1 C1 os1 R1 S1 hJ
def rngL (lo hi : Int) : List D := (List.range (hi - lo).toNat).map fun k => D.int (lo + (k : Nat))
def inB (i : Int) : Bool := Nat.ble i.natAbs 4611686018427387903
def rng1 : List D → Option (List D)
  | [.int j] => if inB j then some (rngL 0 j) else none
  | _ => none
def rng2 : List D → Option (List D)
  | [.int i, .int j] => if inB i && inB j then some (rngL i j) else none
  | _ => none
def rngM1 (f : Mo (List D)) : Mo (List D) := bnd f fun ds => lift (rng1 ds)
def rngM2 (f : Mo (List D)) : Mo (List D) := bnd f fun ds => lift (rng2 ds)
theorem inB_of {i : Int} (h : inB i = true) : -(2 ^ 62) ≤ i ∧ i < 2 ^ 62 := by
  have h : i.natAbs ≤ 4611686018427387903 := Nat.le_of_ble_eq_true h
  omega
theorem di_rng1 {tg a : Expr} {p : Pos} {fa : Mo (List D)} (hm : X.mg "range" = none) (ha : DA Φ X [a] fa) (hg : Gl X "range" := by rfl) (hs : starEach [a] X.env = [(false, eval a X.env)] := by rfl) :
    DI Rep Φ X tg (.Call (.Name "range" p) [a] [] pos) (rngM1 fa) := PI.imp (pi_range1 hg hm ha hs) fun σ H R ⟨ρ, μ, C, os, R0, z⟩ =>
  ⟨ρ, μ, C, os, R0, PostI.bndA z fun d ds vs H1 C1 os1 e _ q k => by
    cases q with
    | nil => cases e
    | cons h t =>
      cases t with
      | cons _ _ => cases h <;> cases e
      | nil =>
        cases h with
        | int j =>
          simp only [rng1] at e
          split at e
          · rename_i hb
            cases e
            refine ⟨j, rfl, (inB_of hb).1, (inB_of hb).2, ?_⟩
            have w := it_range (r := rc Φ X C1 os1 H1) 0 j.toNat
            have e2 : (j - 0).toNat = j.toNat := by omega
            unfold rngL at k
            rw [e2] at k
            exact k _ w
          · cases e
        | _ => cases e⟩
theorem di_rng2 {tg a b : Expr} {p : Pos} {fa : Mo (List D)} (hm : X.mg "range" = none) (ha : DA Φ X [a, b] fa) (hg : Gl X "range" := by rfl) (hs : starEach [a, b] X.env = [(false, eval a X.env), (false, eval b X.env)] := by rfl) (hs2 : starEach [b] X.env = [(false, eval b X.env)] := by rfl) :
    DI Rep Φ X tg (.Call (.Name "range" p) [a, b] [] pos) (rngM2 fa) := PI.imp (pi_range2 hg hm ha hs hs2) fun σ H R ⟨ρ, μ, C, os, R0, z⟩ =>
  ⟨ρ, μ, C, os, R0, PostI.bndA z fun d ds vs H1 C1 os1 e _ q k => by
    cases q with
    | nil => cases e
    | cons h t =>
      cases t with
      | nil => cases h <;> cases e
      | cons h2 t2 =>
        cases t2 with
        | cons _ _ => cases h <;> cases h2 <;> cases e
        | nil =>
          cases h <;> first
            | (cases e; done)
            | (cases h2 <;> first
                | (cases e; done)
                | (simp only [rng2] at e
                   split at e
                   · rename_i hb
                     rw [Bool.and_eq_true] at hb
                     cases e
                     exact ⟨_, _, rfl, ⟨(inB_of hb.1).1, (inB_of hb.1).2, (inB_of hb.2).1, (inB_of hb.2).2⟩, k _ (it_range _ _)⟩
                   · cases e))⟩
/-! zip of two lists or two tuples -/
def zipL (xs ys : List D) : List D := (xs.zip ys).map fun p => .tup [p.1, p.2]
def zipD : List D → Option (List D)
  | [.lst xs, .lst ys] => some (zipL xs ys)
  | [.tup xs, .tup ys] => some (zipL xs ys)
  | _ => none
def zipM (f : Mo (List D)) : Mo (List D) := bnd f fun ds => lift (zipD ds)
theorem zipL_get {xs ys : List D} {i : Nat} {d : D} (h : (zipL xs ys)[i]? = some d) : ∃ x y, xs[i]? = some x ∧ ys[i]? = some y ∧ d = .tup [x, y] := by
  unfold zipL at h
  rw [List.getElem?_map] at h
  cases q : (xs.zip ys)[i]? with
  | none => rw [q] at h; cases h
  | some p =>
    rw [q] at h
    cases h
    obtain ⟨h1, h2⟩ := List.getElem?_zip_eq_some.mp q
    exact ⟨p.1, p.2, h1, h2, rfl⟩
theorem zipL_len (xs ys : List D) : (zipL xs ys).length = min xs.length ys.length := by simp [zipL]
theorem it_zipL {r : RC} {a b : Addr} {vs ws : List V} {xs ys : List D} (ha : r.H a = some (.lst vs)) (na : ¬ r.A a) (hb : r.H b = some (.lst ws)) (nb : ¬ r.A b) (qa : Reps r vs xs) (qb : Reps r ws ys) : ItOk RepU (Itz r.K a b) r (zipL xs ys) where
  go := fun i r' S hi => by
    rw [zipL_len] at hi
    obtain ⟨v, e, _⟩ := qa.get (List.getElem?_eq_getElem (show i < xs.length by omega))
    obtain ⟨w, e', _⟩ := qb.get (List.getElem?_eq_getElem (show i < ys.length by omega))
    exact ⟨vs, ws, v, w, .of (S.h _ _ ha na), .of (S.h _ _ hb nb), e, e'⟩
  yl := fun i r' x H' d S hn e ⟨T, x1, y1, ex, hT, eH, k1, k2⟩ => by
    subst ex eH
    obtain ⟨d1, d2, g1, g2, rfl⟩ := zipL_get e
    obtain ⟨v, e3, e4⟩ := qa.get g1
    obtain ⟨w, e5, e6⟩ := qb.get g2
    have e7 := k1 vs (.of (S.h _ _ ha na))
    have e8 := k2 ws (.of (S.h _ _ hb nb))
    rw [e3] at e7; cases e7
    rw [e5] at e8; cases e8
    exact ⟨Grow.upd hT, .inr ⟨T, _, _, rfl, rfl, upd_same, hn T hT, Reps.step (Grow.stp (Grow.upd hT)) (.cons (e4.stq S) (.cons (e6.stq S) .nil))⟩⟩
  st := fun r' S => ⟨vs, ws, .of (S.h _ _ ha na), .of (S.h _ _ hb nb), by rw [zipL_len, qa.length, qb.length]; omega⟩
theorem it_zipT {r : RC} {a b : Addr} {vs ws : List V} {xs ys : List D} (ha : r.Tup a vs) (hb : r.Tup b ws) (qa : Reps r vs xs) (qb : Reps r ws ys) : ItOk RepU (RZ.ItzT r.K a b) r (zipL xs ys) where
  go := fun i r' S hi => by
    rw [zipL_len] at hi
    obtain ⟨v, e, _⟩ := qa.get (List.getElem?_eq_getElem (show i < xs.length by omega))
    obtain ⟨w, e', _⟩ := qb.get (List.getElem?_eq_getElem (show i < ys.length by omega))
    exact ⟨vs, ws, v, w, S.k ▸ (S.tup ha).sq, S.k ▸ (S.tup hb).sq, e, e'⟩
  yl := fun i r' x H' d S hn e ⟨T, x1, y1, ex, hT, eH, k1, k2⟩ => by
    subst ex eH
    obtain ⟨d1, d2, g1, g2, rfl⟩ := zipL_get e
    obtain ⟨v, e3, e4⟩ := qa.get g1
    obtain ⟨w, e5, e6⟩ := qb.get g2
    have e7 := k1 vs (S.k ▸ (S.tup ha).sq)
    have e8 := k2 ws (S.k ▸ (S.tup hb).sq)
    rw [e3] at e7; cases e7
    rw [e5] at e8; cases e8
    exact ⟨Grow.upd hT, .inr ⟨T, _, _, rfl, rfl, upd_same, hn T hT, Reps.step (Grow.stp (Grow.upd hT)) (.cons (e4.stq S) (.cons (e6.stq S) .nil))⟩⟩
  st := fun r' S => ⟨vs, ws, S.k ▸ (S.tup ha).sq, S.k ▸ (S.tup hb).sq, by rw [zipL_len, qa.length, qb.length]; omega⟩
theorem di_zip {a b : Expr} {p tpos : Pos} {elts : List Expr} {kk : Nat} {fa : Mo (List D)} (hm : X.mg "zip" = none) (ha : DA Φ X [a, b] fa) (hg : Gl X "zip" := by rfl) (hs : starEach [a, b] X.env = (false, eval a X.env) :: starEach [b] X.env := by rfl)
    (hpl : (backTo pos (starEach [b] X.env)).any (·.1) = false := by rfl) : DI RepU Φ X (.Tuple elts kk tpos) (.Call (.Name "zip" p) [a, b] [] pos) (zipM fa) := PI.imp (RZ.pi_zipA hg hm ha hs hpl) fun σ H R ⟨ρ, μ, C, os, R0, z⟩ =>
  ⟨ρ, μ, C, os, R0, PostI.bndA z fun d ds vs H1 C1 os1 e hn q k => by
    cases q with
    | nil => cases e
    | cons h t =>
      cases t with
      | nil => cases h <;> cases e
      | cons h2 t2 =>
        cases t2 with
        | cons _ _ => cases h <;> cases h2 <;> cases e
        | nil =>
          cases h with
          | @lst a1 vs1 ds1 g1 n1 q1 =>
            cases h2 with
            | @lst a2 vs2 ds2 g2 n2 q2 =>
              cases e
              exact ⟨a1, a2, vs1, vs2, rfl, .inl ⟨.of g1, .of g2, k _ (it_zipL g1 n1 g2 n2 q1 q2)⟩⟩
            | _ => cases e
          | @tup a1 vs1 ds1 g1 q1 =>
            cases h2 with
            | @tup a2 vs2 ds2 g2 q2 =>
              cases e
              exact ⟨a1, a2, vs1, vs2, rfl, .inr ⟨g1.sq, g2.sq, k _ (it_zipT g1 g2 q1 q2)⟩⟩
            | _ => cases e
          | _ => cases h2 <;> cases e⟩
end
end L2.DL

/-! DL9: for, while, list comprehensions. -/
namespace L2.DL
open PySem PySem.Spec PyProof.Rows
section
variable {Φ : Ctx} {X : Cx} {a b c e : Expr} {f g k : Mo D} {pos : Pos} {fs gs : Mo Fl} {ft : Mo Bool}
/-! ### for -/
def forL (gt : D → Mo Unit) (body : Mo Fl) : List D → Mo Fl
  | [] => ret .nx
  | d :: ds => bnd (gt d) fun _ => bnd body fun fl => match fl with
    | .nx => forL gt body ds
    | .ct => forL gt body ds
    | .bk => ret .nx
    | .rt v => ret (.rt v)
    | .ro v => ret (.ro v)
def forM (fi : Mo (List D)) (gt : D → Mo Unit) (body : Mo Fl) : Mo Fl := bnd fi fun ds => forL gt body ds
theorem ds_for {U : Vr} {tg iter : Expr} {body : List Stmt} {fi : Mo (List D)} {gt : D → Mo Unit} {n : Nat} (cn : Cn Φ X n) (hi : DI U Φ X tg iter fi) (hg : DG U Φ X tg gt) (hx : NoEx gt) (hb : DSs Φ X body fs)
    (hs : ∀ x, foldedSetIterable iter X.env x = pure x := by intro _; rfl) : DS Φ X (.For tg iter body [] pos) (forM fi gt fs) := PS.imp (ps_for cn.po cn.calm hi hg hb hs) fun D σ H ⟨ρ, μ, C, os, R, z⟩ => by
  refine ⟨ρ, μ, C, os, R, ?_⟩
  unfold forM bnd at z
  cases e : fi ρ μ with
  | no => rw [e] at z; exact z.elim
  | ex c ns ds ρ1 μ1 => rw [e] at z; exact fun Cc dx H' C' os' R S g e => z Cc dx σ H' C' os' R S g e
  | ok ds ρ1 μ1 =>
    rw [e] at z
    intro J H1 C1 os1 R1 S1 hJ
    have z := PostS.from S1 z
    let W : Nat → Nat → L2.St → Hp → Prop := fun i m σ H => m = ds.length - i ∧ i ≤ ds.length ∧ ∃ ρ μ C os, Rl Φ X ρ μ C os σ H ∧ Stp (rc Φ X C1 os1 H1) (rc Φ X C os H) ∧ PostS Φ X C os H (forL gt fs (ds.drop i) ρ μ) D
    refine ⟨W, ⟨ds.length, rfl, Nat.zero_le _, ρ1, μ1, C1, os1, R1, Stp.refl _, z⟩, ?_⟩
    rintro i m σ2 H2 ⟨rfl, hi, ρ2, μ2, C2, os2, R2, S2, z2⟩
    by_cases hlt : i < ds.length
    · refine .inr ⟨hJ.go i _ S2.q hlt, fun σ' H' => W (i + 1) (ds.length - (i + 1)) σ' H', fun σ' H' h => ⟨ds.length - (i + 1), by omega, h⟩, fun x H3 hy => ?_⟩
      obtain ⟨gr, rep⟩ := hJ.yl i _ x H3 ds[i] S2.q R2.fr (List.getElem?_eq_getElem hlt) hy
      have R3 : Rl Φ X ρ2 μ2 C2 os2 σ2 H3 := R2.grow gr
      have S3 : Stp (rc Φ X C2 os2 H2) (rc Φ X C2 os2 H3) := stp_grow gr
      have z3 := PostS.from S3 z2
      rw [List.drop_eq_getElem_cons hlt] at z3
      refine ⟨ρ2, μ2, C2, os2, ds[i], R3, rep, ?_⟩
      have z3 : PostS Φ X C2 os2 H3 (bnd (gt ds[i]) (fun _ => bnd fs fun fl => match fl with
        | .nx => forL gt fs (ds.drop (i + 1))
        | .ct => forL gt fs (ds.drop (i + 1))
        | .bk => ret .nx
        | .rt v => ret (.rt v)
        | .ro v => ret (.ro v)) ρ2 μ2) D := z3
      unfold bnd at z3
      cases e1 : gt ds[i] ρ2 μ2 with
      | no => rw [e1] at z3; exact z3
      | ex c ns es ρ3 μ3 => exact (hx _ _ _ _ _ _ _ _ e1).elim
      | ok u ρ3 μ3 =>
        rw [e1] at z3
        intro σ4 H4 C4 os4 R4 S4
        refine ⟨ρ3, μ3, C4, os4, R4, ?_⟩
        have z4 := PostS.from S4 z3
        cases e2 : fs ρ3 μ3 with
        | no => simp only [e2] at z4; exact z4
        | ex c ns es ρ5 μ5 => simp only [e2] at z4; exact z4
        | ok fl ρ5 μ5 =>
          simp only [e2] at z4
          intro σ5 H5 C5 os5 R5 S5
          have S6 := ((S2.trans S3).trans S4).trans S5
          cases fl with
          | nx => exact ⟨rfl, hlt, ρ5, μ5, C5, os5, R5, S6, PostS.from S5 z4⟩
          | ct => exact ⟨rfl, hlt, ρ5, μ5, C5, os5, R5, S6, PostS.from S5 z4⟩
          | bk => exact z4 σ5 H5 C5 os5 R5 S5
          | rt d => exact z4 σ5 H5 C5 os5 R5 S5
          | ro d => exact z4 σ5 H5 C5 os5 R5 S5
    · have ei : i = ds.length := by omega
      subst ei
      rw [List.drop_length] at z2
      exact .inl ⟨hJ.st _ S2.q, retS R2 z2⟩

/-! ### while -/
def whileN (t : Mo Bool) (body : Mo Fl) : Nat → Mo Fl
  | 0 => no
  | n + 1 => bnd t fun b => if b then bnd body fun fl => match fl with
    | .nx => whileN t body n
    | .ct => whileN t body n
    | .bk => ret .nx
    | .rt v => ret (.rt v)
    | .ro v => ret (.ro v) else ret .nx
open Classical in
noncomputable def whileM (t : Mo Bool) (body : Mo Fl) : Mo Fl := fun ρ μ => if h : ∃ n, whileN t body n ρ μ ≠ .no then whileN t body (Classical.choose h) ρ μ else .no
theorem whileN_mono {t : Mo Bool} {body : Mo Fl} : ∀ {n : Nat} {ρ : Env} {μ : Sto}, whileN t body n ρ μ ≠ .no → whileN t body (n + 1) ρ μ = whileN t body n ρ μ
  | 0, _, _, h => (h rfl).elim
  | n + 1, ρ, μ, h => by
    have e1 : ∀ m, whileN t body (m + 1) ρ μ = bnd t (fun b => if b then bnd body fun fl => match fl with
        | .nx => whileN t body m
        | .ct => whileN t body m
        | .bk => ret .nx
        | .rt v => ret (.rt v)
        | .ro v => ret (.ro v) else ret .nx) ρ μ := fun _ => rfl
    rw [e1] at h
    rw [e1, e1]
    unfold bnd at h ⊢
    cases e : t ρ μ with
    | no => rfl
    | ex c ns ds ρ1 μ1 => rfl
    | ok b ρ1 μ1 =>
      simp only [e] at h ⊢
      cases b with
      | false => rfl
      | true =>
        simp only [if_true] at h ⊢
        cases e2 : body ρ1 μ1 with
        | no => rfl
        | ex c ns ds ρ2 μ2 => rfl
        | ok fl ρ2 μ2 =>
          simp only [e2] at h ⊢
          cases fl with
          | nx => exact whileN_mono h
          | ct => exact whileN_mono h
          | bk => rfl
          | rt v => rfl
          | ro v => rfl
theorem whileN_le {t : Mo Bool} {body : Mo Fl} {n : Nat} {ρ : Env} {μ : Sto} (h : whileN t body n ρ μ ≠ .no) : ∀ k, whileN t body (n + k) ρ μ = whileN t body n ρ μ
  | 0 => rfl
  | k + 1 => by
    have ih := whileN_le h k
    rw [← Nat.add_assoc, whileN_mono (by rw [ih]; exact h), ih]
theorem whileM_of {t : Mo Bool} {body : Mo Fl} {n : Nat} {ρ : Env} {μ : Sto} {r : O Fl} (h : whileN t body n ρ μ = r) (hr : r ≠ .no) : whileM t body ρ μ = r := by
  have hn : whileN t body n ρ μ ≠ .no := by rw [h]; exact hr
  have he : ∃ n, whileN t body n ρ μ ≠ .no := ⟨n, hn⟩
  unfold whileM
  rw [dif_pos he]
  have hc := Classical.choose_spec he
  rcases Nat.le_total n (Classical.choose he) with q | q
  · obtain ⟨k, e⟩ := Nat.exists_eq_add_of_le q
    rw [e, whileN_le hn k, h]
  · obtain ⟨k, e⟩ := Nat.exists_eq_add_of_le q
    rw [← whileN_le hc k, ← e, h]
theorem ds_while {test : Expr} {body : List Stmt} {n : Nat} (cn : Cn Φ X n) (ht : DT Φ X test ft) (hb : DSs Φ X body fs) : DS Φ X (.While test body [] pos) (whileM ft fs) := PS.imp (ps_while cn.po ht hb) fun D σ H ⟨ρ, μ, C, os, R, z⟩ => by
  unfold whileM at z
  split at z
  · rename_i h
    refine ⟨fun m σ H => ∃ ρ μ C os, Rl Φ X ρ μ C os σ H ∧ PostS Φ X C os H (whileN ft fs m ρ μ) D, ⟨_, ρ, μ, C, os, R, z⟩, ?_⟩
    rintro m σ1 H1 ⟨ρ1, μ1, C1, os1, R1, z1⟩
    cases m with
    | zero => exact z1.elim
    | succ m =>
      refine ⟨ρ1, μ1, C1, os1, R1, PostS.bndT (f := ft) z1 fun b ρ2 μ2 H2 C2 os2 R2 S2 z2 => ?_⟩
      cases b with
      | false => exact (if_neg Bool.false_ne_true).mpr (retS R2 z2)
      | true =>
        refine (if_pos rfl).mpr ⟨fun σ' H' => ∃ ρ μ C os, Rl Φ X ρ μ C os σ' H' ∧ PostS Φ X C os H' (whileN ft fs m ρ μ) D, fun σ' H' h => ⟨m, Nat.lt_succ_self m, h⟩, ρ2, μ2, C2, os2, R2, ?_⟩
        have z2 : PostS Φ X C2 os2 H2 (bnd fs (fun fl => match fl with
          | .nx => whileN ft fs m
          | .ct => whileN ft fs m
          | .bk => ret .nx
          | .rt v => ret (.rt v)
          | .ro v => ret (.ro v)) ρ2 μ2) D := z2
        unfold bnd at z2
        cases e2 : fs ρ2 μ2 with
        | no => rw [e2] at z2; exact z2
        | ex c ns es ρ5 μ5 => rw [e2] at z2; exact z2
        | ok fl ρ5 μ5 =>
          rw [e2] at z2
          intro σ5 H5 C5 os5 R5 S5
          cases fl with
          | nx => exact ⟨ρ5, μ5, C5, os5, R5, PostS.from S5 z2⟩
          | ct => exact ⟨ρ5, μ5, C5, os5, R5, PostS.from S5 z2⟩
          | bk => exact z2 σ5 H5 C5 os5 R5 S5
          | rt d => exact z2 σ5 H5 C5 os5 R5 S5
          | ro d => exact z2 σ5 H5 C5 os5 R5 S5
  · exact z.elim

/-! ### comprehensions: the block's own names are wiped -/
def Ctx.nx (Φ : Ctx) : Ctx := { Φ with W := fun _ _ _ _ => False }
def wipD (ρ : Env) : List Nat → Env
  | [] => ρ
  | v :: vs => (wipD ρ vs).set v none
def shO : Option (Option Ent) → Option Ent
  | some (some (.sh d)) => some (.sh d)
  | _ => none
/-- behind the block: the wiped names as they were, if shared -/
def resD (ρ0 ρ : Env) : List Nat → Env
  | [] => ρ
  | v :: vs => (resD ρ0 ρ vs).set v (shO ρ0[v]?)
theorem wip_len (ρ : Env) : ∀ vs, (wipD ρ vs).length = ρ.length
  | [] => rfl
  | v :: vs => by unfold wipD; rw [List.length_set, wip_len ρ vs]
theorem res_len (ρ0 ρ : Env) : ∀ vs, (resD ρ0 ρ vs).length = ρ.length
  | [] => rfl
  | v :: vs => by unfold resD; rw [List.length_set, res_len ρ0 ρ vs]
theorem wip_some {ρ : Env} {i : Nat} {t : Ent} : ∀ {vs : List Nat}, (wipD ρ vs)[i]? = some (some t) → ρ[i]? = some (some t) ∧ i ∉ vs
  | [], h => ⟨h, by simp⟩
  | v :: vs, h => by
    unfold wipD at h
    by_cases hi : v = i
    · subst hi
      by_cases hv : v < (wipD ρ vs).length
      · rw [List.getElem?_set_self hv] at h; cases h
      · rw [List.getElem?_eq_none (by simpa using hv)] at h; cases h
    · rw [List.getElem?_set_ne hi] at h
      obtain ⟨h1, h2⟩ := wip_some h
      exact ⟨h1, by simp only [List.mem_cons, not_or]; exact ⟨fun e => hi e.symm, h2⟩⟩
theorem wipe_out' {σ : L2.St} {i : Nat} : ∀ {vs : List Nat}, i ∉ vs → (wipe σ vs)[i]? = σ[i]?
  | [], _ => rfl
  | v :: vs, h => by
    unfold wipe
    simp only [List.mem_cons, not_or] at h
    rw [List.getElem?_set_ne (Ne.symm h.1)]
    exact wipe_out' h.2
theorem wipe_in {σ : L2.St} {i : Nat} : ∀ {vs : List Nat}, i ∈ vs → i < σ.length → (wipe σ vs)[i]? = some none
  | [], h, _ => by cases h
  | v :: vs, h, hl => by
    unfold wipe
    by_cases hv : v = i
    · subst hv
      rw [List.getElem?_set_self (by rw [wipe_length]; exact hl)]
    · rw [List.getElem?_set_ne hv]
      rcases List.mem_cons.mp h with z | z
      · exact (hv z.symm).elim
      · exact wipe_in z hl
theorem wipe_set {σ : L2.St} {i : Nat} {v : Option V} {vs : List Nat} (h : i ∈ vs) : wipe (σ.set i v) vs = wipe σ vs := by
  apply List.ext_getElem?
  intro j
  by_cases hj : j ∈ vs
  · by_cases hl : j < σ.length
    · rw [wipe_in hj (by rw [List.length_set]; exact hl), wipe_in hj hl]
    · rw [List.getElem?_eq_none (by rw [wipe_length, List.length_set]; omega), List.getElem?_eq_none (by rw [wipe_length]; omega)]
  · rw [wipe_out' hj, wipe_out' hj, List.getElem?_set_ne (fun e => hj (by rw [← e]; exact h))]
theorem wipe_wipe (σ : L2.St) (vs : List Nat) : wipe (wipe σ vs) vs = wipe σ vs := by
  apply List.ext_getElem?
  intro j
  by_cases hj : j ∈ vs
  · by_cases hl : j < σ.length
    · rw [wipe_in hj (by rw [wipe_length]; exact hl), wipe_in hj hl]
    · rw [List.getElem?_eq_none (by rw [wipe_length, wipe_length]; omega), List.getElem?_eq_none (by rw [wipe_length]; omega)]
  · rw [wipe_out' hj]
theorem Rl.wipe {ρ : Env} {μ : Sto} {C : List Addr} {os : Os} {σ : L2.St} {H : Hp} (R : Rl Φ X ρ μ C os σ H) (vs : List Nat) : Rl Φ X (wipD ρ vs) μ C os (L2.wipe σ vs) H where
  len := by rw [wip_len, wipe_length]; exact R.len
  env := fun i t h => by
    obtain ⟨h1, h2⟩ := wip_some h
    obtain ⟨v, h3, h4⟩ := R.env i t h1
    exact ⟨v, by rw [wipe_out' h2]; exact h3, h4⟩
  sto := R.sto
  own := R.own
  fre := R.fre
  pre := R.pre
  cfr := R.cfr
  cnd := R.cnd
  clv := R.clv
  frm := R.frm
  alv := R.alv
theorem res_some {ρ0 ρ : Env} {i : Nat} {t : Ent} : ∀ {vs : List Nat}, (resD ρ0 ρ vs)[i]? = some (some t) → (i ∈ vs ∧ ∃ d, t = .sh d ∧ ρ0[i]? = some (some (.sh d))) ∨ (i ∉ vs ∧ ρ[i]? = some (some t))
  | [], h => .inr ⟨by simp, h⟩
  | v :: vs, h => by
    unfold resD at h
    by_cases hi : v = i
    · subst hi
      by_cases hv : v < (resD ρ0 ρ vs).length
      · rw [List.getElem?_set_self hv] at h
        have h := Option.some.inj h
        unfold shO at h
        split at h
        · rename_i d e
          cases h
          exact .inl ⟨List.mem_cons_self, d, rfl, e⟩
        · cases h
      · rw [List.getElem?_eq_none (by simpa using hv)] at h; cases h
    · rw [List.getElem?_set_ne hi] at h
      rcases res_some h with ⟨h1, h2⟩ | ⟨h1, h2⟩
      · exact .inl ⟨List.mem_cons_of_mem _ h1, h2⟩
      · exact .inr ⟨by simp only [List.mem_cons, not_or]; exact ⟨fun e => hi e.symm, h1⟩, h2⟩
/-- the block is left -/
theorem Rl.unwipe {ρ0 ρ : Env} {μ0 μ : Sto} {C0 C : List Addr} {os0 os : Os} {σ : L2.St} {H0 H : Hp} {vs : List Nat} (R0 : Rl Φ X ρ0 μ0 C0 os0 σ H0) (S : Stp (rc Φ X C0 os0 H0) (rc Φ X C os H)) (R : Rl Φ X ρ μ C os (L2.wipe σ vs) H) :
    Rl Φ X (resD ρ0 ρ vs) μ C os σ H where
  len := by rw [res_len, R.len, wipe_length]
  env := fun i t h => by
    rcases res_some h with ⟨h1, d, rfl, h2⟩ | ⟨h1, h2⟩
    · obtain ⟨v, h3, h4⟩ := R0.env i _ h2
      exact ⟨v, h3, Rep.step S h4⟩
    · obtain ⟨v, h3, h4⟩ := R.env i t h2
      exact ⟨v, by rw [wipe_out' h1] at h3; exact h3, h4⟩
  sto := R.sto
  own := R.own
  fre := R.fre
  pre := R.pre
  cfr := R.cfr
  cnd := R.cnd
  clv := R.clv
  frm := R.frm
  alv := R.alv
theorem Rl.wW {Φ : Ctx} {K : PySem.W.Frag} {mg : Str → Option Value} {ρ : Env} {μ : Sto} {C : List Addr} {os : Os} {σ : L2.St} {H : Hp} (R : RlK Φ K mg ρ μ C os σ H) (w : WX) : RlK { Φ with W := w } K mg ρ μ C os σ H :=
  ⟨R.len, fun i t h => by
    obtain ⟨v, h1, h2⟩ := R.env i t h
    refine ⟨v, h1, ?_⟩
    cases t with
    | sh d => exact h2
    | ow d => exact h2
    | bd c ns ds => exact h2
    | eh c ns ds => exact h2, R.sto, R.own, R.fre, R.pre, R.cfr, R.cnd, R.clv, R.frm, R.alv⟩
theorem Rl.unW {Φ : Ctx} {K : PySem.W.Frag} {mg : Str → Option Value} {ρ : Env} {μ : Sto} {C : List Addr} {os : Os} {σ : L2.St} {H : Hp} {w : WX} (R : RlK { Φ with W := w } K mg ρ μ C os σ H) : RlK Φ K mg ρ μ C os σ H := Rl.wW R Φ.W
end
end L2.DL

/-! DL10: [e for t in w if c]. -/
namespace L2.DL
open PySem PySem.Spec PyProof.Rows
section
variable {Φ : Ctx} {X : Cx} {a b c e : Expr} {f g k : Mo D} {pos : Pos} {ft : Mo Bool}
/-! ### targets that store block names alone -/
def PostGp (Φ : Ctx) (X : Cx) (vs : List Nat) (σ : L2.St) (C : List Addr) (os : Os) (H : Hp) (o : O Unit) (Q : L2.St → Hp → Prop) : Prop := match o with
  | .ok _ ρ' μ' => ∀ σ' H' C' os', Rl Φ X ρ' μ' C' os' σ' H' → Stp (rc Φ X C os H) (rc Φ X C' os' H') → wipe σ' vs = wipe σ vs → Q σ' H'
  | _ => False
def cGp (U : Vr) (Φ : Ctx) (X : Cx) (vs : List Nat) (g : D → Mo Unit) : TG := fun v σ H Q => ∃ ρ μ C os d, Rl Φ X ρ μ C os σ H ∧ U (rc Φ X C os H) v d ∧ PostGp Φ X vs σ C os H (g d ρ μ) Q
def cGsp (Φ : Ctx) (X : Cx) (vs : List Nat) (g : List D → Mo Unit) : TGs := fun ws σ H Q => ∃ ρ μ C os ds, Rl Φ X ρ μ C os σ H ∧ Reps (rc Φ X C os H) ws ds ∧ PostGp Φ X vs σ C os H (g ds ρ μ) Q
def DGp (U : Vr) (Φ : Ctx) (X : Cx) (vs : List Nat) (tg : Expr) (g : D → Mo Unit) : Prop := PG X tg (cGp U Φ X vs g)
def DGsp (Φ : Ctx) (X : Cx) (vs : List Nat) (tgs : List Expr) (g : List D → Mo Unit) : Prop := PGs X tgs (cGsp Φ X vs g)
variable {vs : List Nat}
theorem dgp_name {i : Nat} {x : Str} (hN : X.N.Nodup) (hm : i ∈ vs := by decide) (hi : X.N[i]? = some x := by rfl) (hx : Loc X.env.scope x := by first | exact Or.inl rfl | exact Or.inr rfl)
    (hf : X.fn x = true ∨ X.env.scope.names.lookup x = some .local := by first | exact .inl rfl | exact .inr rfl) : DGp Rep Φ X vs (.Name x pos) (tgN i) :=
  PG.imp (pg_name hN hi hx hf) fun v σ H Q ⟨ρ, μ, C, os, d, R, q, z⟩ => z _ _ C os (R.setv (t := .sh d) q) (Stp.refl _) (wipe_set hm)
theorem dgsp_nil : DGsp Φ X vs [] tgNil := PGs.imp pgs_nil fun ws σ H Q ⟨ρ, μ, C, os, ds, R, q, z⟩ => by
  cases q with
  | nil => exact ⟨rfl, z _ _ C os R (Stp.refl _) rfl⟩
  | cons h t => exact z.elim
theorem dgsp_cons {e : Expr} {es : List Expr} {g : D → Mo Unit} {gs : List D → Mo Unit} (h1 : DGp Rep Φ X vs e g) (h2 : DGsp Φ X vs es gs) (hs : (assignEach (e :: es) X.env).map (·.2) = assign e X.env :: (assignEach es X.env).map (·.2) := by rfl) : DGsp Φ X vs (e :: es) (tgCons g gs) :=
  PGs.imp (pgs_cons h1 h2 hs) fun ws σ H Q ⟨ρ, μ, C, os, ds, R, q, z⟩ => by
    cases q with
    | nil => exact z.elim
    | @cons v d ws ds h t =>
      refine ⟨v, ws, rfl, ρ, μ, C, os, d, R, h, ?_⟩
      have z : PostGp Φ X vs σ C os H (bnd (g d) (fun _ => gs ds) ρ μ) Q := z
      unfold bnd at z
      cases e1 : g d ρ μ with
      | no => rw [e1] at z; exact z.elim
      | ex c ns ds ρ1 μ1 => rw [e1] at z; exact z.elim
      | ok u ρ1 μ1 =>
        rw [e1] at z
        intro σ1 H1 C1 os1 R1 S1 w1
        refine ⟨ρ1, μ1, C1, os1, ds, R1, t.step S1, ?_⟩
        cases e2 : gs ds ρ1 μ1 with
        | no => simp only [e2] at z; exact z.elim
        | ex c ns ds ρ1 μ1 => simp only [e2] at z; exact z.elim
        | ok u ρ2 μ2 =>
          simp only [e2] at z
          exact fun σ' H' C' os' R2 S2 w2 => z σ' H' C' os' R2 (S1.trans S2) (w2.trans w1)
theorem dgp_tup {es : List Expr} {n : Nat} {m : Nat} {gs : List D → Mo Unit} (hc : X.calm = true) (h : DGsp Φ X vs es gs) (hn : (assignEach es X.env).length = n := by rfl) (hst : (assignEach es X.env).findIdx? (·.1) = none := by rfl) :
    DGp RepU Φ X vs (.Tuple es m pos) (tgT n gs) := PG.imp (pg_tup hc h hn hst) fun v σ H Q ⟨ρ, μ, C, os, d, R, q, z⟩ => by
  have fin : ∀ {a : Addr} {ws : List V} {ds : List D}, SqT X.K H a ws → Reps (rc Φ X C os H) ws ds → PostGp Φ X vs σ C os H ((if ds.length = n then gs ds else no) ρ μ) Q → gTup X.K n (cGsp Φ X vs gs) (.ref a) σ H Q := fun {a ws ds} hT qs z => by
    by_cases hl : ds.length = n
    · rw [if_pos hl] at z
      exact ⟨a, ws, rfl, hT, by rw [qs.length]; exact hl, ρ, μ, C, os, ds, R, qs, z⟩
    · rw [if_neg hl] at z
      exact z.elim
  rcases q with q | ⟨a, ws, ds, rfl, rfl, hH, _, qs⟩
  · cases q with
    | @tup a ws ds hT qs => exact fin hT.sq qs z
    | _ => exact z.elim
  · exact fin (.of hH) qs z
theorem DGp.rep {tg : Expr} {g : D → Mo Unit} (h : DGp RepU Φ X vs tg g) : DGp Rep Φ X vs tg g := PG.imp h fun v σ H Q ⟨ρ, μ, C, os, d, R, q, z⟩ => ⟨ρ, μ, C, os, d, R, .inl q, z⟩

/-! ### the tests of a clause -/
def DTs (Φ : Ctx) (X : Cx) (es : List Expr) (f : Mo Bool) : Prop := PTs X es (cT Φ X f)
theorem dts_nil : DTs Φ X [] (ret true) := ⟨fun pins s σ H Q I ⟨ρ, μ, C, os, R, z⟩ => pts_nil.run pins s σ H Q I (retT R z)⟩
theorem dts_one (h : DT Φ X c ft) : DTs Φ X [c] ft := pts_one h

/-- a thing under way is let go -/
theorem Rl.rel {ρ : Env} {μ : Sto} {C : List Addr} {os : Os} {σ : L2.St} {H : Hp} {p : Addr} (R : Rl Φ X ρ μ C os σ H) (hm : (none, p) ∈ os) : Rl Φ X ρ μ C (noA p os) σ H ∧ Stq (rc Φ X C os H) (rc Φ X C (noA p os) H) := by
  have keep : ∀ {j : Nat} {b : Addr}, (some j, b) ∈ os → (some j, b) ∈ noA p os := fun {j b} z => mem_noA.mpr ⟨z, fun e => by
    have q := R.own (some j) none p (e ▸ z) hm
    cases q⟩
  have S : Stq (rc Φ X C os H) (rc Φ X C (noA p os) H) := ⟨rfl, rfl, fun b z => by
    rcases z with z | z | ⟨j, z⟩
    · exact .inl (.inl z)
    · exact .inl (.inr (.inl z))
    · exact .inl (.inr (.inr ⟨j, (mem_noA.mp z).1⟩)), ⟨[], by simp [rcK]⟩, fun b o z _ => z⟩
  have own : ∀ {a : Addr} {d : D}, OwnR (rc Φ X C os H) a d → OwnR (rc Φ X C (noA p os) H) a d := fun {a d} h => by
    cases d with
    | lst ds => obtain ⟨vs, e, q⟩ := h; exact ⟨vs, e, q.stq S⟩
    | dct ks ds => obtain ⟨kvs, e, e2, q⟩ := h; exact ⟨kvs, e, e2, q.stq S⟩
    | _ => exact h.elim
  have bd : ∀ {a : Addr} {c : Str} {ns : List Str} {ds : List D}, BdR (rc Φ X C os H) a c ns ds → BdR (rc Φ X C (noA p os) H) a c ns ds := fun ⟨Cc, dx, fs, h, m, e, q⟩ => ⟨Cc, dx, fs, h, m, e, q.stq S⟩
  refine ⟨⟨R.len, fun i t h => ?_, ⟨R.sto.1, fun n b c h1 h2 => ?_⟩, fun i j b z1 z2 => R.own i j b (mem_noA.mp z1).1 (mem_noA.mp z2).1, fun i b z => R.fre i b (mem_noA.mp z).1, R.pre, R.cfr, R.cnd, R.clv, R.frm, R.alv⟩, S⟩
  · obtain ⟨v, h1, h2⟩ := R.env i t h
    refine ⟨v, h1, ?_⟩
    cases t with
    | sh d => exact Rep.stq S h2
    | ow d =>
      obtain ⟨b, e1, e2, e3⟩ := h2
      exact ⟨b, e1, keep e2, own e3⟩
    | bd c ns ds =>
      obtain ⟨b, e1, e2, e3⟩ := h2
      exact ⟨b, e1, keep e2, bd e3⟩
    | eh c ns ds =>
      obtain ⟨b, dx, e1, e2, fs, e3, e4, e5, e6⟩ := h2
      exact ⟨b, dx, e1, e2, fs, e3, S.na e3 e4, e5, e6.stq S⟩
  · have h := R.sto.2 n b c h1 h2
    cases c with
    | lst ds => obtain ⟨vs, e, q⟩ := h; exact ⟨vs, e, q.stq S⟩
    | dct ks ds => obtain ⟨kvs, e, e2, q⟩ := h; exact ⟨kvs, e, e2, q.stq S⟩
    | ins c ns ds => exact bd h
    | err c ns ds => exact ErR.stq S (fun o e => e) h
/-- a thing under way is changed -/
theorem Rl.mutB {ρ : Env} {μ : Sto} {C : List Addr} {os : Os} {σ : L2.St} {H : Hp} {p : Addr} (R : Rl Φ X ρ μ C os σ H) (hm : (none, p) ∈ os) (o : HO) : Rl Φ X ρ μ C os σ (upd H p o) ∧ Stq (rc Φ X C os H) (rc Φ X C os (upd H p o)) := by
  obtain ⟨f1, f2, f3, o0, h0⟩ := R.fre _ p hm
  have ne : ∀ {b : Addr} {u : HO}, b ≠ p → H b = some u → upd H p o b = some u := fun nb z => by rw [upd_ne nb]; exact z
  have S : Stq (rc Φ X C os H) (rc Φ X C os (upd H p o)) := ⟨rfl, rfl, fun b z => .inl z, ⟨[], by simp [rcK]⟩, fun b u z n => ne (fun e => n (by rw [e]; exact .inr (.inr ⟨_, hm⟩))) z⟩
  have live : ∀ b u, H b = some u → ∃ u', upd H p o b = some u' := fun b u z => by
    by_cases hb : b = p
    · exact ⟨o, by rw [hb]; exact upd_same⟩
    · exact ⟨u, ne hb z⟩
  have nos : ∀ {j : Nat} {b : Addr}, (some j, b) ∈ os → b ≠ p := fun z e => by
    have q := R.own (some _) none p (e ▸ z) hm
    cases q
  have own : ∀ {a : Addr} {d : D}, a ≠ p → OwnR (rc Φ X C os H) a d → OwnR (rc Φ X C os (upd H p o)) a d := fun {a d} na h => by
    cases d with
    | lst ds => obtain ⟨vs, e, q⟩ := h; exact ⟨vs, ne na e, q.stq S⟩
    | dct ks ds => obtain ⟨kvs, e, e2, q⟩ := h; exact ⟨kvs, ne na e, e2, q.stq S⟩
    | _ => exact h.elim
  have bd : ∀ {a : Addr} {c : Str} {ns : List Str} {ds : List D}, a ≠ p → BdR (rc Φ X C os H) a c ns ds → BdR (rc Φ X C os (upd H p o)) a c ns ds := fun na ⟨Cc, dx, fs, h, m, e, q⟩ => ⟨Cc, dx, fs, ne na h, m, e, q.stq S⟩
  refine ⟨⟨R.len, fun i t h => ?_, ⟨R.sto.1, fun n b c h1 h2 => ?_⟩, R.own, fun i b z => ?_, R.pre, R.cfr, R.cnd, fun b z => let ⟨u, e⟩ := R.clv b z; live b u e, fun b u h1 h2 h3 => ?_, fun b z => let ⟨u, e⟩ := R.alv b z; live b u e⟩, S⟩
  · obtain ⟨v, h1, h2⟩ := R.env i t h
    refine ⟨v, h1, ?_⟩
    cases t with
    | sh d => exact Rep.stq S h2
    | ow d =>
      obtain ⟨b, e1, e2, e3⟩ := h2
      exact ⟨b, e1, e2, own (nos e2) e3⟩
    | bd c ns ds =>
      obtain ⟨b, e1, e2, e3⟩ := h2
      exact ⟨b, e1, e2, bd (nos e2) e3⟩
    | eh c ns ds =>
      obtain ⟨b, dx, e1, e2, fs, e3, e4, e5, e6⟩ := h2
      exact ⟨b, dx, e1, e2, fs, S.h _ _ e3 e4, S.na e3 e4, e5, e6.stq S⟩
  · have h := R.sto.2 n b c h1 h2
    have na : b ≠ p := fun e => f2 (e ▸ List.mem_of_getElem? h1)
    cases c with
    | lst ds => obtain ⟨vs, e, q⟩ := h; exact ⟨vs, ne na e, q.stq S⟩
    | dct ks ds => obtain ⟨kvs, e, e2, q⟩ := h; exact ⟨kvs, ne na e, e2, q.stq S⟩
    | ins c ns ds => exact bd na h
    | err c ns ds => exact ErR.stq S (fun o e => ne na e) h
  · obtain ⟨h1, h2, h3, u, h4⟩ := R.fre i b z
    exact ⟨h1, h2, h3, live b u h4⟩
  · refine ne (fun e => ?_) (R.frm b u h1 h2 h3)
    subst e
    rcases f1 with z | z
    · rw [h1] at z; cases z
    · exact h3 z

/-! ### the rule -/
/-- item by item; acc: what has been kept -/
def lcGo (own : List Nat) (gt : D → Mo Unit) (ft : Mo Bool) (fe : Mo D) : List D → List D → Mo (List D)
  | [], acc => ret acc
  | d :: ds, acc => fun ρ μ => match gt d ρ μ with
    | .ok _ ρ1 μ1 => match ft ρ1 μ1 with
      | .ok true ρ2 μ2 => match fe ρ2 μ2 with
        | .ok v ρ3 μ3 => if acc.length < lineN then lcGo own gt ft fe ds (acc ++ [v]) (wipD ρ3 own) μ3 else .no
        | _ => .no
      | .ok false ρ2 μ2 => lcGo own gt ft fe ds acc (wipD ρ2 own) μ2
      | _ => .no
    | _ => .no
def lcAll (own : List Nat) (gt : D → Mo Unit) (ft : Mo Bool) (fe : Mo D) (ds : List D) : Mo D := fun ρ μ => match lcGo own gt ft fe ds [] (wipD ρ own) μ with
  | .ok vs ρ' μ' => .ok (.lst vs) (resD ρ ρ' own) μ'
  | _ => .no
def lcM (own : List Nat) (fi : Mo (List D)) (gt : D → Mo Unit) (ft : Mo Bool) (fe : Mo D) : Mo D := bnd fi fun ds => lcAll own gt ft fe ds
/-- what holds of the list at p behind a block -/
def LcEnd (Φ : Ctx) (X : Cx) (own : List Nat) (σ : L2.St) (r1 : RC) (p : Addr) (K : List D → Env → Sto → List V → Hp → List Addr → Os → Prop) (o : O (List D)) : Prop := match o with
  | .ok vs ρ' μ' => ∀ accV H' C' os', Rl Φ X ρ' μ' C' os' (wipe σ own) H' → (none, p) ∈ os' → H' p = some (.lst accV) → Reps (rc Φ X C' os' H') accV vs → Stp r1 (rc Φ X C' os' H') → K vs ρ' μ' accV H' C' os'
  | _ => False
theorem stp_mutB {r1 : RC} {C : List Addr} {os : Os} {H : Hp} {p : Addr} (S : Stp r1 (rc Φ X C os H)) (hp : r1.H p = none) (o : HO) : Stp r1 (rc Φ X C os (upd H p o)) := by
  have ne : ∀ {b : Addr} {u w : HO}, r1.H b = some w → H b = some u → upd H p o b = some u := fun {b u w} h z => by
    rw [upd_ne (fun e => by rw [e, hp] at h; cases h)]
    exact z
  exact ⟨S.k, S.g, S.a, S.c, fun b u h n => ne h (S.h b u h n), fun b u h => let ⟨u', e⟩ := S.l b u h; ⟨u', ne h e⟩, S.m, fun b u h n => ne h (S.n b u h n)⟩
theorem lc_run {U : Vr} {own : List Nat} {gt : D → Mo Unit} {ft : Mo Bool} {fe : Mo D} {g : TG} {tt : TT} {te : TE} {σ : L2.St} {H1 : Hp} {C1 : List Addr} {os1 : Os} {ρ1 : Env} {μ1 : Sto} {J : It} {ds : List D} {p : Addr} {Qd : Hp → Prop}
    (hg : g = cGp U Φ.nx X own gt) (ht : tt = cT Φ.nx X ft) (he : te = cE Φ.nx X fe) (R1 : Rl Φ X ρ1 μ1 C1 os1 σ H1) (hJ : ItOk U J (rc Φ X C1 os1 H1) ds) (hp : H1 p = none)
    (z : LcEnd Φ X own σ (rc Φ X C1 os1 H1) p (fun vs ρ' μ' accV H' C' os' => Qd H') (lcGo own gt ft fe ds [] (wipD ρ1 own) μ1)) :
    ∃ W : Nat → Nat → Hp → Prop, (∃ m, W 0 m (upd H1 p (.lst []))) ∧ ∀ i m H, W i m H →
      (J.stop i H ∧ Qd H) ∨ (J.go i H ∧ ∃ Nx : Hp → Prop, (∀ H', Nx H' → ∃ m', m' < m ∧ W (i + 1) m' H') ∧ ∀ x H', J.yld i H x H' → g x (wipe σ own) H' fun σ2 H2 => wipe σ2 own = wipe σ own ∧ tt σ2 H2 fun b H3 =>
        if b = true then te σ2 H3 fun y H4 => ∃ acc, H4 p = some (.lst acc) ∧ acc.length < sizeLine ∧ Nx (upd H4 p (.lst (acc ++ [y]))) else Nx H3) := by
  subst hg ht he
  let r1 := rc Φ X C1 os1 H1
  let W : Nat → Nat → Hp → Prop := fun i m H => m = ds.length - i ∧ i ≤ ds.length ∧ ∃ ρ μ C os acc accV, Rl Φ X ρ μ C os (wipe σ own) H ∧ (none, p) ∈ os ∧ H p = some (.lst accV) ∧ Reps (rc Φ X C os H) accV acc ∧ Stp r1 (rc Φ X C os H) ∧
    LcEnd Φ X own σ r1 p (fun vs ρ' μ' accV H' C' os' => Qd H') (lcGo own gt ft fe (ds.drop i) acc ρ μ)
  refine ⟨W, ⟨ds.length, rfl, Nat.zero_le _, wipD ρ1 own, μ1, C1, (none, p) :: os1, [], [], (R1.add none hp).wipe own, List.mem_cons_self, upd_same, .nil, stp_add hp, z⟩, ?_⟩
  rintro i m H ⟨rfl, hi, ρ, μ, C, os, acc, accV, R, hm, hH, qa, S, z⟩
  by_cases hlt : i < ds.length
  · refine .inr ⟨hJ.go i _ S.q hlt, fun H' => W (i + 1) (ds.length - (i + 1)) H', fun H' h => ⟨ds.length - (i + 1), by omega, h⟩, fun x H2 hy => ?_⟩
    obtain ⟨gr, rep⟩ := hJ.yl i _ x H2 ds[i] S.q R.fr (List.getElem?_eq_getElem hlt) hy
    have R2 : Rl Φ X ρ μ C os (wipe σ own) H2 := R.grow gr
    have S2 : Stp (rc Φ X C os H) (rc Φ X C os H2) := stp_grow gr
    rw [List.drop_eq_getElem_cons hlt] at z
    unfold lcGo at z
    refine ⟨ρ, μ, C, os, ds[i], Rl.wW R2 _, rep, ?_⟩
    cases e1 : gt ds[i] ρ μ with
    | no => simp only [e1] at z; exact z.elim
    | ex c ns es ρ3 μ3 => simp only [e1] at z; exact z.elim
    | ok u ρ3 μ3 =>
      simp only [e1] at z
      intro σ3 H3 C3 os3 R3 S3 hw
      have hw : wipe σ3 own = wipe σ own := by rw [hw, wipe_wipe]
      refine ⟨hw, ρ3, μ3, C3, os3, R3, ?_⟩
      cases e2 : ft ρ3 μ3 with
      | no => simp only [e2] at z; exact z.elim
      | ex c ns es ρ4 μ4 => simp only [e2] at z; exact z.elim
      | ok b ρ4 μ4 =>
        intro H4 C4 os4 R4 S4
        have T4 : Stp (rc Φ X C os H) (rc Φ X C4 os4 H4) := (S2.trans S3).trans S4
        cases b with
        | false =>
          simp only [e2] at z
          refine (if_neg Bool.false_ne_true).mpr ⟨rfl, hlt, wipD ρ4 own, μ4, C4, os4, acc, accV, ?_, T4.m p hm, T4.n p _ hH hm, qa.step T4, S.trans T4, z⟩
          have q := Rl.wipe (Φ := Φ) (X := X) (Rl.unW R4) own
          rw [hw] at q
          exact q
        | true =>
          simp only [e2] at z
          refine (if_pos rfl).mpr ⟨ρ4, μ4, C4, os4, R4, ?_⟩
          cases e3 : fe ρ4 μ4 with
          | no => simp only [e3] at z; exact z.elim
          | ex c ns es ρ5 μ5 => simp only [e3] at z; exact z.elim
          | ok v ρ5 μ5 =>
            simp only [e3] at z
            intro y H5 C5 os5 R5 S5 q5
            have T5 : Stp (rc Φ X C os H) (rc Φ X C5 os5 H5) := T4.trans S5
            have q6 := qa.step T5
            split at z
            · rename_i hl
              have R6 := Rl.wipe (Φ := Φ) (X := X) (Rl.unW R5) own
              rw [hw] at R6
              obtain ⟨R7, S7⟩ := R6.mutB (T5.m p hm) (.lst (accV ++ [y]))
              exact ⟨accV, T5.n p _ hH hm, by rw [q6.length, line_eq]; exact hl, rfl, hlt, wipD ρ5 own, μ5, C5, os5, acc ++ [v], accV ++ [y], R7, T5.m p hm, upd_same, (q6.append (.one q5)).stq S7, stp_mutB (S.trans T5) hp _, z⟩
            · exact z.elim
  · have ei : i = ds.length := by omega
    subst ei
    rw [List.drop_length] at z
    exact .inl ⟨hJ.st _ S.q, z accV H C os R hm hH qa S⟩
/-- behind the block: the list is given out -/
theorem lc_out {own : List Nat} {σ : L2.St} {H1 H : Hp} {C1 C : List Addr} {os1 os : Os} {ρ1 ρ : Env} {μ1 μ : Sto} {p : Addr} {accV : List V} {vs : List D} (R1 : Rl Φ X ρ1 μ1 C1 os1 σ H1) (hp : H1 p = none) (R : Rl Φ X ρ μ C os (wipe σ own) H) (hm : (none, p) ∈ os)
    (hH : H p = some (.lst accV)) (qa : Reps (rc Φ X C os H) accV vs) (S : Stp (rc Φ X C1 os1 H1) (rc Φ X C os H)) :
    Rl Φ X (resD ρ1 ρ own) μ C (noA p os) σ H ∧ Stp (rc Φ X C1 os1 H1) (rc Φ X C (noA p os) H) ∧ Rep (rc Φ X C (noA p os) H) (.ref p) (.lst vs) := by
  obtain ⟨R2, S2⟩ := R.rel hm
  have S3 : Stp (rc Φ X C1 os1 H1) (rc Φ X C (noA p os) H) := ⟨rfl, rfl, fun b z => by
    rcases z with z | z | ⟨j, z⟩
    · exact S.a b (.inl z)
    · exact S.a b (.inr (.inl z))
    · exact S.a b (.inr (.inr ⟨j, (mem_noA.mp z).1⟩)), S.c, S.h, S.l, fun b z => mem_noA.mpr ⟨S.m b z, fun e => by
      obtain ⟨_, _, _, u, e2⟩ := R1.fre none b z
      rw [e, hp] at e2; cases e2⟩, S.n⟩
  refine ⟨R1.unwipe S3 R2, S3, .lst hH ?_ (qa.stq S2)⟩
  obtain ⟨_, h2, h3, _⟩ := R.fre none p hm
  rintro (z | z | ⟨j, z⟩)
  · exact h3 z
  · exact h2 z
  · exact (mem_noA.mp z).2 rfl
theorem lcI {U : Vr} {own : List Nat} {fi : Mo (List D)} {gt : D → Mo Unit} {ft : Mo Bool} {fe : Mo D} {σ : L2.St} {H : Hp} {Q : VK} (z : cE Φ X (lcM own fi gt ft fe) σ H Q) : tLc (cI U Φ X fi) (cGp U Φ.nx X own gt) (cT Φ.nx X ft) (cE Φ.nx X fe) own σ H Q := by
  obtain ⟨ρ, μ, C, os, R, z⟩ := z
  refine ⟨ρ, μ, C, os, R, ?_⟩
  unfold lcM bnd at z
  cases e : fi ρ μ with
  | no => rw [e] at z; exact z.elim
  | ex c ns ds ρ1 μ1 => rw [e] at z; exact z
  | ok ds ρ1 μ1 =>
    rw [e] at z
    intro J H1 C1 os1 R1 S1 hJ p hp
    have z : PostE Φ X C os σ H (lcAll own gt ft fe ds ρ1 μ1) Q := z
    have z := PostE.from S1 z
    refine lc_run (U := U) (Qd := fun H => Q (.ref p) H) rfl rfl rfl R1 hJ hp ?_
    unfold lcAll at z
    cases e2 : lcGo own gt ft fe ds [] (wipD ρ1 own) μ1 with
    | no => rw [e2] at z; exact z
    | ex c ns es ρ2 μ2 => rw [e2] at z; exact z
    | ok vs ρ2 μ2 =>
      rw [e2] at z
      intro accV H2 C2 os2 R2 hm hH qa S
      obtain ⟨R3, S3, q3⟩ := lc_out R1 hp R2 hm hH qa S
      exact z _ _ _ _ R3 S3 q3
theorem de_lc {U : Vr} {tg iter : Expr} {ifs : List Expr} {scope : Scope} {own : List (Str × Nat)} {fi : Mo (List D)} {gt : D → Mo Unit} {ft : Mo Bool} {fe : Mo D} {vs : List Nat} {n : Nat} (cn : Cn Φ X n) (ok : BlkOk X.N X.env.scope scope own) (hvs : own.map (·.2) = vs) (hi : DI U Φ X tg iter fi)
    (hg : ∀ (s : Shared) (H : Hp) (C : Addr) (cl : List (Str × Addr)) (fp : List Addr), DGp U Φ.nx (X.blk s H scope (compEnvC scope cl C X.env) fp) vs tg gt) (ht : ∀ (s : Shared) (H : Hp) (C : Addr) (cl : List (Str × Addr)) (fp : List Addr), DTs Φ.nx (X.blk s H scope (compEnvC scope cl C X.env) fp) ifs ft)
    (he : ∀ (s : Shared) (H : Hp) (C : Addr) (cl : List (Str × Addr)) (fp : List Addr), DE Φ.nx (X.blk s H scope (compEnvC scope cl C X.env) fp) e fe) (hs : ∀ x, foldedSetIterable iter X.env x = pure x := by intro _; rfl) :
    DE Φ X (.ListComp e [⟨tg, iter, ifs, 0⟩] scope pos) (lcM vs fi gt ft fe) := by
  subst hvs
  exact PE.imp (pe_lc (g := cGp U Φ.nx X (own.map fun y : Str × Nat => y.2) gt) (tt := cT Φ.nx X ft) (te := cE Φ.nx X fe) cn.calm cn.nd hi ok hg ht he hs) fun σ H Q z => lcI z
end
end L2.DL

/-! DL11: built-in functions, types and methods. -/
namespace L2.DL
open PySem PySem.Spec PyProof.Rows
/-- a built-in upon one value -/
def Cal1 (X : Cx) (r : List V → Hp → VK → Prop) (h : D → Option D) : Prop := ∀ (q : RC) (x : V) (d1 d : D) (Q : VK), q.K = X.K → q.mg = X.mg → (∀ p, q.H p = none → ¬ q.A p) → RepW q x d1 → h d1 = some d →
  (∀ v H', Grow q.H H' → Rep (q.at H') v d → Q v H') → r [x] q.H Q
/-- a built-in upon some values -/
def CalN (X : Cx) (r : List V → Hp → VK → Prop) (h : List D → Option D) : Prop := ∀ (q : RC) (xs : List V) (ds : List D) (d : D) (Q : VK), q.K = X.K → q.mg = X.mg → (∀ p, q.H p = none → ¬ q.A p) → Reps q xs ds → h ds = some d →
  (∀ v H', Grow q.H H' → Rep (q.at H') v d → Q v H') → r xs q.H Q
section
variable {Φ : Ctx} {X : Cx} {a b c e : Expr} {es : List Expr} {f g k : Mo D} {fa : Mo (List D)} {pos p apos : Pos} {x : Str} {id T : String} {r : List V → Hp → VK → Prop} {h : D → Option D} {hn : List D → Option D}
def opN (h : List D → Option D) (f : Mo (List D)) : Mo D := bnd f fun ds => lift (h ds)
theorem run_c1 (hD : Cal1 X r h) {σ : L2.St} {H : Hp} {Q : VK} (z : cE Φ X (op1 h f) σ H Q) : tCB r (tCons (cB Φ X f) tNil) σ H Q := by
  obtain ⟨ρ, μ, C, os, R, z⟩ := z
  refine ⟨ρ, μ, C, os, R, cB_bnd z fun d1 ρ1 μ1 x H1 C1 os1 R1 S1 q1 z1 => ?_⟩
  obtain ⟨d, e, k⟩ := lift_ok R1 z1
  exact hD (rc Φ X C1 os1 H1) x d1 d Q rfl rfl R1.fr q1 e k
theorem run_cN (hD : CalN X r hn) {σ : L2.St} {H : Hp} {Q : VK} (z : cE Φ X (opN hn fa) σ H Q) : tCB r (cA Φ X fa) σ H Q := by
  obtain ⟨ρ, μ, C, os, R, z⟩ := z
  refine ⟨ρ, μ, C, os, R, PostE.bndA z fun ds ρ1 μ1 vs H1 C1 os1 R1 S1 q1 z1 => ?_⟩
  obtain ⟨d, e, k⟩ := lift_ok R1 z1
  exact hD (rc Φ X C1 os1 H1) vs ds d Q rfl rfl R1.fr q1 e k
theorem de_b1 (hc : CallR X (.builtin id) r) (hD : Cal1 X r h) (hm : X.mg x = none) (hv : bootBuiltins x = some (.builtin id)) (ha : DB Φ X e f) (hg : Gl X x) (hx : x ≠ "__name__") (hdb : (x == ("__debug__" : Str)) = false)
    (he : starEach (e :: []) X.env = (false, eval e X.env) :: starEach [] X.env) (hpl : (backTo pos (starEach [] X.env)).any (·.1) = false) : DE Φ X (.Call (.Name x p) [e] [] pos) (op1 h f) :=
  PE.imp (pe_callB hc hg hm hv (pa_cons ha pa_nil he) hx hdb he hpl) fun σ H Q z => run_c1 hD z
theorem de_t1 (hc : CallR X (.type T) r) (hD : Cal1 X r h) (hm : X.mg x = none) (hv : bootBuiltins x = some (.type T)) (ha : DB Φ X e f) (hg : Gl X x) (hx : x ≠ "__name__") (hdb : (x == ("__debug__" : Str)) = false)
    (he : starEach (e :: []) X.env = (false, eval e X.env) :: starEach [] X.env) (hpl : (backTo pos (starEach [] X.env)).any (·.1) = false) : DE Φ X (.Call (.Name x p) [e] [] pos) (op1 h f) :=
  PE.imp (pe_callTy hc hg hm hv (pa_cons ha pa_nil he) hx hdb he hpl) fun σ H Q z => run_c1 hD z
theorem de_bN (hc : CallR X (.builtin id) r) (hD : CalN X r hn) (hm : X.mg x = none) (hv : bootBuiltins x = some (.builtin id)) (ha : DA Φ X (e :: es) fa) (hg : Gl X x) (hx : x ≠ "__name__") (hdb : (x == ("__debug__" : Str)) = false)
    (he : starEach (e :: es) X.env = (false, eval e X.env) :: starEach es X.env) (hpl : (backTo pos (starEach es X.env)).any (·.1) = false) : DE Φ X (.Call (.Name x p) (e :: es) [] pos) (opN hn fa) :=
  PE.imp (pe_callB hc hg hm hv ha hx hdb he hpl) fun σ H Q z => run_cN hD z

/-! ### len, abs, int, max, min, all, any, sum, list, tuple, sorted -/
def lenD : D → Option D
  | .str s => if s.length ≤ lineN then some (.int s.length) else none
  | .lst ds | .tup ds | .frz ds => some (.int ds.length)
  | .dct ks _ => some (.int ks.length)
  | _ => none
theorem cd_len : Cal1 X (fun xs H Q => (∃ x n, xs = [x] ∧ LenV X.K x H n ∧ Q (.int n) H) ∨ ∃ d kvs, xs = [.ref d] ∧ H d = some (.dK kvs) ∧ Q (.int kvs.length) H) lenD := by
  intro q x d1 d Q hK _ _ h1 e k
  cases d1 with
  | str s =>
    simp only [lenD] at e
    split at e
    · rename_i hl
      cases e
      exact .inl ⟨x, s.length, rfl, by rw [h1.str]; exact ⟨by rw [line_eq]; exact hl, rfl⟩, k _ _ (Grow.refl _) (.int _)⟩
    · cases e
  | lst ds =>
    obtain ⟨a, vs, rfl, ha, qa⟩ := h1.lst
    cases e
    exact .inl ⟨_, ds.length, rfl, .inl ⟨vs, .of ha, qa.length.symm⟩, k _ _ (Grow.refl _) (.int _)⟩
  | frz ds =>
    obtain ⟨a, vs, rfl, ha, qa⟩ := h1.frz
    cases e
    exact .inl ⟨_, ds.length, rfl, .inl ⟨vs, hK ▸ ha.sq, qa.length.symm⟩, k _ _ (Grow.refl _) (.int _)⟩
  | tup ds =>
    obtain ⟨a, vs, rfl, ha, qa⟩ := h1.tup
    cases e
    exact .inl ⟨_, ds.length, rfl, .inr ⟨vs, hK ▸ ha.sq, qa.length.symm⟩, k _ _ (Grow.refl _) (.int _)⟩
  | dct ks ds =>
    obtain ⟨a, kvs, rfl, ha, hk, qa⟩ := h1.dct
    cases e
    subst hk
    refine .inr ⟨a, kvs, rfl, ha, ?_⟩
    have w := k (.int kvs.length) _ (Grow.refl _)
    rw [List.length_map] at w
    exact w (.int _)
  | _ => cases e
theorem de_len (hm : X.mg "len" = none) (ha : DB Φ X e f) (hg : Gl X "len" := by rfl) (he : starEach (e :: []) X.env = (false, eval e X.env) :: starEach [] X.env := by rfl) (hpl : (backTo pos (starEach [] X.env)).any (·.1) = false := by rfl) :
    DE Φ X (.Call (.Name "len" p) [e] [] pos) (op1 lenD f) := de_b1 (call_len.or call_lenD) cd_len hm PySem.boot_len ha hg (by decide) (by decide) he hpl
def absD : D → Option D
  | .int i => some (.int (if i < 0 then -i else i))
  | _ => none
theorem cd_abs : Cal1 X (fun xs H Q => ∃ i, xs = [.int i] ∧ Q (.int (if i < 0 then -i else i)) H) absD := by
  intro q x d1 d Q _ _ _ h1 e k
  cases d1 <;> first
    | (cases e; exact ⟨_, by rw [h1.int], k _ _ (Grow.refl _) (.int _)⟩)
    | cases e
theorem de_abs (hm : X.mg "abs" = none) (ha : DB Φ X e f) (hg : Gl X "abs" := by rfl) (he : starEach (e :: []) X.env = (false, eval e X.env) :: starEach [] X.env := by rfl) (hpl : (backTo pos (starEach [] X.env)).any (·.1) = false := by rfl) :
    DE Φ X (.Call (.Name "abs" p) [e] [] pos) (op1 absD f) := de_b1 call_abs cd_abs hm (by decide +kernel) ha hg (by decide) (by decide) he hpl
def intD : D → Option D
  | .int i => some (.int i)
  | .bl b => some (.int (if b then 1 else 0))
  | _ => none
theorem cd_int : Cal1 X (fun xs H Q => (∃ i, xs = [.int i] ∧ Q (.int i) H) ∨ ∃ k, xs = [.bl k] ∧ Q (.int (if k then 1 else 0)) H) intD := by
  intro q x d1 d Q _ _ _ h1 e k
  cases d1 <;> first
    | (cases e; exact .inl ⟨_, by rw [h1.int], k _ _ (Grow.refl _) (.int _)⟩)
    | (cases e; exact .inr ⟨_, by rw [h1.bl], k _ _ (Grow.refl _) (.int _)⟩)
    | cases e
theorem de_int1 (hm : X.mg "int" = none) (ha : DB Φ X e f) (hg : Gl X "int" := by rfl) (he : starEach (e :: []) X.env = (false, eval e X.env) :: starEach [] X.env := by rfl) (hpl : (backTo pos (starEach [] X.env)).any (·.1) = false := by rfl) :
    DE Φ X (.Call (.Name "int" p) [e] [] pos) (op1 intD f) := de_t1 call_int1 cd_int hm (by decide +kernel) ha hg (by decide) (by decide) he hpl
def listD : D → Option D
  | .lst ds | .tup ds | .frz ds => some (.lst ds)
  | _ => none
theorem cd_list : Cal1 X (fun xs H Q => ∃ p ys, xs = [.ref p] ∧ (SqL X.K H p ys ∨ SqT X.K H p ys) ∧ ∀ l, H l = none → Q (.ref l) (upd H l (.lst ys))) listD := by
  intro q x d1 d Q hK _ hn h1 e k
  have fin : ∀ {p : Addr} {vs : List V} {ds : List D}, (SqL X.K q.H p vs ∨ SqT X.K q.H p vs) → Reps q vs ds → d = .lst ds → ∃ p' ys, [V.ref p] = [V.ref p'] ∧ (SqL X.K q.H p' ys ∨ SqT X.K q.H p' ys) ∧ ∀ l, q.H l = none → Q (.ref l) (upd q.H l (.lst ys)) := fun hs qa e => by
    subst e
    exact ⟨_, _, rfl, hs, fun l n => k _ _ (Grow.upd n) (NewR.rep (d := .lst _) ⟨_, rfl, qa⟩ n (hn l n))⟩
  cases d1 with
  | lst ds => obtain ⟨a, vs, rfl, ha, qa⟩ := h1.lst; exact fin (.inl (.of ha)) qa (Option.some.inj e).symm
  | frz ds => obtain ⟨a, vs, rfl, ha, qa⟩ := h1.frz; exact fin (.inl (hK ▸ ha.sq)) qa (Option.some.inj e).symm
  | tup ds => obtain ⟨a, vs, rfl, ha, qa⟩ := h1.tup; exact fin (.inr (hK ▸ ha.sq)) qa (Option.some.inj e).symm
  | _ => cases e
theorem de_list (hm : X.mg "list" = none) (ha : DB Φ X e f) (hg : Gl X "list" := by rfl) (he : starEach (e :: []) X.env = (false, eval e X.env) :: starEach [] X.env := by rfl) (hpl : (backTo pos (starEach [] X.env)).any (·.1) = false := by rfl) :
    DE Φ X (.Call (.Name "list" p) [e] [] pos) (op1 listD f) := de_t1 call_list_of cd_list hm (by decide +kernel) ha hg (by decide) (by decide) he hpl
def tupleD : D → Option D
  | .lst ds | .tup ds | .frz ds => some (.tup ds)
  | _ => none
theorem cd_tuple : Cal1 X (fun xs H Q => ∃ p ys, xs = [.ref p] ∧ ((SqL X.K H p ys ∧ NewT ys H Q) ∨ (SqT X.K H p ys ∧ Q (.ref p) H))) tupleD := by
  intro q x d1 d Q hK _ hn h1 e k
  cases d1 with
  | lst ds => obtain ⟨a, vs, rfl, ha, qa⟩ := h1.lst; cases e; exact ⟨a, vs, rfl, .inl ⟨.of ha, newT hn qa k⟩⟩
  | frz ds => obtain ⟨a, vs, rfl, ha, qa⟩ := h1.frz; cases e; exact ⟨a, vs, rfl, .inl ⟨hK ▸ ha.sq, newT hn qa k⟩⟩
  | tup ds => obtain ⟨a, vs, rfl, ha, qa⟩ := h1.tup; cases e; exact ⟨a, vs, rfl, .inr ⟨hK ▸ ha.sq, k _ _ (Grow.refl _) (.tup ha qa)⟩⟩
  | _ => cases e
theorem de_tuple (hm : X.mg "tuple" = none) (ha : DB Φ X e f) (hg : Gl X "tuple" := by rfl) (he : starEach (e :: []) X.env = (false, eval e X.env) :: starEach [] X.env := by rfl) (hpl : (backTo pos (starEach [] X.env)).any (·.1) = false := by rfl) :
    DE Φ X (.Call (.Name "tuple" p) [e] [] pos) (op1 tupleD f) := de_t1 call_tupleX cd_tuple hm (by decide +kernel) ha hg (by decide) (by decide) he hpl
/-- the truths in a list -/
def blsOf : List D → Option (List Bool)
  | [] => some []
  | .bl b :: ds => (blsOf ds).map (b :: ·)
  | _ => none
theorem reps_bls {r : RC} : ∀ {vs : List V} {ds : List D} {bs : List Bool}, Reps r vs ds → blsOf ds = some bs → vs = bs.map V.bl
  | _, _, _, .nil, e => by cases e; rfl
  | _, _, _, .cons h t, e => by
    cases h with
    | bl b =>
      obtain ⟨cs, e2, rfl⟩ := Option.map_eq_some_iff.mp e
      rw [reps_bls t e2]; rfl
    | _ => cases e
def allD : D → Option D
  | .lst ds => (blsOf ds).map fun bs => .bl (bs.all fun y => y)
  | _ => none
def anyD : D → Option D
  | .lst ds => (blsOf ds).map fun bs => .bl (bs.any fun y => y)
  | _ => none
theorem cd_all : Cal1 X (rAll X.K) allD := by
  intro q x d1 d Q _ _ _ h1 e k
  cases d1 with
  | lst ds =>
    obtain ⟨a, vs, rfl, ha, qa⟩ := h1.lst
    obtain ⟨bs, e2, rfl⟩ := Option.map_eq_some_iff.mp e
    exact ⟨a, bs, rfl, .of (by rw [ha, reps_bls qa e2]), k _ _ (Grow.refl _) (.bl _)⟩
  | _ => cases e
theorem cd_any : Cal1 X (rAny X.K) anyD := by
  intro q x d1 d Q _ _ _ h1 e k
  cases d1 with
  | lst ds =>
    obtain ⟨a, vs, rfl, ha, qa⟩ := h1.lst
    obtain ⟨bs, e2, rfl⟩ := Option.map_eq_some_iff.mp e
    exact ⟨a, bs, rfl, .of (by rw [ha, reps_bls qa e2]), k _ _ (Grow.refl _) (.bl _)⟩
  | _ => cases e
theorem de_all (hc : X.calm = true) (hm : X.mg "all" = none) (ha : DB Φ X e f) (hg : Gl X "all" := by rfl) (he : starEach (e :: []) X.env = (false, eval e X.env) :: starEach [] X.env := by rfl) (hpl : (backTo pos (starEach [] X.env)).any (·.1) = false := by rfl) :
    DE Φ X (.Call (.Name "all" p) [e] [] pos) (op1 allD f) := de_b1 (cr_all hc) cd_all hm (by decide +kernel) ha hg (by decide) (by decide) he hpl
theorem de_any (hc : X.calm = true) (hm : X.mg "any" = none) (ha : DB Φ X e f) (hg : Gl X "any" := by rfl) (he : starEach (e :: []) X.env = (false, eval e X.env) :: starEach [] X.env := by rfl) (hpl : (backTo pos (starEach [] X.env)).any (·.1) = false := by rfl) :
    DE Φ X (.Call (.Name "any" p) [e] [] pos) (op1 anyD f) := de_b1 (cr_any hc) cd_any hm (by decide +kernel) ha hg (by decide) (by decide) he hpl
/-- the numbers in a list -/
def intsOf : List D → Option (List Int)
  | [] => some []
  | .int b :: ds => (intsOf ds).map (b :: ·)
  | _ => none
theorem intsOf_map : ∀ ns : List Int, intsOf (ns.map D.int) = some ns
  | [] => rfl
  | n :: ns => by
    show (intsOf (ns.map D.int)).map (n :: ·) = _
    rw [intsOf_map ns]; rfl
theorem reps_ints {r : RC} : ∀ {vs : List V} {ds : List D} {bs : List Int}, Reps r vs ds → intsOf ds = some bs → vs = bs.map V.int
  | _, _, _, .nil, e => by cases e; rfl
  | _, _, _, .cons h t, e => by
    cases h with
    | int b =>
      obtain ⟨cs, e2, rfl⟩ := Option.map_eq_some_iff.mp e
      rw [reps_ints t e2]; rfl
    | _ => cases e
theorem ints_reps {r : RC} : ∀ ns : List Int, Reps r (ns.map V.int) (ns.map D.int)
  | [] => .nil
  | n :: ns => .cons (.int n) (ints_reps ns)
/-- insertion, to say what sorted gives -/
def insI (n : Int) : List Int → List Int
  | [] => [n]
  | m :: ms => if n ≤ m then n :: m :: ms else m :: insI n ms
def srtI : List Int → List Int
  | [] => []
  | n :: ns => insI n (srtI ns)
theorem insI_perm (n : Int) : ∀ ns : List Int, (insI n ns).Perm (n :: ns)
  | [] => List.Perm.refl _
  | m :: ms => by
    unfold insI
    split
    · exact List.Perm.refl _
    · exact ((insI_perm n ms).cons m).trans (List.Perm.swap n m ms)
theorem insI_up (n : Int) : ∀ {ns : List Int}, ns.Pairwise (· ≤ ·) → (insI n ns).Pairwise (· ≤ ·)
  | [], _ => List.pairwise_singleton _ _
  | m :: ms, h => by
    unfold insI
    rw [List.pairwise_cons] at h
    split
    · rename_i hl
      refine List.pairwise_cons.mpr ⟨fun y hy => ?_, List.pairwise_cons.mpr h⟩
      rcases List.mem_cons.mp hy with e | hy
      · rw [e]; exact hl
      · exact Int.le_trans hl (h.1 y hy)
    · rename_i hl
      refine List.pairwise_cons.mpr ⟨fun y hy => ?_, insI_up n h.2⟩
      rcases List.mem_cons.mp ((insI_perm n ms).mem_iff.mp hy) with e | hy
      · rw [e]; omega
      · exact h.1 y hy
theorem srtI_perm : ∀ ns : List Int, (srtI ns).Perm ns
  | [] => List.Perm.refl _
  | n :: ns => (insI_perm n (srtI ns)).trans ((srtI_perm ns).cons n)
theorem srtI_up : ∀ ns : List Int, (srtI ns).Pairwise (· ≤ ·)
  | [] => List.Pairwise.nil
  | n :: ns => insI_up n (srtI_up ns)
theorem srtI_only {ms ns : List Int} (h : ms.Perm ns) (u : ms.Pairwise (· ≤ ·)) : ms = srtI ns :=
  (h.trans (srtI_perm ns).symm).eq_of_pairwise (fun a b _ _ h1 h2 => Int.le_antisymm h1 h2) u (srtI_up ns)
def sortedD : D → Option D
  | .lst ds => (intsOf ds).map fun ns => .lst ((srtI ns).map D.int)
  | _ => none
theorem cd_sorted : Cal1 X (rSortedI X.K) sortedD := by
  intro q x d1 d Q _ _ hn h1 e k
  cases d1 with
  | lst ds =>
    obtain ⟨a, vs, rfl, ha, qa⟩ := h1.lst
    obtain ⟨ns, e2, rfl⟩ := Option.map_eq_some_iff.mp e
    refine ⟨a, ns, rfl, .of (by rw [ha, reps_ints qa e2]), fun ns' p hp hu n => ?_⟩
    have e3 := srtI_only hp hu
    subst e3
    exact k _ _ (Grow.upd n) (NewR.rep (d := .lst _) ⟨_, rfl, ints_reps _⟩ n (hn p n))
  | _ => cases e
theorem de_sorted (hm : X.mg "sorted" = none) (ha : DB Φ X e f) (hg : Gl X "sorted" := by rfl) (he : starEach (e :: []) X.env = (false, eval e X.env) :: starEach [] X.env := by rfl) (hpl : (backTo pos (starEach [] X.env)).any (·.1) = false := by rfl) :
    DE Φ X (.Call (.Name "sorted" p) [e] [] pos) (op1 sortedD f) := de_b1 cr_sortedI cd_sorted hm (by decide +kernel) ha hg (by decide) (by decide) he hpl
def sumD : D → Option D
  | .lst ds => (intsOf ds).map fun ns => .int ns.sum
  | _ => none
theorem cd_sum : Cal1 X (rSum X.K) sumD := by
  intro q x d1 d Q _ _ hn h1 e k
  cases d1 with
  | lst ds =>
    obtain ⟨a, vs, rfl, ha, qa⟩ := h1.lst
    obtain ⟨ns, e2, rfl⟩ := Option.map_eq_some_iff.mp e
    exact ⟨a, ns, rfl, .of (by rw [ha, reps_ints qa e2]), k _ _ (Grow.refl _) (.int _)⟩
  | _ => cases e
theorem de_sum (hc : X.calm = true) (hm : X.mg "sum" = none) (ha : DB Φ X e f) (hg : Gl X "sum" := by rfl) (he : starEach (e :: []) X.env = (false, eval e X.env) :: starEach [] X.env := by rfl) (hpl : (backTo pos (starEach [] X.env)).any (·.1) = false := by rfl) :
    DE Φ X (.Call (.Name "sum" p) [e] [] pos) (op1 sumD f) := de_b1 (cr_sum hc) cd_sum hm (by decide +kernel) ha hg (by decide) (by decide) he hpl
def max2D : List D → Option D
  | [.int i, .int j] => some (.int (if j > i then j else i))
  | _ => none
def min2D : List D → Option D
  | [.int i, .int j] => some (.int (if j < i then j else i))
  | _ => none
theorem cd_max2 : CalN X (fun xs H Q => ∃ i j, xs = [.int i, .int j] ∧ Q (.int (if j > i then j else i)) H) max2D := by
  intro q xs ds d Q _ _ _ h1 e k
  unfold max2D at e
  split at e
  · cases e
    cases h1 with | cons h t => cases t with | cons h2 t2 => cases t2; cases h; cases h2; exact ⟨_, _, rfl, k _ _ (Grow.refl _) (.int _)⟩
  · cases e
theorem cd_min2 : CalN X (fun xs H Q => ∃ i j, xs = [.int i, .int j] ∧ Q (.int (if j < i then j else i)) H) min2D := by
  intro q xs ds d Q _ _ _ h1 e k
  unfold min2D at e
  split at e
  · cases e
    cases h1 with | cons h t => cases t with | cons h2 t2 => cases t2; cases h; cases h2; exact ⟨_, _, rfl, k _ _ (Grow.refl _) (.int _)⟩
  · cases e
theorem de_max2 (hc : X.calm = true) (hm : X.mg "max" = none) (ha : DA Φ X [a, b] fa) (hg : Gl X "max" := by rfl) (he : starEach [a, b] X.env = (false, eval a X.env) :: starEach [b] X.env := by rfl) (hpl : (backTo pos (starEach [b] X.env)).any (·.1) = false := by rfl) :
    DE Φ X (.Call (.Name "max" p) [a, b] [] pos) (opN max2D fa) := de_bN (call_max2 hc) cd_max2 hm (by decide +kernel) ha hg (by decide) (by decide) he hpl
theorem de_min2 (hc : X.calm = true) (hm : X.mg "min" = none) (ha : DA Φ X [a, b] fa) (hg : Gl X "min" := by rfl) (he : starEach [a, b] X.env = (false, eval a X.env) :: starEach [b] X.env := by rfl) (hpl : (backTo pos (starEach [b] X.env)).any (·.1) = false := by rfl) :
    DE Φ X (.Call (.Name "min" p) [a, b] [] pos) (opN min2D fa) := de_bN (call_min2 hc) cd_min2 hm (by decide +kernel) ha hg (by decide) (by decide) he hpl
def strD : D → Option D
  | .int i => if i.natAbs.log2 < 1920 then some (.str (toString i)) else none
  | _ => none
theorem cd_str : Cal1 X (fun xs H Q => ∃ i, xs = [.int i] ∧ i.natAbs.log2 < 1920 ∧ Q (.str (toString i)) H) strD := by
  intro q x d1 d Q _ _ _ h1 e k
  cases d1 with
  | int i =>
    simp only [strD] at e
    split at e
    · cases e
      exact ⟨i, by rw [h1.int], by assumption, k _ _ (Grow.refl _) (.str _)⟩
    · cases e
  | _ => cases e
theorem de_strI (hm : X.mg "str" = none) (ha : DB Φ X e f) (hg : Gl X "str" := by rfl) (he : starEach (e :: []) X.env = (false, eval e X.env) :: starEach [] X.env := by rfl) (hpl : (backTo pos (starEach [] X.env)).any (·.1) = false := by rfl) :
    DE Φ X (.Call (.Name "str" p) [e] [] pos) (op1 strD f) := de_t1 call_str_int cd_str hm (by decide +kernel) ha hg (by decide) (by decide) he hpl
end
end L2.DL

/-! DL12: methods of texts and tuples, isinstance, texts backward, dict displays. -/
namespace L2.DL
open PySem PySem.Spec PyProof.Rows
section
variable {Φ : Ctx} {X : Cx} {a b c e o : Expr} {es : List Expr} {f g k : Mo D} {fa : Mo (List D)} {pos p apos : Pos} {name : Str} {id : String} {r : V → List V → Hp → VK → Prop} {h : D → List D → Option D}
/-- a method by values -/
def MetD (X : Cx) (r : V → List V → Hp → VK → Prop) (h : D → List D → Option D) : Prop := ∀ (q : RC) (x : V) (xs : List V) (d0 : D) (ds : List D) (d : D) (Q : VK), q.K = X.K → q.mg = X.mg → (∀ p, q.H p = none → ¬ q.A p) → Rep q x d0 → Reps q xs ds → h d0 ds = some d →
  (∀ v H', Grow q.H H' → Rep (q.at H') v d → Q v H') → r x xs q.H Q
def isStr : D → Option Unit
  | .str _ => some ()
  | _ => none
def isTup : D → Option Unit
  | .tup _ => some ()
  | _ => none
/-- o.m() of a text -/
def met0 (h : D → List D → Option D) (f : Mo D) : Mo D := bnd f fun x => bnd (lift (isStr x)) fun _ => lift (h x [])
def met1 (h : D → List D → Option D) (f g : Mo D) : Mo D := bnd f fun x => bnd (lift (isStr x)) fun _ => bnd g fun y => lift (h x [y])
theorem isStr_bnd {ρ : Env} {μ : Sto} {C : List Addr} {os : Os} {σ : L2.St} {H : Hp} {v : V} {d : D} {k : Mo D} {Q : VK} (q : Rep (rc Φ X C os H) v d) (z : PostE Φ X C os σ H (bnd (lift (isStr d)) (fun _ => k) ρ μ) Q) : (∃ a, v = .str a) ∧ PostE Φ X C os σ H (k ρ μ) Q := by
  cases q with
  | str s => exact ⟨⟨s, rfl⟩, z⟩
  | _ => exact z.elim
theorem isTup_bnd {ρ : Env} {μ : Sto} {C : List Addr} {os : Os} {σ : L2.St} {H : Hp} {v : V} {d : D} {k : Mo D} {Q : VK} (q : Rep (rc Φ X C os H) v d) (z : PostE Φ X C os σ H (bnd (lift (isTup d)) (fun _ => k) ρ μ) Q) : TupNd X.K H v ∧ PostE Φ X C os σ H (k ρ μ) Q := by
  cases q with
  | tup hT qs => exact ⟨hT.nd, z⟩
  | _ => exact z.elim
theorem de_m0 (slot : Slot "str" name id) (ty : typeOf (.builtin id) = pure (.type "method_descriptor")) (rule : MtR X id r) (hD : MetD X r h) (ho : DE Φ X o f) (hbase : attributeBase o name X.env (eval o X.env) = eval o X.env) (hline : (apos.endLine == pos.line) = true) :
    DE Φ X (.Call (.Attribute o name apos) [] [] pos) (met0 h f) := PE.imp (pe_m0 slot ty rule ho hbase hline) fun σ H Q ⟨ρ, μ, C, os, R, z⟩ =>
  ⟨ρ, μ, C, os, R, PostE.bnd z fun d ρ1 μ1 v H1 C1 os1 R1 S1 q1 z1 => by
    obtain ⟨hs, z2⟩ := isStr_bnd q1 z1
    obtain ⟨d', e, k⟩ := lift_ok R1 z2
    exact ⟨hs, hD (rc Φ X C1 os1 H1) v [] d [] d' Q rfl rfl R1.fr q1 .nil e k⟩⟩
theorem de_m1 (slot : Slot "str" name id) (ty : typeOf (.builtin id) = pure (.type "method_descriptor")) (rule : MtR X id r) (hD : MetD X r h) (ho : DE Φ X o f) (he : DE Φ X e g) (hs : starEach [e] X.env = [(false, eval e X.env)]) (hbase : attributeBase o name X.env (eval o X.env) = eval o X.env)
    (hline : (apos.endLine == pos.line) = true) : DE Φ X (.Call (.Attribute o name apos) [e] [] pos) (met1 h f g) := PE.imp (pe_m1 slot ty rule ho he hs hbase hline) fun σ H Q ⟨ρ, μ, C, os, R, z⟩ =>
  ⟨ρ, μ, C, os, R, PostE.bnd z fun d ρ1 μ1 v H1 C1 os1 R1 S1 q1 z1 => by
    obtain ⟨hs, z2⟩ := isStr_bnd q1 z1
    exact ⟨hs, ρ1, μ1, C1, os1, R1, PostE.bnd z2 fun d2 ρ2 μ2 w H2 C2 os2 R2 S2 q2 z3 => by
      obtain ⟨d', e, k⟩ := lift_ok R2 z3
      exact hD (rc Φ X C2 os2 H2) v [w] d [d2] d' Q rfl rfl R2.fr (q1.step S2) (.one q2) e k⟩⟩
/-! split, join, upper .. -/
def txts (xs : List Str) : List D := xs.map D.str
theorem strs_reps {r : RC} : ∀ xs : List Str, Reps r (xs.map V.str) (txts xs)
  | [] => .nil
  | x :: xs => .cons (.str x) (strs_reps xs)
def strsOf : List D → Option (List Str)
  | [] => some []
  | .str b :: ds => (strsOf ds).map (b :: ·)
  | _ => none
theorem reps_strs {r : RC} : ∀ {vs : List V} {ds : List D} {bs : List Str}, Reps r vs ds → strsOf ds = some bs → vs = bs.map V.str
  | _, _, _, .nil, e => by cases e; rfl
  | _, _, _, .cons h t, e => by
    cases h with
    | str b =>
      obtain ⟨cs, e2, rfl⟩ := Option.map_eq_some_iff.mp e
      rw [reps_strs t e2]; rfl
    | _ => cases e
theorem strsOf_strs : ∀ xs : List Str, strsOf (txts xs) = some xs
  | [] => rfl
  | x :: xs => by
    show (strsOf (txts xs)).map (x :: ·) = _
    rw [strsOf_strs xs]; rfl
def splitD : D → List D → Option D
  | .str a, [.str b] => if (b.length == 0) = false ∧ a.length + 2 ≤ lineN then some (.lst (txts (Txt.split a b))) else none
  | _, _ => none
theorem md_split : MetD X (fun x xs H Q => ∃ a b, x = .str a ∧ xs = [.str b] ∧ (b.length == 0) = false ∧ a.length + 2 ≤ sizeLine ∧ rNewStrs (Txt.split a b) H Q) splitD := by
  intro q x xs d0 ds d Q _ _ hn h0 h1 e k
  unfold splitD at e
  split at e
  · split at e
    · rename_i hl
      cases e
      cases h0
      cases h1 with
      | cons hb t =>
        cases t
        cases hb
        exact ⟨_, _, rfl, rfl, hl.1, by rw [line_eq]; exact hl.2, fun p n => k _ _ (Grow.upd n) (NewR.rep (d := .lst _) ⟨_, rfl, strs_reps _⟩ n (hn p n))⟩
    · cases e
  · cases e
theorem de_split (ho : DE Φ X o f) (he : DE Φ X e g) (hs : starEach [e] X.env = [(false, eval e X.env)] := by rfl) (hbase : attributeBase o "split" X.env (eval o X.env) = eval o X.env := by rfl) (hline : (apos.endLine == pos.line) = true := by rfl) :
    DE Φ X (.Call (.Attribute o "split" apos) [e] [] pos) (met1 splitD f g) := de_m1 F.slot_str_split F.type_str_split mt_split md_split ho he hs hbase hline
def joinD : D → List D → Option D
  | .str a, [.lst ds] => match strsOf ds with
    | some ys => if (ys.map (·.length)).sum + ys.length * a.length ≤ 16777216 then some (.str (Txt.join a ys)) else none
    | none => none
  | _, _ => none
theorem md_join : MetD X (fun x xs H Q => ∃ a p, ∃ ys : List Str, x = .str a ∧ xs = [.ref p] ∧ (SqL X.K H p (ys.map V.str) ∨ SqT X.K H p (ys.map V.str)) ∧ (ys.map (·.length)).sum + ys.length * a.length ≤ 16777216 ∧ Q (.str (Txt.join a ys)) H) joinD := by
  intro q x xs d0 ds d Q _ _ hn h0 h1 e k
  unfold joinD at e
  split at e
  · split at e
    · rename_i ys hy
      split at e
      · rename_i hl
        cases e
        cases h0
        cases h1 with
        | cons hb t =>
          cases t
          cases hb with
          | lst hH n qs => exact ⟨_, _, ys, rfl, rfl, .inl (.of (by rw [hH, reps_strs qs hy])), hl, k _ _ (Grow.refl _) (.str _)⟩
      · cases e
    · cases e
  · cases e
theorem de_join (ho : DE Φ X o f) (he : DE Φ X e g) (hs : starEach [e] X.env = [(false, eval e X.env)] := by rfl) (hbase : attributeBase o "join" X.env (eval o X.env) = eval o X.env := by rfl) (hline : (apos.endLine == pos.line) = true := by rfl) :
    DE Φ X (.Call (.Attribute o "join" apos) [e] [] pos) (met1 joinD f g) := de_m1 F.slot_str_join F.type_str_join mt_join md_join ho he hs hbase hline
def upperD : D → List D → Option D
  | .str a, [] => if a.length ≤ 5592405 then some (.str (Txt.upper a)) else none
  | _, _ => none
theorem md_upper : MetD X (fun x xs H Q => ∃ a, x = .str a ∧ xs = [] ∧ a.length ≤ 5592405 ∧ Q (.str (Txt.upper a)) H) upperD := by
  intro q x xs d0 ds d Q _ _ hn h0 h1 e k
  unfold upperD at e
  split at e
  · split at e
    · cases e
      cases h0
      cases h1
      exact ⟨_, rfl, rfl, by assumption, k _ _ (Grow.refl _) (.str _)⟩
    · cases e
  · cases e
theorem de_upper (ho : DE Φ X o f) (hbase : attributeBase o "upper" X.env (eval o X.env) = eval o X.env := by rfl) (hline : (apos.endLine == pos.line) = true := by rfl) : DE Φ X (.Call (.Attribute o "upper" apos) [] [] pos) (met0 upperD f) :=
  de_m0 F.slot_str_upper F.type_str_upper mt_upper md_upper ho hbase hline
/-! t.index(y) -/
def idxF (y : D) : List D → Nat → Option Nat
  | [], _ => none
  | d :: ds, n => if eqF d y then some n else idxF y ds (n + 1)
theorem idxF_ok {y : D} : ∀ {ds : List D} {n j : Nat}, idxF y ds n = some j → ∃ z, n ≤ j ∧ ds[j - n]? = some z ∧ eqF z y = true ∧ ∀ (m : Nat) (w : D), m < j - n → ds[m]? = some w → eqF w y = false
  | [], _, _, e => by cases e
  | d :: ds, n, j, e => by
    unfold idxF at e
    split at e
    · rename_i h
      cases e
      exact ⟨d, Nat.le_refl _, by rw [Nat.sub_self]; rfl, h, fun m w hm => by omega⟩
    · rename_i h
      obtain ⟨z, h1, h2, h3, h4⟩ := idxF_ok e
      refine ⟨z, by omega, ?_, h3, fun m w hm hw => ?_⟩
      · have e2 : j - n = (j - (n + 1)) + 1 := by omega
        rw [e2]
        simpa using h2
      · cases m with
        | zero =>
          simp at hw
          subst hw
          simpa using h
        | succ m => exact h4 m w (by omega) (by simpa using hw)
def tupIxD : D → List D → Option D
  | .tup ds, [y] => if flatD y && ds.all flatD then (idxF y ds 0).map fun j => .int (j : Nat) else none
  | _, _ => none
theorem md_tupIx : MetD X (rTupIx X.K) tupIxD := by
  intro q x xs d0 ds d Q hK _ hn h0 h1 e k
  unfold tupIxD at e
  split at e
  · split at e
    · rename_i es y hf
      rw [Bool.and_eq_true] at hf
      obtain ⟨j, e2, rfl⟩ := Option.map_eq_some_iff.mp e
      obtain ⟨z, _, h2, h3, h4⟩ := idxF_ok e2
      rw [Nat.sub_zero] at h2 h4
      cases h0 with
      | tup hT qs =>
        cases h1 with
        | cons hy t =>
          cases t
          obtain ⟨w, hw, rw'⟩ := qs.get h2
          have fz : ∀ {i : Nat} {u : D}, es[i]? = some u → flatD u = true := fun hu => List.all_eq_true.mp hf.2 _ (List.mem_of_getElem? hu)
          refine ⟨_, _, _, j, w, rfl, rfl, hK ▸ hT.sq, hy.flat hf.1, qs.flatV hf.2, hw, by rw [rw'.eqF hy (fz h2) hf.1]; exact h3, fun m w' hm hw' => ?_, k _ _ (Grow.refl _) (.int _)⟩
          obtain ⟨d', hd', rd'⟩ := qs.getV hw'
          rw [rd'.eqF hy (fz hd') hf.1]
          exact h4 m d' hm hd'
    · cases e
  · cases e
def metT (h : D → List D → Option D) (f g : Mo D) : Mo D := bnd f fun x => bnd (lift (isTup x)) fun _ => bnd g fun y => lift (h x [y])
theorem de_tupIx (ho : DE Φ X o f) (he : DE Φ X e g) (hs : starEach [e] X.env = (false, eval e X.env) :: starEach [] X.env := by rfl) (hbase : attributeBase o "index" X.env (eval o X.env) = eval o X.env := by rfl)
    (hfew : ((backTo pos (starEach [e] X.env)).all (fun y => !y.1) && (backToKw pos (keywordEach [] X.env)).all (fun y => y.1.isSome) && decide ([e].length + ([] : List Keyword).length + (if ([] : List Keyword).isEmpty then 0 else 1) < 30)) = true := by rfl)
    (hline : (apos.endLine == pos.line) = true := by rfl) (hpl : (backTo pos (starEach [] X.env)).any (·.1) = false := by rfl) : DE Φ X (.Call (.Attribute o "index" apos) [e] [] pos) (metT tupIxD f g) :=
  PE.imp (pe_tm PySem.F.slot_tuple_index PySem.F.type_tuple_index mt_tupIx ho (pa_cons he pa_nil hs) hbase hfew hline hs hpl) fun σ H Q ⟨ρ, μ, C, os, R, z⟩ =>
    ⟨ρ, μ, C, os, R, PostE.bnd z fun d ρ1 μ1 v H1 C1 os1 R1 S1 q1 z1 => by
      obtain ⟨hs, z2⟩ := isTup_bnd q1 z1
      exact ⟨hs, ρ1, μ1, C1, os1, R1, PostE.bnd z2 fun d2 ρ2 μ2 w H2 C2 os2 R2 S2 q2 z3 => by
        obtain ⟨d', e, k⟩ := lift_ok R2 z3
        exact md_tupIx (rc Φ X C2 os2 H2) v [w] d [d2] d' Q rfl rfl R2.fr (q1.step S2) (.one q2) e k⟩⟩

/-! ### isinstance of built-in types -/
def tyN : D → Option String
  | .non => some "NoneType" | .bl _ => some "bool" | .int _ => some "int" | .str _ => some "str" | .tup _ => some "tuple" | .lst _ => some "list" | .frz _ => some "list" | .dct _ _ => some "dict"
  | _ => none
def isT (t T : String) : Bool := t == T || (t == "bool" && T == "int")
def tysD : List String := ["NoneType", "bool", "int", "str", "tuple", "list", "dict"]
theorem kit_tab : (tysD.all fun t => tysD.all fun T => decide (kitB t T = some (isT t T))) = true := by decide +kernel
theorem tyN_mem {d : D} {t : String} (h : tyN d = some t) : t ∈ tysD := by
  cases d <;> (first | (cases h; decide) | cases h)
theorem kit_is {K : PySem.W.Frag} {t T : String} (h1 : t ∈ tysD) (h2 : T ∈ tysD) : PySem.W.kitOne K (.type t) (.type T) = some (isT t T) :=
  kit_ty (of_decide_eq_true (List.all_eq_true.mp (List.all_eq_true.mp kit_tab t h1) T h2))
theorem RepW.ty {q : RC} {x : V} {d : D} {t : String} (h : RepW q x d) (e : tyN d = some t) : TyX q.K q.H x (.type t) := by
  cases d with
  | non => cases e; rw [h.non]; exact .base .non
  | bl b => cases e; rw [h.bl]; exact .base (.bl b)
  | int i => cases e; rw [h.int]; exact .base (.int i)
  | str s => cases e; rw [h.str]; exact .base (.str s)
  | tup ds =>
    obtain ⟨a, vs, rfl, ha, qa⟩ := h.tup
    cases e
    rcases ha with ⟨_, o, ha, _⟩ | ⟨o, its, n, h1, h2, _⟩
    · exact .fTuple ha
    · exact .kTuple h1 h2
  | lst ds => obtain ⟨a, vs, rfl, ha, qa⟩ := h.lst; cases e; exact .base (.lst ha)
  | frz ds =>
    obtain ⟨a, vs, rfl, ha, qa⟩ := h.frz
    cases e
    rcases ha with ⟨_, ha⟩ | ha
    · rcases ha with ha | ⟨o, ha⟩
      · exact .base (.lst ha)
      · exact .base (.frz ha)
    · rcases ha with ha | ⟨o, its, n, h1, h2, _⟩
      · rcases ha with ha | ⟨o, ha⟩ <;> cases ha
      · exact .kList h1 h2
  | dct ks ds => obtain ⟨a, kvs, rfl, ha, hk, qa⟩ := h.dct; cases e; exact .base (.dK ha)
  | ins c ns ds => cases e
  | cell n => cases e
def isiD (Ts : List String) (d : D) : Option D := (tyN d).map fun t => .bl (Ts.any (isT t))
theorem de_isi {T : Str} {S : String} {p2 : Pos} (hm : X.mg "isinstance" = none) (hmT : X.mg T = none) (ha : DB Φ X e f) (hvT : bootBuiltins T = some (.type S) := by decide +kernel) (hS : S ∈ tysD := by decide) (hg : Gl X "isinstance" := by rfl) (hgT : Gl X T := by rfl)
    (h1 : starEach [e, .Name T p2] X.env = (false, eval e X.env) :: starEach [.Name T p2] X.env := by rfl) (h2 : starEach [.Name T p2] X.env = (false, eval (.Name T p2) X.env) :: starEach [] X.env := by rfl)
    (hpl : (backTo pos (starEach [.Name T p2] X.env)).any (·.1) = false := by rfl) (hn : T ≠ "__name__" := by decide) (hdb : (T == ("__debug__" : Str)) = false := by decide) : DE Φ X (.Call (.Name "isinstance" p) [e, .Name T p2] [] pos) (op1 (isiD [S]) f) :=
  PE.imp (pe_callB call_isi hg hm (by decide +kernel) (pa_cons ha (pa_cons (pe_bltn (v := .ty S) hgT hmT hvT rfl hn hdb) pa_nil h2) h1) (by decide) (by decide) h1 hpl) fun σ H Q ⟨ρ, μ, C, os, R, z⟩ =>
    ⟨ρ, μ, C, os, R, cB_bnd z fun d1 ρ1 μ1 x H1 C1 os1 R1 S1 q1 z1 => by
      obtain ⟨d, e, k⟩ := lift_ok R1 z1
      obtain ⟨t, e2, rfl⟩ := Option.map_eq_some_iff.mp e
      refine ⟨x, .ty S, .type t, .type S, isT t S, rfl, .ty S, RepW.ty (q := rc Φ X C1 os1 H1) q1 e2, kit_is (tyN_mem e2) hS, ?_⟩
      have w := k (.bl (isT t S)) H1 (Grow.refl _)
      simp only [List.any_cons, List.any_nil, Bool.or_false] at w
      exact w (.bl _)⟩
theorem de_isi2 {T T' : Str} {S S' : String} {p2 p3 p4 : Pos} {n : Nat} (hm : X.mg "isinstance" = none) (hmT : X.mg T = none) (hmT' : X.mg T' = none) (ha : DE Φ X e f) (hvT : bootBuiltins T = some (.type S) := by decide +kernel) (hvT' : bootBuiltins T' = some (.type S') := by decide +kernel)
    (hS : S ∈ tysD := by decide) (hS' : S' ∈ tysD := by decide) (hg : Gl X "isinstance" := by rfl) (hgT : Gl X T := by rfl) (hgT' : Gl X T' := by rfl)
    (h1 : starEach [e, .Tuple [.Name T p2, .Name T' p3] n p4] X.env = (false, eval e X.env) :: starEach [.Tuple [.Name T p2, .Name T' p3] n p4] X.env := by rfl) (h2 : starEach [.Tuple [.Name T p2, .Name T' p3] n p4] X.env = (false, eval (.Tuple [.Name T p2, .Name T' p3] n p4) X.env) :: starEach [] X.env := by rfl)
    (h3 : starEach [.Name T p2, .Name T' p3] X.env = (false, eval (.Name T p2) X.env) :: starEach [.Name T' p3] X.env := by rfl) (h4 : starEach [.Name T' p3] X.env = (false, eval (.Name T' p3) X.env) :: starEach [] X.env := by rfl)
    (hpl : (backTo pos (starEach [.Tuple [.Name T p2, .Name T' p3] n p4] X.env)).any (·.1) = false := by rfl) (hn : T ≠ "__name__" := by decide) (hdb : (T == ("__debug__" : Str)) = false := by decide) (hn' : T' ≠ "__name__" := by decide) (hdb' : (T' == ("__debug__" : Str)) = false := by decide) :
    DE Φ X (.Call (.Name "isinstance" p) [e, .Tuple [.Name T p2, .Name T' p3] n p4] [] pos) (op1 (isiD [S, S']) f) :=
  PE.imp (pe_callB call_isiT hg hm (by decide +kernel) (pa_cons ha (pa_cons (pe_tup (pa_cons (pe_bltn (v := .ty S) hgT hmT hvT rfl hn hdb) (pa_cons (pe_bltn (v := .ty S') hgT' hmT' hvT' rfl hn' hdb') pa_nil h4) h3)) pa_nil h2) h1) (by decide) (by decide) h1 hpl) fun σ H Q ⟨ρ, μ, C, os, R, z⟩ =>
    ⟨ρ, μ, C, os, R, PostE.bnd z fun d1 ρ1 μ1 x H1 C1 os1 R1 S1 q1 z1 => by
      obtain ⟨d, e, k⟩ := lift_ok R1 z1
      obtain ⟨t, e2, rfl⟩ := Option.map_eq_some_iff.mp e
      refine ⟨by show 2 ≤ sizeLine; decide, fun tp n => ⟨x, tp, [.ty S, .ty S'], .type t, [.type S, .type S'], [S, S'].any (isT t), rfl, upd_same, .cons (.ty S) (.cons (.ty S') .nil), RepW.ty (q := rc Φ X C1 os1 (upd H1 tp (.tup [.ty S, .ty S']))) (.inl (q1.step (stp_grow (Grow.upd n)))) e2, ?_, k _ _ (Grow.upd n) (.bl _)⟩⟩
      refine kitAny_cons (kit_is (tyN_mem e2) hS) (fun hb => kitAny_cons (kit_is (tyN_mem e2) hS') (fun hb' => ?_) fun hb' => ?_) fun hb => ?_
      · simp only [List.any_cons, List.any_nil, hb, hb', Bool.or_false]; exact kitAny_nil
      · simp [List.any_cons, hb']
      · simp [List.any_cons, hb]⟩

/-! ### a text backward -/
def revS (z : Str) : Str := ⟨((Builtin.Str.strSliceIndices none none (-1) z.length).filterMap (z.cps[·]?)).toArray⟩
end
end L2.DL

/-! DL13: defs as functions on trees; their calls. -/
namespace L2.DL
open PySem PySem.Spec PyProof.Rows
/-- a def's answer: a value, a list or dict that nobody else holds, an error -/
inductive R where
  | ok (d : D) (μ : Sto) | ow (d : D) (μ : Sto) | ex (c : Str) (ns : List Str) (vs : List D) (μ : Sto) | no
abbrev Fn := List D → Sto → R
structure CIn (K : PySem.W.Frag) (mg : Str → Option Value) (A : Addr → Prop) (C : List Addr) (μ : Sto) (vs : List V) (ds : List D) (H : Hp) : Prop where
  arg : Reps ⟨K, mg, A, fun _ => False, C, H⟩ vs ds
  sto : StoR ⟨K, mg, A, fun _ => False, C, H⟩ μ
  cnd : C.Nodup
  cA : ∀ a ∈ C, A a
  alv : ∀ a, A a → ∃ o, H a = some o
/-- the avoided objects behind a call: zo is the list given out -/
def rO (K : PySem.W.Frag) (mg : Str → Option Value) (A : Addr → Prop) (zo : List Addr) (C : List Addr) (H : Hp) : RC := ⟨K, mg, fun a => A a ∨ a ∈ C ∨ a ∈ zo, fun _ => False, C, H⟩
structure COut (K : PySem.W.Frag) (mg : Str → Option Value) (A : Addr → Prop) (zo C : List Addr) (H : Hp) (C' : List Addr) (H' : Hp) (μ : Sto) : Prop where
  pre : ∃ m, C' = C ++ m
  cfr : ∀ a ∈ C', a ∈ C ∨ H a = none
  cnd : C'.Nodup
  clv : ∀ a ∈ C', ∃ o, H' a = some o
  frm : ∀ a o, H a = some o → a ∉ C → H' a = some o
  sto : StoR (rO K mg A zo C' H') μ
  zfr : ∀ a ∈ zo, H a = none ∧ a ∉ C' ∧ ∃ o, H' a = some o
def PostR (K : PySem.W.Frag) (mg : Str → Option Value) (A : Addr → Prop) (C : List Addr) (H : Hp) (r : R) (Q : VK) (E : XK) : Prop := match r with
  | .ok d μ => ∀ v H' C', COut K mg A [] C H C' H' μ → Rep (rO K mg A [] C' H') v d → Q v H'
  | .ow d μ => ∀ a H' C', COut K mg A [a] C H C' H' μ → OwnR (rO K mg A [a] C' H') a d → Q (.ref a) H'
  | .ex c ns es μ => ∀ Cc dx H' C', COut K mg A [] C H C' H' μ → mg c = some (.ref Cc) → EhR (rO K mg A [] C' H') dx c ns es → E (.ref Cc) (some dx) H'
  | .no => False
def spD (K : PySem.W.Frag) (mg : Str → Option Value) (G : Fn) : Sp := fun vs H Q E => ∃ ds μ A C, CIn K mg A C μ vs ds H ∧ PostR K mg A C H (G ds μ) Q E
/-- a def's body as a function -/
def runD (p n : Nat) (g : Mo Fl) : Fn := fun ds μ => if ds.length = p then (match g (ds.map (fun d => some (Ent.sh d)) ++ List.replicate (n - ds.length) none) μ with
  | .ok .nx _ μ' => .ok .non μ'
  | .ok (.rt d) _ μ' => .ok d μ'
  | .ok (.ro d) _ μ' => .ow d μ'
  | .ok _ _ _ => .no
  | .ex c ns vs _ μ' => .ex c ns vs μ'
  | .no => .no) else .no
theorem OwnR.stq {r r' : RC} (S : Stq r r') (hH : r'.H = r.H) {a : Addr} : ∀ {d : D}, OwnR r a d → OwnR r' a d
  | .lst _, ⟨vs, h, q⟩ => ⟨vs, by rw [hH]; exact h, q.stq S⟩
  | .dct _ _, ⟨kvs, h, e, q⟩ => ⟨kvs, by rw [hH]; exact h, e, q.stq S⟩
  | .non, h => h.elim | .bl _, h => h.elim | .int _, h => h.elim | .str _, h => h.elim | .tup _, h => h.elim | .frz _, h => h.elim | .ins _ _ _, h => h.elim | .cell _, h => h.elim
theorem CellR.stq {r r' : RC} (S : Stq r r') (hH : r'.H = r.H) {a : Addr} : ∀ {c : Cell}, CellR r a c → CellR r' a c
  | .lst _, ⟨vs, h, q⟩ => ⟨vs, by rw [hH]; exact h, q.stq S⟩
  | .dct _ _, ⟨kvs, h, e, q⟩ => ⟨kvs, by rw [hH]; exact h, e, q.stq S⟩
  | .ins _ _ _, ⟨Cc, dx, fs, h, m, e, q⟩ => ⟨Cc, dx, fs, by rw [hH]; exact h, by rw [S.g]; exact m, e, q.stq S⟩
  | .err _ _ _, h => ErR.stq S (fun o e => by rw [hH]; exact e) h
theorem EhR.stq {r r' : RC} (S : Stq r r') {dx : Addr} {c : Str} {ns : List Str} {ds : List D} : EhR r dx c ns ds → EhR r' dx c ns ds := fun ⟨fs, h, n, e, q⟩ => ⟨fs, S.h _ _ h n, S.na h n, e, q.stq S⟩
theorem StoR.stq {r r' : RC} (S : Stq r r') (hH : r'.H = r.H) (hC : r'.C = r.C) {μ : Sto} (h : StoR r μ) : StoR r' μ := ⟨by rw [hC]; exact h.1, fun n a c h1 h2 => (h.2 n a c (by rw [← hC]; exact h1) h2).stq S hH⟩
/-- another avoid set, the same heap -/
theorem stq_A {K : PySem.W.Frag} {mg : Str → Option Value} {A A' B B' : Addr → Prop} {C : List Addr} {H : Hp} (h : ∀ b, A' b → A b) : Stq ⟨K, mg, A, B, C, H⟩ ⟨K, mg, A', B', C, H⟩ := ⟨rfl, rfl, fun b z => .inl (h b z), ⟨[], by simp⟩, fun _ _ e _ => e⟩
section
variable {P : Program} {w : World} {K : PySem.W.Frag} {mg : Str → Option Value} {base : Heap}
theorem Rl.init {Φ : Ctx} {N : List Str} {A : Addr → Prop} {C : List Addr} {μ : Sto} {vs : List V} {ds : List D} {H : Hp} (i : CIn K mg A C μ vs ds H) (h1 : Φ.H0 = H) (h2 : Φ.A0 = A) (h3 : Φ.C0 = C) (h4 : ∀ a, ¬ Φ.M0 a) :
    RlK Φ K mg (ds.map (fun d => some (Ent.sh d)) ++ List.replicate (N.length - ds.length) none) μ C [] (start N vs) H := by
  have hl := i.arg.length
  have S : Stq ⟨K, mg, A, fun _ => False, C, H⟩ (rcK Φ K mg C [] H) := stq_A fun b z => by
    rcases z with z | z | ⟨j, z⟩
    · rw [← h2]; exact z
    · exact i.cA b z
    · cases z
  subst h1 h2 h3
  refine ⟨by unfold start; simp [hl], fun j t e => ?_, i.sto.stq S rfl rfl, fun _ _ _ z => (by cases z), fun _ _ z => (by cases z), ⟨[], by simp⟩, fun a z => .inl z, i.cnd, fun a z => i.alv a (i.cA a z), fun a o z _ _ => z, fun a z => ?_⟩
  · by_cases hj : j < ds.length
    · rw [List.getElem?_append_left (by simpa using hj), List.getElem?_map] at e
      obtain ⟨d, e1, e2⟩ := Option.map_eq_some_iff.mp e
      cases e2
      obtain ⟨v, hv, q⟩ := i.arg.get e1
      refine ⟨v, ?_, q.stq S⟩
      unfold start
      rw [List.getElem?_append_left (by simpa [hl] using hj), List.getElem?_map, hv] <;> rfl
    · rw [List.getElem?_append_right (by simpa using hj), List.getElem?_replicate] at e
      split at e <;> cases e
  · rcases z with z | z
    · exact i.alv a z
    · exact (h4 a z).elim
theorem Rl.out {Φ : Ctx} {ρ : Env} {μ : Sto} {A : Addr → Prop} {C C' : List Addr} {os : Os} {σ : L2.St} {H H' : Hp} (h1 : Φ.H0 = H) (h2 : Φ.A0 = A) (h3 : Φ.C0 = C) (h4 : ∀ a, ¬ Φ.M0 a) (R : RlK Φ K mg ρ μ C' os σ H') (zo : List Addr) (hz : ∀ a ∈ zo, ∃ i, (i, a) ∈ os) :
    COut K mg A zo C H C' H' μ ∧ Stq (rcK Φ K mg C' os H') (rO K mg A zo C' H') := by
  subst h1 h2 h3
  have S : Stq (rcK Φ K mg C' os H') (rO K mg Φ.A0 zo C' H') := stq_A fun b z => by
    rcases z with z | z | z
    · exact .inl z
    · exact .inr (.inl z)
    · exact .inr (.inr (hz b z))
  refine ⟨⟨R.pre, R.cfr, R.cnd, R.clv, fun a o e n => R.frm a o e (fun hC => ?_) (h4 a), R.sto.stq S rfl rfl, fun a z => ?_⟩, S⟩
  · rcases R.cfr a hC with q | q
    · exact n q
    · rw [e] at q; cases q
  · obtain ⟨i, q⟩ := hz a z
    obtain ⟨f1, f2, _, f4⟩ := R.fre i a q
    exact ⟨f1.elim id fun z => (h4 a z).elim, f2, f4⟩
/-- THE RULE for a def -/
theorem Fun.okD {x qual : Str} {st : Stmt} {f : Addr} {fd : FuncData} {N ps : List Str} {k : Nat} {g : Mo Fl} (F : Fun K x qual st f fd) (S : FnScope N ps (defScope st))
    (hb : ∀ (Φ : Ctx) (cdv : Value) (A : Around) (outer : List PySem.Env) (s : Shared) (H : Hp) (E : XK), Cn Φ (cxOf (L2.CX P w) P w K mg base N qual (defScope st) f cdv A outer s H E) k → (∀ a, ¬ Φ.M0 a) →
      DSs Φ (cxOf (L2.CX P w) P w K mg base N qual (defScope st) f cdv A outer s H E) (defBody st) g) : FnOk P w K mg base (L2.CX P w) (k + 1) f fd ps (spD K mg (runD ps.length N.length g)) := by
  refine Fun.okX F S (fun vs H Q E h => ?_) fun cdv A outer s H vs Q E hr h => ?_
  · obtain ⟨ds, μ, A, C, i, z⟩ := h
    unfold runD at z
    split at z
    · rename_i hl
      rw [i.arg.length, hl]
    · exact z.elim
  · obtain ⟨ds, μ, A', C, i, z⟩ := h
    let Φ : Ctx := ⟨H, A', C, fun _ => False, fun cls d _ H' => E cls d H', none, "", none⟩
    have cn : Cn Φ (cxOf (L2.CX P w) P w K mg base N qual (defScope st) f cdv A outer s H E) k := ⟨S.nd, rfl, passes_of rfl, takes_of (X := cxOf (L2.CX P w) P w K mg base N qual (defScope st) f cdv A outer s H E) rfl rfl rfl rfl, hr⟩
    refine ⟨_, hb Φ cdv A outer s H E cn (fun _ h => h), _, μ, C, [], Rl.init (N := N) i rfl rfl rfl (fun _ h => h), ?_⟩
    have nm : ∀ a, ¬ Φ.M0 a := fun _ h => h
    unfold runD at z
    split at z
    · rename_i hl
      cases e : g (ds.map (fun d => some (Ent.sh d)) ++ List.replicate (N.length - ds.length) none) μ with
      | no => rw [e] at z; exact z
      | ex c ns es ρ' μ' =>
        rw [e] at z
        intro Cc dx σ' H' C' os' R _ hm he
        obtain ⟨o, S'⟩ := Rl.out (A := A') (C := C) (H := H) rfl rfl rfl nm R [] (fun a z => by cases z)
        exact z Cc dx H' C' o hm (he.stq S')
      | ok fl ρ' μ' =>
        rw [e] at z
        intro σ' H' C' os' R _
        cases fl with
        | bk => exact z.elim
        | ct => exact z.elim
        | nx =>
          obtain ⟨o, S'⟩ := Rl.out (A := A') (C := C) (H := H) rfl rfl rfl nm R [] (fun a z => by cases z)
          exact z .non H' C' o .non
        | rt d =>
          obtain ⟨o, S'⟩ := Rl.out (A := A') (C := C) (H := H) rfl rfl rfl nm R [] (fun a z => by cases z)
          exact fun v q => z v H' C' o (q.stq S')
        | ro d =>
          intro a j hj q
          obtain ⟨o, S'⟩ := Rl.out (A := A') (C := C) (H := H) rfl rfl rfl nm R [a] (fun b z => by
            cases List.mem_singleton.mp z
            exact ⟨j, hj⟩)
          exact z a H' C' o (q.stq S' rfl)
    · exact z.elim
end

/-! ### a call -/
section
variable {Φ : Ctx} {X : Cx} {f g : Mo D}
def osZ (i : Nat) (zo : List Addr) (os : Os) : Os := zo.map (fun a => (some i, a)) ++ os
theorem CIn.of {ρ : Env} {μ : Sto} {C : List Addr} {os : Os} {σ : L2.St} {H : Hp} {vs : List V} {ds : List D} (R : Rl Φ X ρ μ C os σ H) (q : Reps (rc Φ X C os H) vs ds) : CIn X.K X.mg (AA Φ C os) C μ vs ds H := by
  have S : Stq (rc Φ X C os H) ⟨X.K, X.mg, AA Φ C os, fun _ => False, C, H⟩ := stq_A fun b z => z
  refine ⟨q.stq S, R.sto.stq S rfl rfl, R.cnd, fun a z => .inr (.inl z), fun a z => ?_⟩
  rcases z with z | z | ⟨i, z⟩
  · exact R.alv a (.inl z)
  · exact R.clv a z
  · exact (R.fre i a z).2.2.2
theorem Rl.called {ρ : Env} {μ μ' : Sto} {C C' : List Addr} {os : Os} {σ : L2.St} {H H' : Hp} {zo : List Addr} {i : Nat} (R : Rl Φ X ρ μ C os σ H) (o : COut X.K X.mg (AA Φ C os) zo C H C' H' μ') :
    Rl Φ X ρ μ' C' (osZ i zo os) σ H' ∧ Stp (rc Φ X C os H) (rc Φ X C' (osZ i zo os) H') ∧ Stq (rO X.K X.mg (AA Φ C os) zo C' H') (rc Φ X C' (osZ i zo os) H') := by
  obtain ⟨m, em⟩ := o.pre
  have inC : ∀ a ∈ C, a ∈ C' := fun a z => by rw [em]; exact List.mem_append_left _ z
  have mz : ∀ {j b}, (j, b) ∈ osZ i zo os → (j = some i ∧ b ∈ zo) ∨ (j, b) ∈ os := fun {j b} z => by
    rcases List.mem_append.mp z with z | z
    · obtain ⟨a, h1, h2⟩ := List.mem_map.mp z
      cases h2
      exact .inl ⟨rfl, h1⟩
    · exact .inr z
  have mo : ∀ {j b}, (j, b) ∈ os → (j, b) ∈ osZ i zo os := fun z => List.mem_append_right _ z
  have nC : ∀ {j b}, (j, b) ∈ os → b ∉ C := fun z => (R.fre _ _ z).2.1
  have live : ∀ b u, H b = some u → ∃ u', H' b = some u' := fun b u e => by
    by_cases hC : b ∈ C
    · exact o.clv b (inC b hC)
    · exact ⟨u, o.frm b u e hC⟩
  have S : Stp (rc Φ X C os H) (rc Φ X C' (osZ i zo os) H') := by
    refine ⟨rfl, rfl, fun b z => ?_, o.pre, fun b u e n => o.frm b u e fun hC => n (.inr (.inl hC)), live, fun b z => mo z, fun b u e z => o.frm b u e (nC z)⟩
    rcases z with z | z | ⟨j, z⟩
    · exact .inl (.inl z)
    · rcases o.cfr b z with q | q
      · exact .inl (.inr (.inl q))
      · exact .inr q
    · rcases mz z with ⟨_, q⟩ | q
      · exact .inr (o.zfr b q).1
      · exact .inl (.inr (.inr ⟨j, q⟩))
  have S2 : Stq (rO X.K X.mg (AA Φ C os) zo C' H') (rc Φ X C' (osZ i zo os) H') := stq_A fun b z => by
    rcases z with z | z | ⟨j, z⟩
    · exact .inl (.inl z)
    · exact .inr (.inl z)
    · rcases mz z with ⟨_, q⟩ | q
      · exact .inr (.inr q)
      · exact .inl (.inr (.inr ⟨j, q⟩))
  have h0 : ∀ b, H b = none → Φ.H0 b = none := fun b e => by
    cases e0 : Φ.H0 b with
    | none => rfl
    | some u =>
      have nC : b ∉ C := fun z => by
        obtain ⟨u', e'⟩ := R.clv b z
        rw [e] at e'; cases e'
      have nM : ¬ Φ.M0 b := fun z => by
        obtain ⟨u', e'⟩ := R.alv b (.inr z)
        rw [e] at e'; cases e'
      rw [R.frm b u e0 nC nM] at e; cases e
  refine ⟨⟨R.len, fun j t e => ?_, o.sto.stq S2 rfl rfl, fun j k b z1 z2 => ?_, fun j b z => ?_, ?_, fun b z => ?_, o.cnd, o.clv, fun b u e n1 n2 => ?_, fun b z => ?_⟩, S, S2⟩
  · obtain ⟨v, h1, h2⟩ := R.env j t e
    refine ⟨v, h1, ?_⟩
    cases t with
    | sh d => exact Rep.step S h2
    | ow d =>
      obtain ⟨b, e1, e2, e3⟩ := h2
      exact ⟨b, e1, mo e2, e3.stepH S fun u hu => o.frm b u hu (nC e2)⟩
    | bd c ns ds =>
      obtain ⟨b, e1, e2, e3⟩ := h2
      exact ⟨b, e1, mo e2, BdR.stepB S (fun u hu => o.frm b u hu (nC e2)) e3⟩
    | eh c ns ds =>
      obtain ⟨b, dx, e1, e2, e3⟩ := h2
      exact ⟨b, dx, e1, e2, e3.step S⟩
  · rcases mz z1 with ⟨rfl, q1⟩ | q1 <;> rcases mz z2 with ⟨rfl, q2⟩ | q2
    · rfl
    · obtain ⟨_, _, _, u, e⟩ := R.fre _ _ q2
      rw [(o.zfr b q1).1] at e; cases e
    · obtain ⟨_, _, _, u, e⟩ := R.fre _ _ q1
      rw [(o.zfr b q2).1] at e; cases e
    · exact R.own j k b q1 q2
  · rcases mz z with ⟨rfl, q⟩ | q
    · obtain ⟨z1, z2, z3⟩ := o.zfr b q
      refine ⟨.inl (h0 b z1), z2, fun hA => ?_, z3⟩
      obtain ⟨u, e⟩ := R.alv b (.inl hA)
      rw [z1] at e; cases e
    · obtain ⟨f1, f2, f3, u, f4⟩ := R.fre j b q
      refine ⟨f1, fun hC => ?_, f3, live b u f4⟩
      rcases o.cfr b hC with y | y
      · exact f2 y
      · rw [f4] at y; cases y
  · obtain ⟨n, en⟩ := R.pre
    exact ⟨n ++ m, by rw [em, en, List.append_assoc]⟩
  · rcases o.cfr b z with q | q
    · exact R.cfr b q
    · exact .inr (h0 b q)
  · have nC : b ∉ C := fun z => n1 (inC b z)
    exact o.frm b u (R.frm b u e nC n2) nC
  · obtain ⟨u, e⟩ := R.alv b z
    exact live b u e
/-- the module's def x, as the function G, k levels deep -/
structure Dfn (P : Program) (w : World) (K : PySem.W.Frag) (mg : Str → Option Value) (base : Heap) (x : Str) (k : Nat) (G : Fn) : Prop where
  ex : ∃ f fd ps, FnOk P w K mg base (L2.CX P w) k f fd ps (spD K mg G) ∧ mg x = some (.ref f) ∧ PySem.W.keepIn K (.ref f) = true ∧ Binds K fd ps []
/-- what a call wants of the body it stands in -/
structure Cc (Φ : Ctx) (X : Cx) (k : Nat) : Prop where
  tk : Takes X Φ.W
  rm : Room k X.A
theorem Cn.cc {k : Nat} (c : Cn Φ X k) : Cc Φ X k := ⟨c.tk, c.rm⟩
theorem Cn.blk {k : Nat} (c : Cn Φ X k) {s : Shared} {H : Hp} {scope : Scope} {ce : PySem.Env} {fp : List Addr} : Cc Φ.nx (X.blk s H scope ce fp) k := ⟨takes0, c.rm⟩
def calM (G : Fn) (fa : Mo (List D)) : Mo D := bnd fa fun ds ρ μ => match G ds μ with
  | .ok d μ' => .ok d ρ μ'
  | .ow d μ' => .ok d ρ μ'
  | .ex c ns vs μ' => .ex c ns vs ρ μ'
  | .no => .no
def cawM (G : Fn) (fa : Mo (List D)) : Mo D := bnd fa fun ds ρ μ => match G ds μ with
  | .ow d μ' => .ok d ρ μ'
  | .ex c ns vs μ' => .ex c ns vs ρ μ'
  | _ => .no
theorem COut.let {A : Addr → Prop} {C C' : List Addr} {H H' : Hp} {μ : Sto} {K : PySem.W.Frag} {mg : Str → Option Value} {a : Addr} (o : COut K mg A [a] C H C' H' μ) (al : ∀ b, A b → ∃ u, H b = some u) : COut K mg A [] C H C' H' μ ∧ Stq (rO K mg A [a] C' H') (rO K mg A [] C' H') ∧ ¬ (rO K mg A [] C' H').A a := by
  have S : Stq (rO K mg A [a] C' H') (rO K mg A [] C' H') := stq_A fun b z => by
    rcases z with z | z | z
    · exact .inl z
    · exact .inr (.inl z)
    · cases z
  obtain ⟨z1, z2, _⟩ := o.zfr a List.mem_cons_self
  refine ⟨⟨o.pre, o.cfr, o.cnd, o.clv, o.frm, o.sto.stq S rfl rfl, fun b z => by cases z⟩, S, fun z => ?_⟩
  rcases z with z | z | z
  · obtain ⟨u, e⟩ := al a z
    rw [z1] at e; cases e
  · exact z2 z
  · cases z
/-- an argument list that stands, then the callee -/
theorem call_at {G : Fn} {ρ : Env} {μ : Sto} {C : List Addr} {os : Os} {σ : L2.St} {H : Hp} {vs : List V} {ds : List D} {Q : VK} (R : Rl Φ X ρ μ C os σ H) (q : Reps (rc Φ X C os H) vs ds)
    (z : PostE Φ X C os σ H ((fun ρ μ => match G ds μ with
      | .ok d μ' => .ok d ρ μ'
      | .ow d μ' => .ok d ρ μ'
      | .ex c ns vs μ' => .ex c ns vs ρ μ'
      | .no => .no : Mo D) ρ μ) Q) : spD X.K X.mg G vs H Q (WE Φ.W σ) := by
  have i := CIn.of R q
  refine ⟨ds, μ, AA Φ C os, C, i, ?_⟩
  cases e : G ds μ with
  | no => simp only [e] at z; exact z
  | ex c ns es μ' =>
    simp only [e] at z
    intro Cc dx H' C' o hm he
    obtain ⟨R', S', S2⟩ := R.called (i := 0) o
    exact z Cc dx H' C' _ R' S' hm (he.stq S2)
  | ok d μ' =>
    simp only [e] at z
    intro v H' C' o q'
    obtain ⟨R', S', S2⟩ := R.called (i := 0) o
    exact z v H' C' _ R' S' (q'.stq S2)
  | ow d μ' =>
    simp only [e] at z
    intro a H' C' o q'
    obtain ⟨o2, S3, na⟩ := o.let i.alv
    obtain ⟨R', S', S2⟩ := R.called (i := 0) o2
    exact z _ H' C' _ R' S' (((q'.stq S3 rfl).rep na).stq S2)
theorem call_atF {G : Fn} {j : Nat} {ρ : Env} {μ : Sto} {C : List Addr} {os : Os} {σ : L2.St} {H : Hp} {vs : List V} {ds : List D} {Q : VK} (R : Rl Φ X ρ μ C os σ H) (q : Reps (rc Φ X C os H) vs ds)
    (z : PostF Φ X j C os σ H ((fun ρ μ => match G ds μ with
      | .ow d μ' => .ok d ρ μ'
      | .ex c ns vs μ' => .ex c ns vs ρ μ'
      | _ => .no : Mo D) ρ μ) Q) : spD X.K X.mg G vs H Q (WE Φ.W σ) := by
  have i := CIn.of R q
  refine ⟨ds, μ, AA Φ C os, C, i, ?_⟩
  cases e : G ds μ with
  | no => simp only [e] at z; exact z
  | ok d μ' => simp only [e] at z; exact z.elim
  | ex c ns es μ' =>
    simp only [e] at z
    intro Cc dx H' C' o hm he
    obtain ⟨R', S', S2⟩ := R.called (i := 0) o
    exact z Cc dx H' C' _ R' S' hm (he.stq S2)
  | ow d μ' =>
    simp only [e] at z
    intro a H' C' o q'
    obtain ⟨R', S', S2⟩ := R.called (i := j) o
    exact z a H' C' _ R' S' (q'.stq S2 rfl)
variable {x : Str} {p pos : Pos} {e : Expr} {es : List Expr} {G : Fn} {k : Nat} {fa : Mo (List D)}
theorem de_call (F : Dfn X.prog X.w X.K X.mg X.base x k G) (c : Cc Φ X k) (hg : Gl X x) (ha : DA Φ X (e :: es) fa)
    (hdb : (x == ("__debug__" : Str)) = false := by decide) (he : starEach (e :: es) X.env = (false, eval e X.env) :: starEach es X.env := by rfl) (hpl : (backTo pos (starEach es X.env)).any (·.1) = false := by rfl) : DE Φ X (.Call (.Name x p) (e :: es) [] pos) (calM G fa) := by
  obtain ⟨f, fd, ps, F, hm, hk, hb⟩ := F.ex
  exact PE.imp (pe_callSD (dvs := []) F c.rm hg hm hk hb .nil (fun σ => passAt c.tk σ) ha hdb he hpl) fun σ H Q ⟨ρ, μ, C, os, R, z⟩ => ⟨ρ, μ, C, os, R, PostE.bndA z fun ds ρ1 μ1 vs H1 C1 os1 R1 S1 q1 z1 => by
    rw [List.append_nil]
    exact call_at R1 q1 z1⟩
theorem df_call {i : Nat} (F : Dfn X.prog X.w X.K X.mg X.base x k G) (c : Cc Φ X k) (hg : Gl X x) (ha : DA Φ X (e :: es) fa)
    (hdb : (x == ("__debug__" : Str)) = false := by decide) (he : starEach (e :: es) X.env = (false, eval e X.env) :: starEach es X.env := by rfl) (hpl : (backTo pos (starEach es X.env)).any (·.1) = false := by rfl) : DF Φ X i (.Call (.Name x p) (e :: es) [] pos) (cawM G fa) := by
  obtain ⟨f, fd, ps, F, hm, hk, hb⟩ := F.ex
  exact PE.imp (pe_callSD (dvs := []) F c.rm hg hm hk hb .nil (fun σ => passAt c.tk σ) ha hdb he hpl) fun σ H Q ⟨ρ, μ, C, os, R, z⟩ => ⟨ρ, μ, C, os, R, PostF.bndA z fun ds ρ1 μ1 vs H1 C1 os1 R1 S1 q1 z1 => by
    rw [List.append_nil]
    exact call_atF R1 q1 z1⟩
/-- return of a new list -/
def rtF (f : Mo D) : Mo Fl := bnd f fun d => ret (.ro d)
theorem ds_retF {i : Nat} {f : Mo D} (h : DF Φ X i e f) : DS Φ X (.Return (some e) pos) (rtF f) := PS.imp (ps_ret h) fun E σ H ⟨ρ, μ, C, os, R, z⟩ => by
  refine ⟨ρ, μ, C, os, R, ?_⟩
  unfold rtF bnd at z
  cases e : f ρ μ with
  | no => rw [e] at z; exact z
  | ex c ns ds ρ1 μ1 => rw [e] at z; exact fun Cc dx H' C' os' R S g e => z Cc dx σ H' C' os' R S g e
  | ok d ρ1 μ1 =>
    rw [e] at z
    exact fun a H1 C1 os1 R1 S1 w => z _ _ C1 _ R1 S1 a (some i) List.mem_cons_self w
end
end L2.DL

/-! DLH: several except clauses, each with or without a name. -/
namespace L2.DL
open PySem PySem.Spec PyProof.Rows
/-- a clause: its class, the slot of its name, its suite -/
structure Hd where
  c : Value
  nm : Option Nat
  ts : Addr → Value → Option Addr → TS
def Hd.beg (h : Hd) (σ : L2.St) (a : Addr) : L2.St := match h.nm with
  | none => σ
  | some i => σ.set i (some (.ref a))
def Hd.fin (h : Hd) (σ : L2.St) : L2.St := match h.nm with
  | none => σ
  | some i => σ.set i none
def Hd.ends (h : Hd) (D : Ends) : Ends := { nx := fun σ H => D.nx (h.fin σ) H, rt := D.rt, bk := fun σ H => D.bk (h.fin σ) H, ct := fun σ H => D.ct (h.fin σ) H }
def wH (K : PySem.W.Frag) (Wo : WX) (D : Ends) : List Hd → WX
  | [] => Wo
  | h :: r => fun cls d σ H => ∃ b, PySem.W.exmOne K cls h.c = some b ∧ (b = true → ∀ a, H a = none → h.ts a cls d (h.ends D) (h.beg σ a) H) ∧ (b = false → wH K Wo D r cls d σ H)
/-- the suite's rule, at each exception -/
def SuO (X : Cx) (b : Stmt) (bs : List Stmt) (ts : Addr → Value → Option Addr → TS) : Prop :=
  ∀ (a : Addr) (o : Obj) (cls : Value) (d : Option Addr) (pn : List (Addr × Obj)), Zc cls d o → (∃ ws, o.data = .fields ws) → PSs (X.suite a ((a, o) :: pn)) (b :: bs) (ts a cls d)
inductive HsOk (X : Cx) : List ExceptHandler → List Hd → Prop
  | nil : HsOk X [] []
  | bare {x : Str} {c : Value} {ts : Addr → Value → Option Addr → TS} {b : Stmt} {bs : List Stmt} {p q : Pos} {hs : List ExceptHandler} {l : List Hd} (hc : Names X x c) (su : SuO X b bs ts) (r : HsOk X hs l) :
      HsOk X (.ExceptHandler (some (.Name x p)) none (b :: bs) q :: hs) (⟨c, none, ts⟩ :: l)
  | as {x n : Str} {i : Nat} {c : Value} {ts : Addr → Value → Option Addr → TS} {b : Stmt} {bs : List Stmt} {p q : Pos} {hs : List ExceptHandler} {l : List Hd} (hc : Names X x c) (hi : X.N[i]? = some n) (hl : X.env.kindOf n = some .local) (su : SuO X b bs ts)
      (r : HsOk X hs l) : HsOk X (.ExceptHandler (some (.Name x p)) (some n) (b :: bs) q :: hs) (⟨c, some i, ts⟩ :: l)
section
variable {X : Cx} {body : List Stmt} {h0 : ExceptHandler} {hds : List ExceptHandler} {l : List Hd} {pos : Pos} {tb : WX → TS} {Wo : WX}
theorem ps_tryH (st : X.stack = X.env :: X.outer) (fr : X.env.frame = some X.env.locals) (nd : X.N.Nodup) (tk : Takes X Wo)
    (bd : ∀ (W : WX) (pn : List (Addr × Obj)) (xe : Value → Shared → Prop), Takes (X.tr pn xe) W → PassesOwn (model X.prog X.w) X.A X.env xe → PSs (X.tr pn xe) body (tb W))
    (hk : HsOk X (h0 :: hds) l) : PS X (.Try body (h0 :: hds) [] [] pos) (fun D σ H => tb (wH X.K Wo D l) D σ H) := by
  refine ⟨fun pins s σ H D I h => wpAny_Try_except ?_⟩
  have ok := I.ok
  have frs' : X.A.frames = some (X.env :: X.outer) := ok.frames.trans (congrArg some st)
  have caught : ∀ u s', XE (X.tr (X.pn ++ pins) (fun e s₁ => wpAny (model X.prog X.w) X.A (noteFrame e X.env) (fun _ s₂ => wpAny (model X.prog X.w) X.A (setFlight e none) (fun _ s₃ =>
      wpAny (model X.prog X.w) X.A (handleBy e X.env (h0 :: hds)) (SP X pins D) X.xe s₃) X.xe s₂) X.xe s₁)) (wH X.K Wo D l) u s' →
      wpAny (model X.prog X.w) X.A (noteFrame u X.env) (fun _ s₂ => wpAny (model X.prog X.w) X.A (setFlight u none) (fun _ s₃ => wpAny (model X.prog X.w) X.A (handleBy u X.env (h0 :: hds)) (SP X pins D) X.xe s₃) X.xe s₂) X.xe s' := by
    rintro u s' ⟨a, B, sI, pins', σ1, H1, cls, d, rfl, J0, nb, up, sky, na, os, ag, w⟩
    have J : Inv X pins σ1 H1 sI := J0.ofTry ok
    have sk : Sky B (X.env :: X.outer) a (Zc cls d) X.env.locals s'.heap := st ▸ sky
    refine Sky.land Zc.steady frs' fr sk fun h3 fl up3 => ?_
    have J3 : Inv X pins σ1 H1 { s' with heap := h3 } := J.landed nb fl.1 (up.trans up3) os ag
    obtain ⟨o3, v3, e3, z3, d3⟩ := fl.there
    have apart : a ∉ frs (X.env :: X.outer) := fun hm => by
      obtain ⟨_, o', e', hnf⟩ := fl.2.2.1.mem hm
      cases e3.symm.trans e'
      exact hnf _ d3
    have nL : a ≠ X.env.locals := fun z => apart (List.mem_filterMap.mpr ⟨X.env, List.mem_cons_self, fr.trans (congrArg some z.symm)⟩)
    have nF : a ∉ X.fs := fun hm => let ⟨e, he, q⟩ := List.mem_filterMap.mp hm; apart (List.mem_filterMap.mpr ⟨e, List.mem_cons_of_mem _ he, q⟩)
    have S3 := J3.suite e3 d3 na nL nF
    have tst : ∀ {x : Str} {c : Value} {p : Pos} {Q E : Value → Shared → Prop}, Names X x c → Q c { s' with heap := h3 } → wpAny (model X.prog X.w) (X.A.mark (some (.ref a))) (eval (.Name x p) X.env) Q E { s' with heap := h3 } := fun {x c p Q E} hc q => by
      obtain ⟨hg, hdb, hm | ⟨hm, hv, nn⟩⟩ := hc
      · exact ld_glob (X := X.suite a ((a, o3) :: (X.pn ++ pins))) S3 hg hm q hdb
      · exact ld_blt (X := X.suite a ((a, o3) :: (X.pn ++ pins))) S3 hg hm hv q nn hdb
    have LT : PySem.W.Looks (model X.prog X.w) h3 (typeOf (.ref a)) cls := fun _ _ _ _ k q => wpAny_typeOf_ref (k _ _ e3) (z3.1.symm ▸ q)
    have go : ∀ {hs' : List ExceptHandler} {l' : List Hd}, HsOk X hs' l' → wH X.K Wo D l' cls d σ1 H1 → wpAny (model X.prog X.w) X.A (handleBy (.ref a) X.env hs') (SP X pins D) X.xe { s' with heap := h3 } := by
      intro hs' l' hk'
      induction hk' with
      | nil =>
        intro w'
        refine wpAny_handleBy_nil ?_
        obtain ⟨y1, y2, y3, oe, ws, T, oT, ts', he, hz, hd, h1, hr⟩ := id fl
        unfold PySem.passOn
        refine wpAny_bind (wpAny_field he hd h1 ?_)
        rw [if_neg (by simp : ¬ ((Value.ref T == Value.none) = true))]
        have fin : wpAny (model X.prog X.w) X.A (setFlight (.ref a) X.env.frame) (fun _ s4 => wpAny (model X.prog X.w) X.A (throw (.ref a) : Sem Flow) (SP X pins D) X.xe s4) X.xe { s' with heap := h3 } := by
          rw [fr]
          exact HandSPX.setFlight_upZ fl fun h4 hh4 up4 => wpAny_throw (tk _ _ ⟨a, B, sI, pins, σ1, H1, cls, d, rfl, J, nb, (up.trans up3).trans up4, .inr (.inr (st.symm ▸ hh4)), na, os, ag, w'⟩)
        first
          | exact wpAny_bind (wpAny_pure (wpAny_bind fin))
          | exact wpAny_bind fin
      | @bare x c ts b bs p q hs2 l2 hc su r ih =>
        rintro ⟨k, k1, yes, no⟩
        refine wpAny_handleBy_cons (codeAny_handlers_test (tst hc ((PySem.W.exm_one (M := model X.prog X.w) J3.kIn LT k1).here ?_))) (by rintro ⟨⟩)
        cases k with
        | false => exact ih (no rfl)
        | true =>
          refine codeAny_handlers_suite (HandSPX.lands_againZ fl fun h4 fl4 up4 => ?_)
          have J4 : Inv X pins σ1 H1 { s' with heap := h4 } := J.landed nb fl4.1 ((up.trans up3).trans up4) os ag
          obtain ⟨o4, v4, e4, z4, d4⟩ := fl4.there
          refine wpAny_mono ((su a o4 cls d (X.pn ++ pins) z4 ⟨_, d4⟩).run [] _ _ H1 _ (J4.suite e4 d4 na nL nF) (yes rfl a na)) (fun f s6 z => ?_) (fun _ _ z => z.elim)
          cases f with
          | next => obtain ⟨σ6, H6, S6, q6⟩ := z; exact ⟨_, _, S6.unsuite ok, q6⟩
          | brk => obtain ⟨σ6, H6, S6, q6⟩ := z; exact ⟨_, _, S6.unsuite ok, q6⟩
          | cont => obtain ⟨σ6, H6, S6, q6⟩ := z; exact ⟨_, _, S6.unsuite ok, q6⟩
          | ret u => obtain ⟨v6, σ6, H6, S6, r6, q6⟩ := z; exact ⟨_, _, _, S6.unsuite ok, r6, q6⟩
      | @as x n i c ts b bs p q hs2 l2 hc hi hl su r ih =>
        rintro ⟨k, k1, yes, no⟩
        refine wpAny_handleBy_cons (codeAny_handlers_test (tst hc ((PySem.W.exm_one (M := model X.prog X.w) J3.kIn LT k1).here ?_))) (by rintro ⟨⟩)
        cases k with
        | false => exact ih (no rfl)
        | true =>
          refine codeAny_handlers_suite_as (HandSPX.lands_againZ fl fun h4 fl4 up4 => ?_)
          have J4 : Inv X pins σ1 H1 { s' with heap := h4 } := J.landed nb fl4.1 ((up.trans up3).trans up4) os ag
          obtain ⟨o4, v4, e4, z4, d4⟩ := fl4.there
          refine store_ok (X := X.suite a ((a, o4) :: (X.pn ++ pins))) (v := .ref a) (J4.suite e4 d4 na nL nF) nd hi (.inl hl) rfl (fun s5 S5 => ?_) (.inr hl)
          have fini : ∀ {s6 : Shared} {σ6 : L2.St} {H6 : Hp} {Q : Shared → Prop}, Inv (X.suite a ((a, o4) :: (X.pn ++ pins))) [] σ6 H6 s6 → (∀ s7, Inv X pins (σ6.set i none) H6 s7 → Q s7) →
              wpAny (model X.prog X.w) X.A (do bindName X.env n .none; unbindBehindTheSuite X.env n q) (fun _ s7 => Q s7) X.xe s6 := fun S6 hq => gone_ok (S6.unsuite ok) nd hi hl hq
          refine wpAny_mono ((su a o4 cls d (X.pn ++ pins) z4 ⟨_, d4⟩).run [] s5 _ H1 _ S5 (yes rfl a na)) (fun f s6 z => ?_) (fun _ _ z => z.elim)
          cases f with
          | next => obtain ⟨σ6, H6, S6, q6⟩ := z; exact fini S6 fun s7 J7 => ⟨_, _, J7, q6⟩
          | brk => obtain ⟨σ6, H6, S6, q6⟩ := z; exact fini S6 fun s7 J7 => ⟨_, _, J7, q6⟩
          | cont => obtain ⟨σ6, H6, S6, q6⟩ := z; exact fini S6 fun s7 J7 => ⟨_, _, J7, q6⟩
          | ret u => obtain ⟨v6, σ6, H6, S6, r6, q6⟩ := z; exact fini S6 fun s7 J7 => ⟨_, _, _, J7, r6, q6⟩
    exact go hk w
  refine wpAny_mono ((bd (wH X.K Wo D l) (X.pn ++ pins) _ caught PassesOwn.looking).run [] s σ H D (I.toTry _) h) (fun f s1 z => ?_) fun _ _ z => z
  cases f with
  | next => obtain ⟨σ', H', J', q⟩ := z; exact wpAny_execs_nil ⟨σ', H', J'.ofTry ok, q⟩
  | brk => obtain ⟨σ', H', J', q⟩ := z; exact ⟨σ', H', J'.ofTry ok, q⟩
  | cont => obtain ⟨σ', H', J', q⟩ := z; exact ⟨σ', H', J'.ofTry ok, q⟩
  | ret u => obtain ⟨v, σ', H', J', r, q⟩ := z; exact ⟨v, σ', H', J'.ofTry ok, r, q⟩
end
end L2.DL

/-! DLE: own error classes over any base whose __init__ stores fields: they are made and raised. -/
namespace L2.DL
open PySem PySem.Spec PyProof.Rows Builtin Builtin.ObjectAttr
section
variable {prog : Program} {w : World} {A : Around} {R : Result → Shared → Prop} {hp : Heap} {g : Array GenState} {d : Drawn} {t : Nat} {os : OsState}
/-- object.__setattr__ up to the store in the own dict -/
theorem osa_any {K : PySem.W.Frag} {f : Str} {tk : Tok} {v : Value} {x C : Addr} {ox : Obj} {od : Option Obj} {cd : ClassData} (X : K.In hp) (I : PySem.W.InstAt hp x ox C od) (hc : PySem.W.clsIn K C = some cd)
    (np : ∀ self, refuseLoop self "__setattr__" cd.mro = pure ()) (hob : cd.mro.contains (.type "object") = true) (ha : PySem.W.findIn K (.ref C) f = some none)
    (hq : wpAny (model prog w) A.in1 (storeInOwnDict (.ref x) (.ref C) (.str f tk) f v false) (fun fin s' => match fin with
      | .done f => R (.ok f) s'
      | .again c' => c'.quiet = true ∧ codeAny (model prog w) A c' R s') (fun e s' => R (.error e) s') ⟨hp, g, d, t, os⟩) :
    codeAny (model prog w) A (.call (.builtin "object.__setattr__") ⟨[.ref x, .str f tk, v], []⟩) R ⟨hp, g, d, t, os⟩ := by
  have SF := PySem.F.store_object
  have ne : cd.mro.isEmpty = false := by
    cases e : cd.mro with
    | nil => rw [e] at hob; cases hob
    | cons _ _ => rfl
  have inst : PySem.W.Looks (model prog w) hp (isInstance (.ref x) (.type "object")) true := I.type.andThen (PySem.W.looks_mroIn X (by unfold PySem.W.mroIn; rw [hc, Option.bind_some, if_neg (by rw [ne]; decide), hob]))
  refine codeAny_call_builtin SF.slot.plain SF.entry (@PySem.W.check_slot (model prog w) _ _ ⟨hp, g, d, t, os⟩ "object.__setattr__" "object" "__setattr__" (.ref x) [.str f tk, v] [] _ SF.kind SF.split inst (SF.args (.ref x) (.str f tk) v) ?_)
  have mro : PySem.W.Looks (model prog w) hp (mroOf (.ref C)) cd.mro := (PySem.W.looks_clsIn X hc).andThen .now
  have tkr : PySem.W.Looks (model prog w) hp (storeTaker? none) none := .now
  rw [PySem.W.osa_eq, refuse_eq]
  refine wpAny_bind (wpAny_bind (I.type.at (wpAny_bind (mro.at ?_))))
  rw [np]
  exact wpAny_pure (wpAny_bind (I.type.at (wpAny_bind ((PySem.W.looks_findIn X ha).at (wpAny_bind (tkr.at hq))))))
end
/-- what the written part says of an error class: bm0 the mro of the base, nw the base's __new__ -/
structure ExC (K : PySem.W.Frag) (C : Addr) (bm0 : List Value) (nw : String) : Prop where
  cls : ∃ nm q N bs bm sn sub ab col dd k0 k1 k2 k3 k5, K.lookup C = some (excClassObj nm q C N bs bm true sn sub ab col dd k0 k1 k2 k3 k5 nw) ∧ (∀ x : String, bm.contains (.type x) = bm0.contains (.type x)) ∧ bm.contains (.type "object") = true ∧
    ∀ self, refuseLoop self "__setattr__" bm = pure ()
  sa : PySem.W.findIn K (.ref C) "__setattr__" = some (some (.builtin "object.__setattr__"))
  exC : PySem.W.subIn K (.ref C) (.type "BaseException") = some true
  tyC : PySem.W.typeIn K (.ref C) = some (.type "type")
  kC : PySem.W.keepIn K (.ref C) = true
/-- own classes, then the base's mro -/
def refsB (t : List Value) : List Value → Bool
  | .ref c :: r => (Value.ref c :: r == t) || refsB t r
  | l => l == t
theorem refsB_or {t : List Value} : ∀ {l : List Value}, refsB t l = true → l = t ∨ ∃ c r, l = .ref c :: r ∧ refsB t r = true
  | [], e => .inl (beq_iff_eq.mp e)
  | .ref c :: r, e => by
    have e : ((Value.ref c :: r == t) || refsB t r) = true := e
    rcases Bool.or_eq_true_iff.mp e with h | h
    · exact .inl (beq_iff_eq.mp h)
    · exact .inr ⟨c, r, rfl, h⟩
  | .none :: _, e | .ellipsis :: _, e | .notImplemented :: _, e | .bool _ :: _, e | .int _ _ :: _, e | .float _ _ :: _, e | .str _ _ :: _, e | .bytes _ _ :: _, e | .type _ :: _, e | .builtin _ :: _, e => .inl (beq_iff_eq.mp e)
theorem refsB_ok {t : List Value} (hp : ∀ self, refuseLoop self "__setattr__" t = pure ()) : ∀ {l : List Value}, refsB t l = true → (∀ x : String, l.contains (.type x) = t.contains (.type x)) ∧ ∀ self, refuseLoop self "__setattr__" l = pure () := by
  intro l
  induction l with
  | nil =>
    intro e
    rcases refsB_or e with h | ⟨_, _, h, _⟩
    · subst h; exact ⟨fun _ => rfl, hp⟩
    · cases h
  | cons a r ih =>
    intro e
    rcases refsB_or e with h | ⟨c, r', h, q⟩
    · subst h; exact ⟨fun _ => rfl, hp⟩
    · cases h
      obtain ⟨h1, h2⟩ := ih q
      exact ⟨fun x => by rw [List.contains_cons, h1 x]; rfl, fun self => by rw [refuseLoop_ref]; exact h2 self⟩
section
variable {X : Cx} {pins : List (Addr × Obj)} {σ : L2.St} {H : Hp} {s : Shared} {a C dx : Addr} {f : Str} {y : V} {u : Value} {fs : List (Str × V)} {Q : Unit → Shared → Prop} {E : Value → Shared → Prop} {A : Around} {bm0 : List Value} {nw : String}
theorem xst_new (T : ExC X.K C bm0 nw) (I : Inv X pins σ H s) (e : H a = some (exo a C none)) (hno : PySem.W.findIn X.K (.ref C) f = some none) (ry : RelV y u)
    (k : ∀ dx s', H dx = none → dx ≠ a → Inv X pins σ (upd (upd H dx (exd dx [(f, y)])) a (exo a C (some dx))) s' → Q () s') : wpAny (model X.prog X.w) A (setAttr (.ref a) f u) Q E s := by
  obtain ⟨nm, q, N, bs, bm, sn, sub, ab, col, dd, k0, k1, k2, k3, k5, hC, _, hob, hnp⟩ := T.cls
  let cd : ClassData := { name := nm, bases := bs, mro := .ref C :: bm, ns := N, qualname := q, hasDict := true, slotNames := sn, subclasses := sub, abstract := ab, collection := col, hasDel := false }
  have hcl : PySem.W.clsIn X.K C = some cd := by unfold PySem.W.clsIn; rw [hC] <;> rfl
  obtain ⟨t1, ho⟩ := exo_at I.hok e
  obtain ⟨h0, gn, dr, tk, ost⟩ := s
  have J : PySem.W.InstAt h0 a { cls := .ref C, dict := none, data := .fields #[.ref t1, .none, .none, .none, .bool false, .none] } C none := ⟨ho, rfl, rfl, trivial⟩
  refine PySem.W.set_plain I.kIn J T.sa (osa_any I.kIn J hcl (fun self => by rw [refuseLoop_ref]; exact hnp self) (by rw [List.contains_cons, hob, Bool.or_true]) hno ?_)
  have hLc : PySem.W.Looks (model X.prog X.w) h0 (classData C) cd := PySem.W.looks_clsIn I.kIn hcl
  have az : a ≠ h0.objs.size := Nat.ne_of_lt (Heap.lt_size ho)
  have a1 : (h0.push { cls := .type "dict", data := .dict #[] }).get? a = some _ := Heap.get?_push_of_some _ ho
  unfold storeInOwnDict ownDictForStores
  repeat (first | with_reducible refine HandSPX.store_in_new ?_ ?_ | with_reducible refine wpAny_loadPart_at ho ?_ | with_reducible refine hLc.at ?_ | wp_step)
  · exact ⟨_, #[], _, (Heap.get?_update_ne _ _ _ _ az.symm).trans (Heap.get?_push_at rfl rfl), rfl, fun e he => absurd he (by simp), fun _ => rfl⟩
  intro h2 tk2 hn hsb
  have dne : h0.objs.size ≠ a := az.symm
  have keep : ∀ b o, b ≠ a → h0.get? b = some o → h2.get? b = some o := fun b o hb q => (hsb.2 b (Nat.ne_of_lt (Heap.lt_size q))).trans ((Heap.get?_update_ne _ _ _ _ hb).trans (Heap.get?_push_of_some _ q))
  have at_a : h2.get? a = some { cls := .ref C, dict := some h0.objs.size, data := .fields #[.ref t1, .none, .none, .none, .bool false, .none] } := (hsb.2 a az).trans (Heap.get?_update_self _ a1 rfl)
  have hz : H h0.objs.size = none := I.hok.fresh (Nat.le_refl _)
  have bz : ∀ {b : Addr} {o : Obj}, h0.get? b = some o → b ≠ h0.objs.size := fun q => Nat.ne_of_lt (Heap.lt_size q)
  have ba : ∀ {b : Addr}, H b = none → b ≠ a := fun n z => by rw [z, e] at n; cases n
  have U : Un X.fs [] H (upd (upd H h0.objs.size (exd h0.objs.size [(f, y)])) a (exo a C (some h0.objs.size))) h0 h2 := by
    constructor
    · exact fun b o q n _ _ => keep b o (ba n) q
    · exact fun b o q n _ _ => ⟨o.slots, keep b o (ba n) q⟩
    · exact fun b o q n _ => by rw [upd_ne (ba n), upd_ne (bz q), n]
    · intro b o q _
      by_cases hb : b = a
      · exact ⟨_, hb ▸ at_a⟩
      · exact ⟨o, keep b o hb q⟩
    · exact fun b xs q => by rw [upd_ne (at_ne e q exo_tup), upd_ne (ne_of_none q hz), q]
    · exact fun b o v q => by rw [upd_ne (at_ne e q exo_frz), upd_ne (ne_of_none q hz), q]
    · exact fun b ps q => ⟨#[], by rw [upd_ne (at_ne e q exo_tbl), upd_ne (ne_of_none q hz), q]; simp⟩
  refine k h0.objs.size _ hz dne (I.un (t' := tk2) U fun b o q => ?_)
  by_cases hb : b = a
  · rw [hb, upd_same] at q
    cases q
    rw [hb]
    exact exo_ok at_a
  rw [upd_ne hb] at q
  by_cases hd : b = h0.objs.size
  · rw [hd, upd_same] at q
    cases q
    rw [hd]
    exact exd_ok hn (relO_put (fs := []) ry fun _ => True.intro)
  rw [upd_ne hd] at q
  refine (I.hok b o q).stay (fun c v hc z => keep c v ?_ z) (fun c hc => ?_) (fun c xs hc => ?_)
  · rcases hc with rfl | hc
    · exact hb
    · exact at_ne e hc exo_own
  · rw [upd_ne (at_ne e hc exo_own), upd_ne (ne_of_none hc hz), hc]
  · rw [upd_ne (at_ne e hc exo_tup), upd_ne (ne_of_none hc hz), hc]
theorem xst_old (T : ExC X.K C bm0 nw) (I : Inv X pins σ H s) (e : H a = some (exo a C (some dx))) (ed : H dx = some (exd dx fs)) (hl : fs.length ≤ 900) (hno : PySem.W.findIn X.K (.ref C) f = some none) (ry : RelV y u)
    (k : ∀ s', Inv X pins σ (upd H dx (exd dx ((f, y) :: fs))) s' → Q () s') : wpAny (model X.prog X.w) A (setAttr (.ref a) f u) Q E s := by
  obtain ⟨nm, q, N, bs, bm, sn, sub, ab, col, dd, k0, k1, k2, k3, k5, hC, _, hob, hnp⟩ := T.cls
  let cd : ClassData := { name := nm, bases := bs, mro := .ref C :: bm, ns := N, qualname := q, hasDict := true, slotNames := sn, subclasses := sub, abstract := ab, collection := col, hasDel := false }
  have hcl : PySem.W.clsIn X.K C = some cd := by unfold PySem.W.clsIn; rw [hC] <;> rfl
  obtain ⟨t1, ho⟩ := exo_at I.hok e
  obtain ⟨mA, hns, rel⟩ := exd_at I.hok ed
  have hw := within_of rel
  obtain ⟨h0, gn, dr, tk, ost⟩ := s
  obtain ⟨oD, _, _, hoD, _, _⟩ := hns.count hw
  have J : PySem.W.InstAt h0 a { cls := .ref C, dict := some dx, data := .fields #[.ref t1, .none, .none, .none, .bool false, .none] } C (some oD) := ⟨ho, rfl, rfl, hoD⟩
  refine PySem.W.set_plain I.kIn J T.sa (osa_any I.kIn J hcl (fun self => by rw [refuseLoop_ref]; exact hnp self) (by rw [List.contains_cons, hob, Bool.or_true]) hno ?_)
  have hLc : PySem.W.Looks (model X.prog X.w) h0 (classData C) cd := PySem.W.looks_clsIn I.kIn hcl
  have hz : (fs.map (·.1)).length ≤ 1000 := by rw [List.length_map]; omega
  unfold storeInOwnDict ownDictForStores
  repeat (first | with_reducible refine PySem.OEX.store_in_old hns hw hz ?_ | with_reducible refine wpAny_loadPart_at ho ?_ | with_reducible refine hLc.at ?_ | wp_step)
  intro h2 tk2 hn hsb
  have live : ∃ o, h2.get? dx = some o := let ⟨o, _, _, e', _⟩ := hn; ⟨o, e'⟩
  exact k _ (I.write (t' := tk2) (x := dx) (e := dx) (o := exd dx ((f, y) :: fs)) (by rw [ed]; trivial) (.inl rfl) (fun b o hb q => (hsb.2 b hb).trans q) live (exd_ok hn (relO_put ry rel)))
end

/-! ### an __init__ that stores its fields -/
inductive Src where
  | par (i : Nat) | txt (s : Str)
def Src.v (σ : L2.St) : Src → Option V
  | .par i => (σ[i]?).join
  | .txt s => some (.str s)
def tX1 (K : PySem.W.Frag) (bm0 : List Value) (nw : String) (f : Str) (r : Src) : TS := fun D σ H => ∃ (a C : Addr) (y : V), σ[0]? = some (some (.ref a)) ∧ r.v σ = some y ∧ ExC K C bm0 nw ∧ PySem.W.findIn K (.ref C) f = some none ∧
  ((H a = some (exo a C none) ∧ ∀ dx, H dx = none → dx ≠ a → D.nx σ (upd (upd H dx (exd dx [(f, y)])) a (exo a C (some dx)))) ∨
    ∃ (dx : Addr) (fs : List (Str × V)), H a = some (exo a C (some dx)) ∧ H dx = some (exd dx fs) ∧ fs.length ≤ 900 ∧ D.nx σ (upd H dx (exd dx ((f, y) :: fs))))
section
variable {X : Cx} {bm0 : List Value} {nw : String} {f : Str} {r : Src} {e : Expr} {n : Str} {p p' pos : Pos}
/-- where a field's value comes from -/
def SrcOk (X : Cx) (e : Expr) (r : Src) : Prop := ∃ te, PE X e te ∧ ∀ σ H y Q, r.v σ = some y → Q y H → te σ H Q
theorem src_txt {s : Str} {j pos} : SrcOk X (.Constant (.str s) j pos) (.txt s) := ⟨_, pe_str, fun σ H y Q h q => by
  cases h
  exact q⟩
theorem src_par (i : Nat) {x : Str} (hN : X.N[i]? = some x := by rfl) (hv : Vis X.env.scope x := by first | exact Or.inl rfl | exact Or.inr (Or.inl rfl) | exact Or.inr (Or.inr rfl)) (hd : (x == ("__debug__" : Str)) = false := by decide)
    (hcd : (x == ("__classdict__" : Str)) = false := by decide) : SrcOk X (.Name x p) (.par i) := ⟨_, pe_var hN hv hd hcd, fun σ H y Q h q => by
  have h : (σ[i]?).join = some y := h
  cases e : σ[i]? with
  | none => rw [e] at h; cases h
  | some o =>
    rw [e] at h
    cases o with
    | none => cases h
    | some z => cases h; exact ⟨y, e, q⟩⟩
theorem ps_x1 {x : Str} (he : SrcOk X e r) (hN : X.N[0]? = some x := by rfl) (hv : Vis X.env.scope x := by first | exact Or.inl rfl | exact Or.inr (Or.inl rfl) | exact Or.inr (Or.inr rfl)) (hd : (x == ("__debug__" : Str)) = false := by decide)
    (hcd : (x == ("__classdict__" : Str)) = false := by decide) (hs : swapsWith e (some (.Attribute (.Name x p) f p')) pos.line X.env = pure false := by rfl) : PS X (.Assign [.Attribute (.Name x p) f p'] e pos) (tX1 X.K bm0 nw f r) := by
  obtain ⟨te, hte, hq⟩ := he
  refine ⟨fun pins s σ H D I h => ?_⟩
  obtain ⟨a, C, y, h0, hy, T, hno, z⟩ := h
  have me : PE X (.Name x p) (tVar 0) := pe_var hN hv hd hcd
  refine plainObj_wpAny_Assign_Attribute (thn (hte.run pins s σ H (fun y' H' => y' = y ∧ H' = H) I (hq σ H y _ hy ⟨rfl, rfl⟩)) fun v s1 ⟨y1, H1, I1, r1, q1, q2⟩ => ?_) hs
  subst q1 q2
  refine thn (me.run pins s1 σ H1 (fun x' H' => x' = .ref a ∧ H' = H1) I1 ⟨.ref a, h0, rfl, rfl⟩) fun v2 s2 ⟨y2, H2, I2, r2, q3, q4⟩ => ?_
  subst q3 q4
  obtain rfl : v2 = Value.ref a := r2
  rcases z with ⟨ea, z⟩ | ⟨dx, fs, ea, ed, hl, z⟩
  · exact xst_new T I2 ea hno r1 fun dx s' n ne J => ⟨σ, _, J, z dx n ne⟩
  · exact xst_old T I2 ea ed hl hno r1 fun s' J => ⟨σ, _, J, z⟩
/-- the fields as they stand: the last one first -/
def zzX (L : List (Str × Src)) (ys : List V) (fs : List (Str × V)) : List (Str × V) := match L, ys with
  | (f, _) :: L, y :: ys => zzX L ys ((f, y) :: fs)
  | _, _ => fs
def tX (K : PySem.W.Frag) (bm0 : List Value) (nw : String) (L : List (Str × Src)) : TS := fun D σ H => ∃ (a C dx : Addr) (ys : List V) (fs : List (Str × V)), σ[0]? = some (some (.ref a)) ∧ L.map (fun p => p.2.v σ) = ys.map some ∧ ExC K C bm0 nw ∧
  (∀ p ∈ L, PySem.W.findIn K (.ref C) p.1 = some none) ∧ H a = some (exo a C (some dx)) ∧ H dx = some (exd dx fs) ∧ fs.length + L.length ≤ 900 ∧ dx ≠ a ∧ D.nx σ (upd H dx (exd dx (zzX L ys fs)))
theorem upd_id {H : Hp} {a : Addr} {o : HO} (h : H a = some o) : upd H a o = H := by
  funext b
  by_cases hb : b = a
  · rw [hb, upd_same, h]
  · rw [upd_ne hb]
theorem upd_upd {H : Hp} {a : Addr} {o o' : HO} : upd (upd H a o) a o' = upd H a o' := by
  funext b
  by_cases hb : b = a
  · rw [hb, upd_same, upd_same]
  · rw [upd_ne hb, upd_ne hb, upd_ne hb]
theorem upd_swap {H : Hp} {a b : Addr} {o o' : HO} (n : a ≠ b) : upd (upd H a o) b o' = upd (upd H b o') a o := by
  funext c
  by_cases hb : c = b
  · rw [hb, upd_same, upd_ne n.symm, upd_same]
  · rw [upd_ne hb]
    by_cases ha : c = a
    · rw [ha, upd_same, upd_same]
    · rw [upd_ne ha, upd_ne ha, upd_ne hb]
theorem pssx_nil : PSs X [] (tX X.K bm0 nw []) := PSs.imp pss_nil fun D σ H h => by
  obtain ⟨a, C, dx, ys, fs, h0, hy, T, hno, ea, ed, hl, ne, z⟩ := h
  cases ys with
  | cons _ _ => cases hy
  | nil =>
    have z : D.nx σ (upd H dx (exd dx fs)) := z
    rw [upd_id ed] at z
    exact z
theorem pssx_cons {st : Stmt} {sts : List Stmt} {L : List (Str × Src)} (h1 : PS X st (tX1 X.K bm0 nw f r)) (h2 : PSs X sts (tX X.K bm0 nw L)) : PSs X (st :: sts) (tX X.K bm0 nw ((f, r) :: L)) := PSs.imp (pss_cons h1 h2) fun D σ H h => by
  obtain ⟨a, C, dx, ys, fs, h0, hy, T, hno, ea, ed, hl, ne, z⟩ := h
  cases ys with
  | nil => cases hy
  | cons y ys =>
    have e1 := List.cons.inj hy
    refine ⟨a, C, y, h0, e1.1, T, hno _ List.mem_cons_self, .inr ⟨dx, fs, ea, ed, by simp only [List.length_cons] at hl; omega, a, C, dx, ys, (f, y) :: fs, h0, e1.2, T, fun p hp => hno p (List.mem_cons_of_mem _ hp), ?_, upd_same, ?_, ne, ?_⟩⟩
    · rw [upd_ne ne.symm]; exact ea
    · simp only [List.length_cons] at hl ⊢; omega
    · rw [upd_upd]; exact z
/-- the whole body: at an error that has no field yet -/
def tXs (K : PySem.W.Frag) (bm0 : List Value) (nw : String) (L : List (Str × Src)) : TS := fun D σ H => ∃ (a C : Addr) (ys : List V), σ[0]? = some (some (.ref a)) ∧ L.map (fun p => p.2.v σ) = ys.map some ∧ ExC K C bm0 nw ∧
  (∀ p ∈ L, PySem.W.findIn K (.ref C) p.1 = some none) ∧ H a = some (exo a C none) ∧ L.length ≤ 900 ∧ ∀ dx, H dx = none → dx ≠ a → D.nx σ (upd (upd H dx (exd dx (zzX L ys []))) a (exo a C (some dx)))
theorem pssx_all {st : Stmt} {sts : List Stmt} {L : List (Str × Src)} (h1 : PS X st (tX1 X.K bm0 nw f r)) (h2 : PSs X sts (tX X.K bm0 nw L)) : PSs X (st :: sts) (tXs X.K bm0 nw ((f, r) :: L)) := PSs.imp (pss_cons h1 h2) fun D σ H h => by
  obtain ⟨a, C, ys, h0, hy, T, hno, ea, hl, z⟩ := h
  cases ys with
  | nil => cases hy
  | cons y ys =>
    have e1 := List.cons.inj hy
    refine ⟨a, C, y, h0, e1.1, T, hno _ List.mem_cons_self, .inl ⟨ea, fun dx hn ne => ⟨a, C, dx, ys, [(f, y)], h0, e1.2, T, fun p hp => hno p (List.mem_cons_of_mem _ hp), upd_same, ?_, ?_, ne, ?_⟩⟩⟩
    · rw [upd_ne ne, upd_same]
    · simp only [List.length_cons, List.length_nil] at hl ⊢; omega
    · rw [upd_swap ne.symm, upd_upd]; exact z dx hn ne
end
/-- a field's value among the arguments (self is the 0-th) -/
def Src.arg (vs : List V) : Src → Option V
  | .par 0 => none
  | .par (i + 1) => vs[i]?
  | .txt s => some (.str s)
/-- the promise of such an __init__ -/
def spX (C : Addr) (L : List (Str × Src)) (n : Nat) : Sp := fun vs H Q _ => ∃ (a : Addr) (ws ys : List V), vs = .ref a :: ws ∧ ws.length = n ∧ L.map (fun p => p.2.arg ws) = ys.map some ∧ H a = some (exo a C none) ∧
  ∀ dx, H dx = none → dx ≠ a → Q .non (upd (upd H dx (exd dx (zzX L ys []))) a (exo a C (some dx)))
theorem arg_v {N : List Str} {a : Addr} {ws : List V} {y : V} {r : Src} (h : r.arg ws = some y) : r.v (start N (.ref a :: ws)) = some y := by
  cases r with
  | txt s => exact h
  | par i =>
    cases i with
    | zero => cases h
    | succ i =>
      have h : ws[i]? = some y := h
      show ((start N (.ref a :: ws))[i + 1]?).join = some y
      unfold start
      rw [List.getElem?_append_left (by have := (List.getElem?_eq_some_iff.mp h).1; simp; omega), List.getElem?_map, List.getElem?_cons_succ, h] <;> rfl
theorem args_v {N : List Str} {a : Addr} {ws : List V} : ∀ {L : List (Str × Src)} {ys : List V}, L.map (fun p => p.2.arg ws) = ys.map some → L.map (fun p => p.2.v (start N (.ref a :: ws))) = ys.map some
  | [], ys, h => h
  | p :: L, [], h => by cases h
  | p :: L, y :: ys, h => by
    have e := List.cons.inj h
    have e1 : p.2.arg ws = some y := e.1
    simp only [List.map_cons]
    rw [arg_v e1, args_v e.2]
section
variable {P : Program} {w : World} {K : PySem.W.Frag} {mg : Str → Option Value} {base : Heap}
theorem Fun.okI {x qual : Str} {st : Stmt} {f : Addr} {fd : FuncData} {N ps : List Str} {k : Nat} {L : List (Str × Src)} {bm0 : List Value} {nw : String} {C : Addr} (F : Fun K x qual st f fd) (S : FnScope N ps (defScope st)) (T : ExC K C bm0 nw)
    (hno : ∀ p ∈ L, PySem.W.findIn K (.ref C) p.1 = some none) (hl : L.length ≤ 900) (n : Nat) (hn : ps.length = n + 1)
    (hb : ∀ (cdv : Value) (A : Around) (outer : List PySem.Env) (s : Shared) (H : Hp) (E : XK), PSs (cxOf CX0 P w K mg base N qual (defScope st) f cdv A outer s H E).nox (defBody st) (tXs K bm0 nw L)) : FnOk P w K mg base CX0 (k + 1) f fd ps (spX C L n) := by
  refine Fun.ok F S (fun vs H Q E h => ?_) fun cdv A outer s H vs Q E hr h => ⟨_, hb cdv A outer s H E, ?_⟩
  · obtain ⟨a, ws, ys, rfl, h1, _⟩ := h
    rw [List.length_cons, h1, hn]
  · obtain ⟨a, ws, ys, rfl, h1, h2, h3, h4⟩ := h
    exact ⟨a, C, ys, by unfold start; simp, args_v h2, T, hno, h3, hl, fun dx hd ne => h4 dx hd ne⟩
end

/-! ### C(e, ..), raised -/
def tMkX (C : Addr) (L : List (Str × Src)) (n : Nat) (ta : TA) : L2.St → Hp → XK → Prop := fun σ H Q => ta σ H fun vs H1 => vs.length = n ∧ n ≤ 1000 ∧ ∃ ys, L.map (fun p => p.2.arg vs) = ys.map some ∧ ∀ dx, H1 dx = none → Q (.ref C) (some dx) (upd H1 dx (.xd (zzX L ys [])))
section
variable {X : Cx} {e : Expr} {es : List Expr} {ta : TA} {p pos : Pos} {bm0 : List Value} {nw B ini : String}
theorem pmk_x {x : Str} {C fI : Addr} {k n : Nat} {fd : FuncData} {ps : List Str} {L : List (Str × Src)} (F : ExcBaseFacts B nw ini bm0) (T : ExC X.K C bm0 nw) (iC : PySem.W.findIn X.K (.ref C) "__init__" = some (some (.ref fI)))
    (tI : PySem.W.typeIn X.K (.ref fI) = some (.type "function")) (F1 : FnOk X.prog X.w X.K X.mg X.base CX0 k fI fd ps (spX C L n)) (hr : Room (k + 1) X.A) (hb : Binds X.K fd ps []) (hg : Gl X x) (hm : X.mg x = some (.ref C)) (ha : PA X (e :: es) ta)
    (hdb : (x == ("__debug__" : Str)) = false := by decide) (he : starEach (e :: es) X.env = (false, eval e X.env) :: starEach es X.env := by rfl) (hpl : (backTo pos (starEach es X.env)).any (·.1) = false := by rfl) :
    PMk X (.Call (.Name x p) (e :: es) [] pos) (tMkX C L n ta) := by
  intro pins s σ H Q I h
  obtain ⟨nm, q, N, bs, bm, sn, sub, ab, col, dd, k0, k1, k2, k3, k5, hC, hbm, _, _⟩ := T.cls
  refine wpAny_Call_Name_kw (ld_glob I hg hm ?_ hdb)
  refine PySem.W.callWith_K (h₀ := X.base) I.ok.mod.kin T.kC (thn (ha.run pos pins s σ H _ I h) fun us s1 ⟨vs, H1, I1, r1, hv, hz, ys, hy, q1⟩ => ⟨I1.kIn, ?_⟩) he hpl
  show wpAny _ _ (call (.ref C) us) _ _ _
  obtain ⟨hp, gn, dr, tk, ost⟩ := s1
  let c := hp.objs.size + 1
  have hn : H1 c = none := I1.hok.fresh (Nat.le_succ _)
  let h2 := (hp.push (PySem.W.kdv_tup us)).push (PySem.HandSPX.excO C hp.objs.size)
  have kk : ∀ b o, hp.get? b = some o → h2.get? b = some o := fun b o e => Heap.get?_push_of_some _ (Heap.get?_push_of_some _ e)
  have hget : h2.get? c = some (PySem.HandSPX.excO C hp.objs.size) := by show ((hp.push (PySem.W.kdv_tup us)).push (PySem.HandSPX.excO C hp.objs.size)).get? (hp.objs.size + 1) = _; heap_get
  have I2 : Inv X pins σ (upd H1 c (exo c C none)) ⟨h2, gn, dr, tk, ost⟩ := I1.laid (t' := tk) (a := c) (o := exo c C none) (h' := h2) kk (Nat.le_succ _) (exo_ok hget)
  have r2 : Vals (V.ref c :: vs) (Value.ref c :: us) := .cons rfl r1
  have hus : us.length = n := by rw [← Paired.length r1]; exact hv
  let Q2 : VK := fun v H2 => v = .non ∧ ∃ (d : Addr) (fs : List (Str × V)), H2 c = some (exo c C (some d)) ∧ H2 d = some (exd d fs) ∧ H1 d = none ∧ Q (.ref C) (some d) (upd (del H2 c) d (.xd fs))
  have hq : spX C L n (V.ref c :: vs) (upd H1 c (exo c C none)) Q2 (fun _ _ _ => False) := by
    refine ⟨c, vs, ys, rfl, hv, hy, upd_same, fun dx hd ne => ⟨rfl, dx, zzX L ys [], upd_same, ?_, ?_, ?_⟩⟩
    · rw [upd_ne ne, upd_same]
    · rw [upd_ne ne] at hd; exact hd
    · rw [upd_ne ne] at hd
      have z := q1 dx hd
      have eq : upd (del (upd (upd (upd H1 c (exo c C none)) dx (exd dx (zzX L ys []))) c (exo c C (some dx))) c) dx (.xd (zzX L ys [])) = upd H1 dx (.xd (zzX L ys [])) := by
        funext b
        by_cases h1 : b = dx
        · rw [h1, upd_same, upd_same]
        · rw [upd_ne h1, upd_ne h1]
          by_cases h2 : b = c
          · rw [h2, del_same, hn]
          · rw [del_ne h2, upd_ne h2, upd_ne h1, upd_ne h2]
      rw [eq]
      exact z
  have hlen : (Value.ref c :: us ++ []).length = ps.length := by
    have e := F1.len _ _ _ _ hq
    rw [List.append_nil, ← e, List.length_cons, List.length_cons, hus, hv]
  have hul : us.length ≤ sizeLine := by rw [hus, sizeLine_eq]; omega
  have run := F1.run (X.A.under (.builtin "type.__call__" ⟨.ref C :: us, []⟩)) X.stack _ _ ⟨Value.ref c :: us, []⟩ (Value.ref c :: us) _ Q2 (fun _ _ _ => False) (hr.make C us []) (I2.env0.make C us []) (by have z := hb ⟨h2, gn, dr, tk, ost⟩ (Value.ref c :: us) I2.kIn hlen; rwa [List.append_nil] at z) r2 hq
  refine wpAny_call (PySem.HandSPX.call_own F hbm (I1.kIn _ _ hC) (PySem.W.looks_findIn I1.kIn iC) (fun self => PySem.W.bind_fn I1.kIn self tI) hul (codeAny_mono run fun r s' hq' => ?_))
  cases r with
  | error er => exact False.elim hq'
  | ok fl =>
    cases fl with
    | ret u =>
      obtain ⟨v, H2, os2, bare2, un2, hok2, rv, ev, d, fs, ea, ed, hd1, q2⟩ := hq'
      subst ev
      obtain ⟨h3, g2, d2, t2, os'⟩ := s'
      exact ⟨rv, mk_end (raises_own T.exC T.tyC) I1 (Nat.le_succ _) kk un2 hok2 os2 bare2 ea ed hd1 q2⟩
    | next => exact False.elim hq'
    | brk => exact False.elim hq'
    | cont => exact False.elim hq'
end
end L2.DL

/-! DL14: raise, try, the fields of a caught error. -/
namespace L2.DL
open PySem PySem.Spec PyProof.Rows
/-! ### raise C(e, ..) -/
def Src.d (ds : List D) : Src → Option D
  | .par 0 => none
  | .par (i + 1) => ds[i]?
  | .txt s => some (.str s)
def fldD (ds : List D) : List (Str × Src) → List Str → List D → Option (List Str × List D)
  | [], ns, vs => some (ns, vs)
  | (f, s) :: L, ns, vs => match s.d ds with
    | some d => fldD ds L (f :: ns) (d :: vs)
    | none => none
theorem src_rep {r : RC} {vs : List V} {ds : List D} (q : Reps r vs ds) {s : Src} {d : D} (h : s.d ds = some d) : ∃ y, s.arg vs = some y ∧ Rep r y d := by
  cases s with
  | txt s => cases h; exact ⟨_, rfl, .str s⟩
  | par i =>
    cases i with
    | zero => cases h
    | succ i => exact q.get h
theorem fld_rep {r : RC} {vs : List V} {ds : List D} (q : Reps r vs ds) : ∀ {L : List (Str × Src)} {ns ns' : List Str} {es es' : List D} {fs : List (Str × V)}, fldD ds L ns es = some (ns', es') → fs.map (·.1) = ns → Reps r (fs.map (·.2)) es →
    ∃ ys, L.map (fun p => p.2.arg vs) = ys.map some ∧ (zzX L ys fs).map (·.1) = ns' ∧ Reps r ((zzX L ys fs).map (·.2)) es'
  | [], ns, ns', es, es', fs, h, h1, h2 => by
    cases h
    exact ⟨[], rfl, h1, h2⟩
  | (f, s) :: L, ns, ns', es, es', fs, h, h1, h2 => by
    unfold fldD at h
    cases e : s.d ds with
    | none => simp only [e] at h; cases h
    | some d =>
      simp only [e] at h
      obtain ⟨y, e1, e2⟩ := src_rep q e
      obtain ⟨ys, z1, z2, z3⟩ := fld_rep q (fs := (f, y) :: fs) h (by simp [h1]) (.cons e2 h2)
      exact ⟨y :: ys, by simp only [List.map_cons]; rw [e1, z1], z2, z3⟩
/-- the module's error class c: n arguments, the fields L -/
structure Erx (P : Program) (w : World) (K : PySem.W.Frag) (mg : Str → Option Value) (base : Heap) (c : Str) (k n : Nat) (L : List (Str × Src)) : Prop where
  ex : ∃ (C fI : Addr) (fd : FuncData) (ps : List Str) (bm0 : List Value) (nw B ini : String), mg c = some (.ref C) ∧ ExcBaseFacts B nw ini bm0 ∧ ExC K C bm0 nw ∧ PySem.W.findIn K (.ref C) "__init__" = some (some (.ref fI)) ∧
    PySem.W.typeIn K (.ref fI) = some (.type "function") ∧ FnOk P w K mg base CX0 k fI fd ps (spX C L n) ∧ Binds K fd ps []
def raiM (c : Str) (L : List (Str × Src)) (n : Nat) (fa : Mo (List D)) : Mo Fl := bnd fa fun ds ρ μ => if ds.length = n then (match fldD ds L [] [] with
  | some (ns, vs) => .ex c ns vs ρ μ
  | none => .no) else .no
section
variable {Φ : Ctx} {X : Cx} {pos pos' p : Pos} {x : Str} {e : Expr} {es : List Expr} {fa : Mo (List D)}
theorem ds_raise {k j n : Nat} {L : List (Str × Src)} (E : Erx X.prog X.w X.K X.mg X.base x k n L) (cn : Cn Φ X j) (ha : DA Φ X (e :: es) fa) (hg : Gl X x) (hj : k + 1 ≤ j := by decide) (hn : n ≤ 1000 := by decide) (hdb : (x == ("__debug__" : Str)) = false := by decide)
    (he : starEach (e :: es) X.env = (false, eval e X.env) :: starEach es X.env := by rfl) (hpl : (backTo pos (starEach es X.env)).any (·.1) = false := by rfl) : DS Φ X (.Raise (some (.Call (.Name x p) (e :: es) [] pos)) none pos') (raiM x L n fa) := by
  obtain ⟨C, fI, fd, ps, bm0, nw, B, ini, hm, F, T, iC, tI, F1, hb⟩ := E.ex
  refine PS.imp (ps_raise cn.calm cn.tk (pmk_x F T iC tI F1 (cn.rm.mono hj) hb hg hm ha hdb he hpl)) fun D σ H ⟨ρ, μ, Cs, os, R, z⟩ => ⟨ρ, μ, Cs, os, R, ?_⟩
  unfold raiM bnd at z
  cases e1 : fa ρ μ with
  | no => rw [e1] at z; exact z
  | ex c ns ds ρ1 μ1 => rw [e1] at z; exact fun Cc dx H' C' os' R S g e => z Cc dx σ H' C' os' R S g e
  | ok ds ρ1 μ1 =>
    rw [e1] at z
    intro vs H1 C1 os1 R1 S1 q1
    dsimp only at z
    split at z
    · rename_i hl
      cases e2 : fldD ds L [] [] with
      | none => rw [e2] at z; exact z.elim
      | some nv =>
        obtain ⟨ns, es'⟩ := nv
        rw [e2] at z
        obtain ⟨ys, h1, h2, h3⟩ := fld_rep q1 (fs := []) e2 rfl .nil
        refine ⟨by rw [q1.length, hl], hn, ys, h1, fun dx hd => ?_⟩
        have gr : Grow H1 (upd H1 dx (.xd (zzX L ys []))) := Grow.upd hd
        exact z C dx σ _ C1 os1 (R1.grow gr) (S1.trans (stp_grow gr)) hm ⟨_, upd_same, R1.fresh hd, h2, h3.step (stp_grow gr)⟩
    · exact z.elim
end

/-! ### try -/
/-- is an error of the first class caught by a clause of the second one -/
abbrev Sub := List ((Str × Str) × Bool)
def SubOk (K : PySem.W.Frag) (mg : Str → Option Value) (T : Sub) : Prop := ∀ c h b, T.lookup (c, h) = some b → ∀ Cc Hc, mg c = some (.ref Cc) → mg h = some (.ref Hc) → PySem.W.exmOne K (.ref Cc) (.ref Hc) = some b
def noE : Option Ent → Option Ent
  | some (.eh _ _ _) => none
  | t => t
def clr (ρ : Env) : Env := ρ.map noE
structure HD where
  h : Str
  i : Option Nat
  f : Mo Fl
def HD.beg (h : HD) (t : Ent) (ρ : Env) : Env := match h.i with
  | none => clr ρ
  | some i => (clr ρ).set i (some t)
def HD.fin (h : HD) (ρ : Env) : Env := match h.i with
  | none => clr ρ
  | some i => (clr ρ).set i none
def hdl (T : Sub) (c : Str) (ns : List Str) (vs : List D) : List HD → Mo Fl
  | [] => fun ρ μ => .ex c ns vs ρ μ
  | h :: r => match T.lookup (c, h.h) with
    | some true => fun ρ μ => match h.f (h.beg (.eh c ns vs) ρ) μ with
      | .ok fl ρ' μ' => .ok fl (h.fin ρ') μ'
      | _ => .no
    | some false => hdl T c ns vs r
    | none => no
def tryM (T : Sub) (body : Mo Fl) (hs : List HD) : Mo Fl := fun ρ μ => match body ρ μ with
  | .ex c ns vs ρ' μ' => hdl T c ns vs hs ρ' μ'
  | o => o
def Ctx.su (Φ : Ctx) (a dx : Addr) (c : Str) : Ctx := { Φ with W := fun _ _ _ _ => False, eh := some (a, dx), ec := c }
/-- what a suite may know of the error -/
structure EhX (Φ : Ctx) (X : Cx) (a : Addr) (o : Obj) : Prop where
  ex : ∃ dx Cc, Φ.eh = some (a, dx) ∧ X.mg Φ.ec = some (.ref Cc) ∧ Zc (.ref Cc) (some dx) o ∧ ∃ ws, o.data = .fields ws
/-- a suite's rule -/
def SuD (Φ : Ctx) (X : Cx) (bs : List Stmt) (f : Mo Fl) : Prop := ∀ (a dx : Addr) (c : Str) (o : Obj) (pn : List (Addr × Obj)), EhX (Φ.su a dx c) X a o → DSs (Φ.su a dx c) (X.suite a ((a, o) :: pn)) bs f
inductive DHs (Φ : Ctx) (X : Cx) : List ExceptHandler → List HD → Prop
  | nil : DHs Φ X [] []
  | bare {x : Str} {b : Stmt} {bs : List Stmt} {p q : Pos} {hs : List ExceptHandler} {l : List HD} {f : Mo Fl} (hg : Gl X x) (hm : ∃ C, X.mg x = some (.ref C)) (hd : (x == ("__debug__" : Str)) = false) (su : SuD Φ X (b :: bs) f) (r : DHs Φ X hs l) :
      DHs Φ X (.ExceptHandler (some (.Name x p)) none (b :: bs) q :: hs) (⟨x, none, f⟩ :: l)
  | as {x n : Str} {i : Nat} {b : Stmt} {bs : List Stmt} {p q : Pos} {hs : List ExceptHandler} {l : List HD} {f : Mo Fl} (hg : Gl X x) (hm : ∃ C, X.mg x = some (.ref C)) (hd : (x == ("__debug__" : Str)) = false) (hi : X.N[i]? = some n)
      (hl : X.env.kindOf n = some .local) (su : SuD Φ X (b :: bs) f) (r : DHs Φ X hs l) : DHs Φ X (.ExceptHandler (some (.Name x p)) (some n) (b :: bs) q :: hs) (⟨x, some i, f⟩ :: l)
section
variable {Φ : Ctx} {X : Cx}
theorem Rl.clr {Φ : Ctx} {K : PySem.W.Frag} {mg : Str → Option Value} {ρ : Env} {μ : Sto} {C : List Addr} {os : Os} {σ : L2.St} {H : Hp} (R : RlK Φ K mg ρ μ C os σ H) (w : WX) (e : Option (Addr × Addr)) (c : Str) : RlK { Φ with W := w, eh := e, ec := c } K mg (DL.clr ρ) μ C os σ H :=
  ⟨by unfold DL.clr; rw [List.length_map]; exact R.len, fun i t h => by
    unfold DL.clr at h
    rw [List.getElem?_map] at h
    obtain ⟨t0, h1, h2⟩ := Option.map_eq_some_iff.mp h
    cases t0 with
    | none => cases h2
    | some t0 =>
      obtain ⟨v, h3, h4⟩ := R.env i t0 h1
      refine ⟨v, h3, ?_⟩
      cases t0 with
      | sh d => cases h2; exact h4
      | ow d => cases h2; exact h4
      | bd c ns ds => cases h2; exact h4
      | eh c ns ds => exact (by cases h2), R.sto, R.own, R.fre, R.pre, R.cfr, R.cnd, R.clv, R.frm, R.alv⟩
theorem Rl.unset {Φ : Ctx} {K : PySem.W.Frag} {mg : Str → Option Value} {ρ : Env} {μ : Sto} {C : List Addr} {os : Os} {σ : L2.St} {H : Hp} (R : RlK Φ K mg ρ μ C os σ H) (i : Nat) : RlK Φ K mg (ρ.set i none) μ C os (σ.set i none) H :=
  ⟨by rw [List.length_set, List.length_set]; exact R.len, fun j t h => by
    by_cases hj : i = j
    · subst hj
      by_cases hl : i < ρ.length
      · rw [List.getElem?_set_self hl] at h; cases h
      · rw [List.getElem?_eq_none (by simpa using hl)] at h; cases h
    · rw [List.getElem?_set_ne hj] at h
      obtain ⟨v, h3, h4⟩ := R.env j t h
      exact ⟨v, by rw [List.getElem?_set_ne hj]; exact h3, h4⟩, R.sto, R.own, R.fre, R.pre, R.cfr, R.cnd, R.clv, R.frm, R.alv⟩
/-- the reading of a suite -/
def tSu (Φ : Ctx) (X : Cx) (f : Mo Fl) (a : Addr) (cls : Value) (d : Option Addr) : TS := fun D σ H => ∃ dx c Cc, d = some dx ∧ cls = .ref Cc ∧ X.mg c = some (.ref Cc) ∧ cS (Φ.su a dx c) X f D σ H
theorem SuD.ok {b : Stmt} {bs : List Stmt} {f : Mo Fl} (h : SuD Φ X (b :: bs) f) : SuO X b bs (tSu Φ X f) := fun a o cls d pn hz hf => ⟨fun pins s σ H D I q => by
  obtain ⟨dx, c, Cc, rfl, rfl, hm, q⟩ := q
  exact (h a dx c o pn ⟨dx, Cc, rfl, hm, hz, hf⟩).run pins s σ H D I q⟩
theorem hdl_at {T : Sub} {hds : List ExceptHandler} {hs : List HD} (hT : SubOk X.K X.mg T) (hk : DHs Φ X hds hs) : ∃ l, HsOk X hds l ∧ ∀ (E : Ends) (c : Str) (ns : List Str) (vs : List D) (ρ : Env) (μ : Sto) (C : List Addr) (os : Os) (σ : L2.St) (H : Hp) (Cc dx : Addr),
    Rl Φ X ρ μ C os σ H → X.mg c = some (.ref Cc) → EhR (rc Φ X C os H) dx c ns vs → PostS Φ X C os H (hdl T c ns vs hs ρ μ) E → wH X.K Φ.W E l (.ref Cc) (some dx) σ H := by
  have deal : ∀ (h : HD) (E : Ends) (c : Str) (ns : List Str) (vs : List D) (ρ : Env) (μ : Sto) (C : List Addr) (os : Os) (σ : L2.St) (H : Hp) (Cc dx a Hc : Addr), Rl Φ X ρ μ C os σ H → X.mg c = some (.ref Cc) → EhR (rc Φ X C os H) dx c ns vs →
      PostS Φ X C os H ((fun ρ μ => match h.f (h.beg (.eh c ns vs) ρ) μ with
        | .ok fl ρ' μ' => .ok fl (h.fin ρ') μ'
        | _ => .no : Mo Fl) ρ μ) E → tSu Φ X h.f a (.ref Cc) (some dx) ((⟨.ref Hc, h.i, tSu Φ X h.f⟩ : Hd).ends E) ((⟨.ref Hc, h.i, tSu Φ X h.f⟩ : Hd).beg σ a) H := by
    intro h E c ns vs ρ μ C os σ H Cc dx a Hc R hm he z
    have R1 : RlK (Φ.su a dx c) X.K X.mg (clr ρ) μ C os σ H := Rl.clr R _ _ _
    have R2 : RlK (Φ.su a dx c) X.K X.mg (h.beg (.eh c ns vs) ρ) μ C os ((⟨.ref Hc, h.i, tSu Φ X h.f⟩ : Hd).beg σ a) H := by
      cases e : h.i with
      | none =>
        unfold HD.beg
        simp only [e]
        exact R1
      | some i =>
        unfold HD.beg
        simp only [e]
        exact Rl.setv (Φ := Φ.su a dx c) (X := X) (v := .ref a) (t := .eh c ns vs) R1 ⟨a, dx, rfl, ⟨rfl, rfl⟩, he⟩
    refine ⟨dx, c, Cc, rfl, rfl, hm, h.beg (.eh c ns vs) ρ, μ, C, os, R2, ?_⟩
    cases e : h.f (h.beg (.eh c ns vs) ρ) μ with
    | no => simp only [e] at z; exact z
    | ex _ _ _ _ _ => simp only [e] at z; exact z.elim
    | ok fl ρ' μ' =>
      simp only [e] at z
      intro σ' H' C' os' R' S'
      have R3 : RlK Φ X.K X.mg (h.fin ρ') μ' C' os' ((⟨.ref Hc, h.i, tSu Φ X h.f⟩ : Hd).fin σ') H' := by
        have R4 : RlK Φ X.K X.mg (clr ρ') μ' C' os' σ' H' := Rl.clr R' Φ.W Φ.eh Φ.ec
        cases e : h.i with
        | none =>
          unfold HD.fin
          simp only [e]
          exact R4
        | some i =>
          unfold HD.fin
          simp only [e]
          exact Rl.unset R4 i
      have z := z _ H' C' os' R3 S'
      cases fl with
      | nx => exact z
      | bk => exact z
      | ct => exact z
      | rt d => exact z
      | ro d => exact z
  induction hk with
  | nil => exact ⟨[], .nil, fun E c ns vs ρ μ C os σ H Cc dx R hm he z => z Cc dx σ H C os R (Stp.refl _) hm he⟩
  | @bare x b bs p q hs l f hg hm hd su r ih =>
    obtain ⟨l', h1, h2⟩ := ih
    obtain ⟨Hc, hHc⟩ := hm
    refine ⟨⟨.ref Hc, none, tSu Φ X f⟩ :: l', .bare ⟨hg, hd, .inl hHc⟩ su.ok h1, fun E c ns vs ρ μ C os σ H Cc dx R hm he z => ?_⟩
    unfold hdl at z
    cases e : T.lookup (c, x) with
    | none => simp only [e] at z; exact z.elim
    | some k =>
      refine ⟨k, hT c x k e Cc Hc hm hHc, fun hk a _ => ?_, fun hk => ?_⟩
      · subst hk
        simp only [e] at z
        exact deal ⟨x, none, f⟩ E c ns vs ρ μ C os σ H Cc dx a Hc R hm he z
      · subst hk
        simp only [e] at z
        exact h2 E c ns vs ρ μ C os σ H Cc dx R hm he z
  | @as x n i b bs p q hs l f hg hm hd hi hl su r ih =>
    obtain ⟨l', h1, h2⟩ := ih
    obtain ⟨Hc, hHc⟩ := hm
    refine ⟨⟨.ref Hc, some i, tSu Φ X f⟩ :: l', .as ⟨hg, hd, .inl hHc⟩ hi hl su.ok h1, fun E c ns vs ρ μ C os σ H Cc dx R hm he z => ?_⟩
    unfold hdl at z
    cases e : T.lookup (c, x) with
    | none => simp only [e] at z; exact z.elim
    | some k =>
      refine ⟨k, hT c x k e Cc Hc hm hHc, fun hk a _ => ?_, fun hk => ?_⟩
      · subst hk
        simp only [e] at z
        exact deal ⟨x, some i, f⟩ E c ns vs ρ μ C os σ H Cc dx a Hc R hm he z
      · subst hk
        simp only [e] at z
        exact h2 E c ns vs ρ μ C os σ H Cc dx R hm he z
theorem ds_try {k : Nat} {T : Sub} {body : List Stmt} {h0 : ExceptHandler} {hds : List ExceptHandler} {hs : List HD} {f : Mo Fl} {pos : Pos} (cn : Cn Φ X k) (hT : SubOk X.K X.mg T)
    (hb : ∀ (W : WX) (pn : List (Addr × Obj)) (xe : Value → Shared → Prop), Cn { Φ with W := W } (X.tr pn xe) k → DSs { Φ with W := W } (X.tr pn xe) body f) (hk : DHs Φ X (h0 :: hds) hs) (st : X.stack = X.env :: X.outer := by rfl) (fr : X.env.frame = some X.env.locals := by rfl) :
    DS Φ X (.Try body (h0 :: hds) [] [] pos) (tryM T f hs) := by
  obtain ⟨l, h1, h2⟩ := hdl_at hT hk
  refine PS.imp (ps_tryH (tb := fun W => cS { Φ with W := W } X f) st fr cn.nd cn.tk (fun W pn xe tk po => hb W pn xe ⟨cn.nd, cn.calm, po, tk, cn.rm⟩) h1) fun E σ H ⟨ρ, μ, C, os, R, z⟩ => ⟨ρ, μ, C, os, Rl.wW R _, ?_⟩
  unfold tryM at z
  cases e : f ρ μ with
  | no => simp only [e] at z; exact z
  | ok fl ρ' μ' =>
    simp only [e] at z
    intro σ' H' C' os' R' S'
    have z := z σ' H' C' os' (Rl.unW R') S'
    cases fl with
    | nx => exact z
    | bk => exact z
    | ct => exact z
    | rt d => exact z
    | ro d => exact z
  | ex c ns vs ρ' μ' =>
    simp only [e] at z
    intro Cc dx σ' H' C' os' R' S' hm he
    exact h2 E c ns vs ρ' μ' C' os' σ' H' Cc dx (Rl.unW R') hm he (PostS.from S' z)

/-! ### e.f in a suite -/
/-- the classes cs and their fields fs -/
def XfT (K : PySem.W.Frag) (mg : Str → Option Value) (cs fs : List Str) : Prop := ∀ c ∈ cs, ∀ Cc, mg c = some (.ref Cc) → XfC K Cc ∧ ∀ f ∈ fs, PySem.W.findIn K (.ref Cc) f = some none
def exAt (cs fs : List Str) (i : Nat) (f : Str) : Mo D := fun ρ μ => match ρ[i]? with
  | some (some (.eh c ns vs)) => if c ∈ cs ∧ f ∈ fs then (match (ns.zip vs).lookup f with
    | some d => .ok d ρ μ
    | none => .no) else .no
  | _ => .no
theorem zip_look {r : RC} {f : Str} {d : D} : ∀ {fs : List (Str × V)} {ns : List Str} {vs : List D}, fs.map (·.1) = ns → Reps r (fs.map (·.2)) vs → (ns.zip vs).lookup f = some d → ∃ v, fs.lookup f = some v ∧ Rep r v d
  | [], ns, vs, h1, h2, h => by
    subst h1
    cases h
  | (g, y) :: fs, ns, vs, h1, h2, h => by
    subst h1
    cases h2 with
    | cons q t =>
      simp only [List.map_cons, List.zip_cons_cons] at h
      unfold List.lookup at h ⊢
      by_cases e : f == g
      · simp only [e] at h ⊢
        cases h
        exact ⟨y, rfl, q⟩
      · simp only [e] at h ⊢
        exact zip_look rfl t h
theorem de_exat {cs fs : List Str} {i : Nat} {a : Addr} {o : Obj} {pn : List (Addr × Obj)} {x f : Str} {p pos : Pos} (E : EhX Φ X a o) (T : XfT X.K X.mg cs fs) (hN : X.N[i]? = some x := by rfl)
    (hv : Vis X.env.scope x := by first | exact Or.inl rfl | exact Or.inr (Or.inl rfl) | exact Or.inr (Or.inr rfl)) (hd : (x == ("__debug__" : Str)) = false := by decide) (hcd : (x == ("__classdict__" : Str)) = false := by decide)
    (hb : attributeBase (.Name x p) f (X.suite a ((a, o) :: pn)).env (eval (.Name x p) (X.suite a ((a, o) :: pn)).env) = eval (.Name x p) (X.suite a ((a, o) :: pn)).env := by rfl) : DE Φ (X.suite a ((a, o) :: pn)) (.Attribute (.Name x p) f pos) (exAt cs fs i f) := by
  obtain ⟨dx, Cc, h1, h2, h3, h4⟩ := E.ex
  by_cases hc : Φ.ec ∈ cs ∧ f ∈ fs
  · obtain ⟨t1, t2⟩ := T _ hc.1 Cc h2
    refine PE.imp (pe_xf t1 (t2 f hc.2) h3 h4 (pe_var (X := X.suite a ((a, o) :: pn)) hN hv hd hcd) hb) fun σ H Q ⟨ρ, μ, C, os, R, z⟩ => ?_
    unfold exAt at z
    cases e : ρ[i]? with
    | none => simp only [e] at z; exact z.elim
    | some t =>
      cases t with
      | none => simp only [e] at z; exact z.elim
      | some t =>
        cases t with
        | sh d => simp only [e] at z; exact z.elim
        | ow d => simp only [e] at z; exact z.elim
        | bd _ _ _ => simp only [e] at z; exact z.elim
        | eh c ns vs =>
          simp only [e] at z
          split at z
          · obtain ⟨v, hv', a', dx', rfl, ⟨k1, k2⟩, gs, g1, g2, g3, g4⟩ := R.env i _ e
            rw [h1] at k1
            cases k1
            cases e2 : (ns.zip vs).lookup f with
            | none => simp only [e2] at z; exact z.elim
            | some d =>
              simp only [e2] at z
              obtain ⟨y, y1, y2⟩ := zip_look g3 g4 e2
              exact ⟨.ref a, hv', rfl, rfl, dx, gs, y, rfl, g1, y1, z y H C os R (Stp.refl _) y2⟩
          · exact z.elim
  · refine ⟨fun pins s σ H Q I ⟨ρ, μ, C, os, R, z⟩ => ?_⟩
    exfalso
    unfold exAt at z
    cases e : ρ[i]? with
    | none => simp only [e] at z; exact z.elim
    | some t =>
      cases t with
      | none => simp only [e] at z; exact z.elim
      | some t =>
        cases t with
        | sh d => simp only [e] at z; exact z.elim
        | ow d => simp only [e] at z; exact z.elim
        | bd _ _ _ => simp only [e] at z; exact z.elim
        | eh c ns vs =>
          simp only [e] at z
          split at z
          · rename_i hc2
            obtain ⟨v, hv', a', dx', rfl, ⟨k1, k2⟩, _⟩ := R.env i _ e
            exact hc ⟨k2 ▸ hc2.1, hc2.2⟩
          · exact z.elim
end
end L2.DL

/-! DL15: calls by keyword; an owned list that becomes a cell. -/
namespace L2.DL
open PySem PySem.Spec PyProof.Rows
/-- the items at the places ix -/
def pick {α : Type} (ix : List Nat) (l : List α) : List α := ix.filterMap (l[·]?)
theorem pick_vals {vs : List V} {us : List Value} (r : Vals vs us) : ∀ ix : List Nat, Vals (pick ix vs) (pick ix us)
  | [] => .nil
  | i :: ix => by
    have ih := pick_vals r ix
    unfold pick at ih ⊢
    rw [List.filterMap_cons, List.filterMap_cons]
    cases e : vs[i]? with
    | none =>
      have e2 : us[i]? = none := List.getElem?_eq_none (by rw [← r.length]; exact List.getElem?_eq_none_iff.mp e)
      rw [e2]
      exact ih
    | some v =>
      obtain ⟨u, hu, rv⟩ := r.get e
      rw [hu]
      exact .cons rv ih
theorem pick_reps {r : RC} {vs : List V} {ds : List D} (q : Reps r vs ds) : ∀ ix : List Nat, Reps r (pick ix vs) (pick ix ds)
  | [] => .nil
  | i :: ix => by
    have ih := pick_reps q ix
    unfold pick at ih ⊢
    rw [List.filterMap_cons, List.filterMap_cons]
    cases e : ds[i]? with
    | none =>
      have e2 : vs[i]? = none := List.getElem?_eq_none (by rw [q.length]; exact List.getElem?_eq_none_iff.mp e)
      rw [e2]
      exact ih
    | some v =>
      obtain ⟨u, hu, rv⟩ := q.get e
      rw [hu]
      exact .cons rv ih
section
variable {X : Cx} {CX : CXT} {k n : Nat} {f : Addr} {fd : FuncData} {ps ks : List Str} {sp : Sp} {E : L2.St → XK} {x : Str} {p pos : Pos} {es : List Expr} {kws : List Keyword} {t tk : TA} {ix : List Nat}
/-- f(e, .., k = v, ..), with any number of positional arguments -/
def tKw (n m : Nat) (ix : List Nat) (sp : Sp) (E : L2.St → XK) (t tk : TA) : TE := fun σ H Q => t σ H fun vs H1 => tk σ H1 fun zs H2 => vs.length = n ∧ zs.length = m ∧ sp (pick ix (vs ++ zs)) H2 Q (E σ)
/-- n positional arguments, then the keywords ks; the parameters get the items at ix -/
def KwB (K : PySem.W.Frag) (fd : FuncData) (ps ks : List Str) (n : Nat) (ix : List Nat) : Prop :=
  ∀ (s : Shared) (us ws : List Value), K.In s.heap → us.length = n → ws.length = ks.length → BindsTo s fd ⟨us, ks.zip ws⟩ (ps.zip (pick ix (us ++ ws)))
theorem pe_kw (F : FnOk X.prog X.w X.K X.mg X.base CX k f fd ps sp) (hr : Room k X.A) (hg : Gl X x) (hm : X.mg x = some (.ref f)) (hk : PySem.W.keepIn X.K (.ref f) = true) (hb : KwB X.K fd ps ks n ix) (hx : ∀ σ, PassesAt CX X σ (E σ))
    (ha : PA X es t) (hkw : PK X kws tk) (hall : (backToKw pos (keywordEach kws X.env)).all (·.1.isSome) = true := by rfl) (hks : (backToKw pos (keywordEach kws X.env)).filterMap (·.1) = ks := by rfl)
    (hdb : (x == ("__debug__" : Str)) = false := by decide) (hpl : ((backTo pos (starEach es X.env)).any (·.1) || (backToKw pos (keywordEach kws X.env)).any (·.1.isNone)) = false := by rfl)
    (he : (es = [] ∧ n = 0) ∨ ∃ e r, es = e :: r ∧ starEach (e :: r) X.env = (false, eval e X.env) :: starEach r X.env := by first | exact .inl ⟨rfl, rfl⟩ | exact .inr ⟨_, _, rfl, rfl⟩) :
    PE X (.Call (.Name x p) es kws pos) (tKw n ks.length ix sp E t tk) := by
  refine ⟨fun pins s σ H Q I h => wpAny_Call_Name_kw (ld_glob I hg hm ?_ hdb)⟩
  have go : ∀ {us ws : List Value} {vs zs : List V} {s2 : Shared} {H2 : Hp}, Inv X pins σ H2 s2 → Vals vs us → Vals zs ws → vs.length = n → zs.length = ks.length → sp (pick ix (vs ++ zs)) H2 Q (E σ) → wpAny (model X.prog X.w) X.A (call (.ref f) us (ks.zip ws)) (EP X pins σ Q) X.xe s2 := by
    intro us ws vs zs s2 H2 I2 r rz l1 l2 q
    refine wpAny_call (codeAny_mono (F.run X.A X.stack s2 H2 ⟨us, ks.zip ws⟩ _ _ Q (E σ) hr I2.env0 (hb s2 us ws I2.kIn (r.length.symm.trans l1) (rz.length.symm.trans l2)) (pick_vals (r.append rz) ix) q) fun o s' hq => ?_)
    cases o with
    | error e => exact hx σ pins H2 s2 e s' I2 hq
    | ok fl =>
      cases fl with
      | ret u => exact I2.after hq
      | next => exact hq.elim
      | brk => exact hq.elim
      | cont => exact hq.elim
  rcases he with ⟨rfl, hn0⟩ | ⟨e, r0, rfl, he⟩
  · refine PySem.W.callWith_KW0 (h₀ := X.base) I.ok.mod.kin hk hall ?_ hpl
    show wpAny (model X.prog X.w) X.A ((spliced (backTo pos (starEach [] X.env))) >>= fun _ => evalAll ((backToKw pos (keywordEach kws X.env)).map (·.2))) _ _ _
    refine wpAny_bind (thn (ha.run pos pins s σ H _ I h) fun us s1 ⟨vs, H1, I1, r, q⟩ => ?_)
    refine thn (hkw.run pos pins s1 σ H1 _ I1 q) fun ws s2 ⟨zs, H2, I2, rz, l1, l2, q2⟩ => ⟨I2.kIn, ?_⟩
    rw [hks]
    have lv : vs.length = 0 := l1.trans hn0
    cases vs with
    | cons _ _ => cases lv
    | nil =>
      cases r
      exact go I2 .nil rz l1 l2 q2
  · refine PySem.W.callWith_KW (h₀ := X.base) I.ok.mod.kin hk hall (thn (ha.run pos pins s σ H _ I h) fun us s1 ⟨vs, H1, I1, r, q⟩ => ?_) hpl he
    refine thn (hkw.run pos pins s1 σ H1 _ I1 q) fun ws s2 ⟨zs, H2, I2, rz, l1, l2, q2⟩ => ⟨I2.kIn, ?_⟩
    rw [hks]
    exact go I2 r rz l1 l2 q2
end
section
variable {Φ : Ctx} {X : Cx} {x : Str} {p pos kpos : Pos} {e : Expr} {es : List Expr} {kws : List Keyword} {f : Mo D} {g fa fk : Mo (List D)} {nm : Option Str}
theorem tcons_of {σ : L2.St} {H : Hp} {Q : List V → Hp → Prop} (h : cA Φ X (acons f g) σ H Q) : tCons (cE Φ X f) (cA Φ X g) σ H Q := by
  obtain ⟨ρ, μ, C, os, R, h⟩ := h
  refine ⟨ρ, μ, C, os, R, ?_⟩
  unfold acons bnd at h
  cases e1 : f ρ μ with
  | no => rw [e1] at h; exact h
  | ex c ns ds ρ1 μ1 => rw [e1] at h; exact h
  | ok d ρ1 μ1 =>
    rw [e1] at h
    intro v H1 C1 os1 R1 S1 q1
    refine ⟨ρ1, μ1, C1, os1, R1, ?_⟩
    have h := PostA.from S1 h
    cases e2 : g ρ1 μ1 with
    | no => simp only [e2] at h; exact h
    | ex c ns ds ρ2 μ2 => simp only [e2] at h; exact h
    | ok ds ρ2 μ2 =>
      simp only [e2] at h
      exact fun vs H2 C2 os2 R2 S2 q2 => h (v :: vs) H2 C2 os2 R2 S2 (.cons (q1.step S2) q2)
def DK (Φ : Ctx) (X : Cx) (kws : List Keyword) (f : Mo (List D)) : Prop := PK X kws (cA Φ X f)
theorem PK.imp {t t' : TA} (h : PK X kws t) (i : ∀ σ H Q, t' σ H Q → t σ H Q) : PK X kws t' := ⟨fun pos pins s σ H Q I q => h.run pos pins s σ H Q I (i σ H Q q)⟩
theorem dk_nil : DK Φ X [] anil := PK.imp pk_nil fun σ H Q ⟨ρ, μ, C, os, R, h⟩ => h [] H C os R (Stp.refl _) .nil
theorem dk_cons (he : DE Φ X e f) (hr : DK Φ X kws g) : DK Φ X (⟨nm, e, kpos⟩ :: kws) (acons f g) := PK.imp (pk_cons he hr) fun σ H Q h => tcons_of h
def kwA (n m : Nat) (ix : List Nat) (fa fk : Mo (List D)) : Mo (List D) := bnd fa fun ds => bnd fk fun es => if ds.length = n ∧ es.length = m then ret (pick ix (ds ++ es)) else no
/-- the module's def x, called with n arguments by place, then by the names ks -/
structure DfK (P : Program) (w : World) (K : PySem.W.Frag) (mg : Str → Option Value) (base : Heap) (x : Str) (k : Nat) (G : Fn) (n : Nat) (ks : List Str) (ix : List Nat) : Prop where
  ex : ∃ f fd ps, FnOk P w K mg base (L2.CX P w) k f fd ps (spD K mg G) ∧ mg x = some (.ref f) ∧ PySem.W.keepIn K (.ref f) = true ∧ KwB K fd ps ks n ix
theorem de_callK {k j n : Nat} {G : Fn} {ks : List Str} {ix : List Nat} (F : DfK X.prog X.w X.K X.mg X.base x k G n ks ix) (c : Cc Φ X j) (ha : DA Φ X es fa) (hw : DK Φ X kws fk) (hg : Gl X x) (hj : k ≤ j := by decide)
    (hall : (backToKw pos (keywordEach kws X.env)).all (·.1.isSome) = true := by rfl) (hks : (backToKw pos (keywordEach kws X.env)).filterMap (·.1) = ks := by rfl)
    (hdb : (x == ("__debug__" : Str)) = false := by decide) (hpl : ((backTo pos (starEach es X.env)).any (·.1) || (backToKw pos (keywordEach kws X.env)).any (·.1.isNone)) = false := by rfl)
    (he : (es = [] ∧ n = 0) ∨ ∃ e r, es = e :: r ∧ starEach (e :: r) X.env = (false, eval e X.env) :: starEach r X.env := by first | exact .inl ⟨rfl, rfl⟩ | exact .inr ⟨_, _, rfl, rfl⟩) :
    DE Φ X (.Call (.Name x p) es kws pos) (calM G (kwA n ks.length ix fa fk)) := by
  obtain ⟨f, fd, ps, F, hm, hk, hb⟩ := F.ex
  refine PE.imp (pe_kw F (c.rm.mono hj) hg hm hk hb (fun σ => passAt c.tk σ) ha hw hall hks hdb hpl he) fun σ H Q ⟨ρ, μ, C, os, R, z⟩ => ⟨ρ, μ, C, os, R, ?_⟩
  unfold calM kwA bnd at z
  cases e1 : fa ρ μ with
  | no => simp only [e1] at z; exact z
  | ex c ns ds ρ1 μ1 => simp only [e1] at z; exact z
  | ok ds ρ1 μ1 =>
    simp only [e1] at z
    intro vs H1 C1 os1 R1 S1 q1
    refine ⟨ρ1, μ1, C1, os1, R1, ?_⟩
    have z := PostE.from S1 z
    cases e2 : fk ρ1 μ1 with
    | no => simp only [e2] at z; exact z
    | ex c ns ds ρ2 μ2 => simp only [e2] at z; exact z
    | ok es' ρ2 μ2 =>
      simp only [e2] at z
      intro zs H2 C2 os2 R2 S2 q2
      have z := PostE.from S2 z
      by_cases hl : ds.length = n ∧ es'.length = ks.length
      · rw [if_pos hl] at z
        have q3 := pick_reps ((q1.step S2).append q2) ix
        exact ⟨by rw [q1.length]; exact hl.1, by rw [q2.length]; exact hl.2, call_at R2 q3 z⟩
      · rw [if_neg hl] at z
        exact z.elim
/-- by place, at any level -/
theorem de_cal {k j : Nat} {G : Fn} (F : Dfn X.prog X.w X.K X.mg X.base x k G) (c : Cc Φ X j) (ha : DA Φ X (e :: es) fa) (hg : Gl X x) (hj : k ≤ j := by decide)
    (hdb : (x == ("__debug__" : Str)) = false := by decide) (he : starEach (e :: es) X.env = (false, eval e X.env) :: starEach es X.env := by rfl) (hpl : (backTo pos (starEach es X.env)).any (·.1) = false := by rfl) : DE Φ X (.Call (.Name x p) (e :: es) [] pos) (calM G fa) :=
  de_call F ⟨c.tk, c.rm.mono hj⟩ hg ha hdb he hpl
theorem df_cal {k j i : Nat} {G : Fn} (F : Dfn X.prog X.w X.K X.mg X.base x k G) (c : Cc Φ X j) (ha : DA Φ X (e :: es) fa) (hg : Gl X x) (hj : k ≤ j := by decide)
    (hdb : (x == ("__debug__" : Str)) = false := by decide) (he : starEach (e :: es) X.env = (false, eval e X.env) :: starEach es X.env := by rfl) (hpl : (backTo pos (starEach es X.env)).any (·.1) = false := by rfl) : DF Φ X i (.Call (.Name x p) (e :: es) [] pos) (cawM G fa) :=
  df_call F ⟨c.tk, c.rm.mono hj⟩ hg ha hdb he hpl

/-! ### an owned list becomes a cell -/
def celM (i : Nat) (g : Mo Fl) : Mo Fl := fun ρ μ => match ρ[i]? with
  | some (some (.ow (.lst ds))) => g (ρ.set i (some (.sh (.cell μ.length)))) (μ ++ [.lst ds])
  | some (some (.ow (.dct ks ds))) => g (ρ.set i (some (.sh (.cell μ.length)))) (μ ++ [.dct ks ds])
  | _ => .no
/-- the object of an owned entry, and what it becomes -/
theorem Rl.cel {ρ : Env} {μ : Sto} {C : List Addr} {os : Os} {σ : L2.St} {H : Hp} {i : Nat} {d : D} {c : Cell} (R : Rl Φ X ρ μ C os σ H) (hi : ρ[i]? = some (some (.ow d))) (nM : ∀ a, (some i, a) ∈ os → Φ.H0 a = none) (hc : ∀ r a, OwnR r a d → CellR r a c) :
    ∃ C' os', Rl Φ X (ρ.set i (some (.sh (.cell μ.length)))) (μ ++ [c]) C' os' σ H ∧ Stp (rc Φ X C os H) (rc Φ X C' os' H) := by
  obtain ⟨v, hv, a, rfl, hm, hO⟩ := R.env i _ hi
  obtain ⟨f1, f2, f3, o, f4⟩ := R.fre _ a hm
  have lc : C.length = μ.length := R.sto.1
  have hl : i < ρ.length := (List.getElem?_eq_some_iff.mp hi).1
  have S : Stp (rc Φ X C os H) (rc Φ X (C ++ [a]) (noA a os) H) := ⟨rfl, rfl, fun b z => by
    rcases z with z | z | ⟨j, z⟩
    · exact .inl (.inl z)
    · rcases List.mem_append.mp z with z | z
      · exact .inl (.inr (.inl z))
      · exact .inl (.inr (.inr ⟨some i, by rw [List.mem_singleton.mp z]; exact hm⟩))
    · exact .inl (.inr (.inr ⟨j, (mem_noA.mp z).1⟩)), ⟨[a], rfl⟩, fun b o z _ => z, fun b o z => ⟨o, z⟩, fun b z => mem_noA.mpr ⟨z, fun e => by
      have q := R.own none (some i) a (e ▸ z) hm
      cases q⟩, fun b o z _ => z⟩
  have other : ∀ (j : Nat) (b : Addr), j ≠ i → (some j, b) ∈ os → (some j, b) ∈ noA a os := fun j b ne z => mem_noA.mpr ⟨z, fun e => ne (Option.some.inj (R.own (some j) (some i) a (e ▸ z) hm))⟩
  refine ⟨C ++ [a], noA a os, ⟨by rw [List.length_set]; exact R.len, fun j t q => ?_, ⟨?_, fun n b c' h1 h2 => ?_⟩, fun j k b z1 z2 => R.own j k b (mem_noA.mp z1).1 (mem_noA.mp z2).1, fun j b z => ?_, ?_, fun b z => ?_, ?_, fun b z => ?_, fun b u e n1 n2 => ?_, R.alv⟩, S⟩
  · by_cases hj : j = i
    · subst hj
      rw [List.getElem?_set_self hl] at q
      cases q
      exact ⟨_, hv, .cell (by show (C ++ [a])[μ.length]? = some a; rw [← lc, List.getElem?_append_right (Nat.le_refl _)]; simp)⟩
    · rw [List.getElem?_set_ne (Ne.symm hj)] at q
      obtain ⟨v, h1, h2⟩ := R.env j t q
      refine ⟨v, h1, ?_⟩
      cases t with
      | sh d' => exact Rep.step S h2
      | ow d' =>
        obtain ⟨b, e1, e2, e3⟩ := h2
        exact ⟨b, e1, other j b hj e2, e3.step S rfl⟩
      | bd c ns ds =>
        obtain ⟨b, e1, e2, e3⟩ := h2
        exact ⟨b, e1, other j b hj e2, BdR.stepH S rfl e3⟩
      | eh c ns ds =>
        obtain ⟨b, dx, e1, e2, e3⟩ := h2
        exact ⟨b, dx, e1, e2, e3.step S⟩
  · show (C ++ [a]).length = (μ ++ [c]).length
    rw [List.length_append, List.length_append, lc] <;> rfl
  · have h1 : (C ++ [a])[n]? = some b := h1
    by_cases hn : n < C.length
    · rw [List.getElem?_append_left hn] at h1
      rw [List.getElem?_append_left (by rw [← lc]; exact hn)] at h2
      exact (R.sto.2 n b c' h1 h2).step S rfl
    · have en : n = C.length := by
        have := (List.getElem?_eq_some_iff.mp h1).1
        rw [List.length_append, List.length_singleton] at this
        omega
      subst en
      rw [List.getElem?_append_right (Nat.le_refl _), Nat.sub_self] at h1
      rw [lc, List.getElem?_append_right (Nat.le_refl _), Nat.sub_self] at h2
      cases h1; cases h2
      exact hc _ _ (hO.step S rfl)
  · have zm := mem_noA.mp z
    obtain ⟨g1, g2, g3, g4⟩ := R.fre j b zm.1
    refine ⟨g1, fun hC => ?_, g3, g4⟩
    rcases List.mem_append.mp hC with y | y
    · exact g2 y
    · exact zm.2 (List.mem_singleton.mp y)
  · obtain ⟨m, e⟩ := R.pre
    exact ⟨m ++ [a], by rw [e, List.append_assoc]⟩
  · rcases List.mem_append.mp z with y | y
    · exact R.cfr b y
    · rw [List.mem_singleton.mp y]
      exact .inr (nM a hm)
  · refine List.nodup_append.mpr ⟨R.cnd, by simp, fun b hb c hc e => ?_⟩
    rw [List.mem_singleton.mp hc] at e
    exact f2 (e ▸ hb)
  · rcases List.mem_append.mp z with y | y
    · exact R.clv b y
    · rw [List.mem_singleton.mp y]
      exact ⟨o, f4⟩
  · exact R.frm b u e (fun y => n1 (List.mem_append_left _ y)) n2
theorem dss_cel {i : Nat} {sts : List Stmt} {gs : Mo Fl} (h : DSs Φ X sts gs) (nM : ∀ a, ¬ Φ.M0 a) : DSs Φ X sts (celM i gs) := PSs.imp h fun E σ H ⟨ρ, μ, C, os, R, z⟩ => by
  have h0 : ∀ a, (some i, a) ∈ os → Φ.H0 a = none := fun a ha => (R.fre _ a ha).1.elim id fun y => (nM a y).elim
  unfold celM at z
  split at z
  · rename_i ds e
    obtain ⟨C', os', R', S'⟩ := R.cel e h0 (c := .lst ds) fun r a h => h
    exact ⟨_, _, C', os', R', PostS.from S' z⟩
  · rename_i ks ds e
    obtain ⟨C', os', R', S'⟩ := R.cel e h0 (c := .dct ks ds) fun r a h => h
    exact ⟨_, _, C', os', R', PostS.from S' z⟩
  · exact z.elim
end
end L2.DL

/-! DL16: repr, a text backward, {k: v, ..}, == of dicts. -/
namespace L2.DL
open PySem PySem.Spec PyProof.Rows
/-! ### repr -/
def keyP : Key → PyData
  | .inl i => .int i
  | .inr x => .str x
def scaD : D → Bool
  | .non | .bl _ | .int _ | .str _ => true
  | _ => false
def toR : D → Option PyData
  | .dct ks vs => if vs.all scaD then some (.dict ((ks.map keyP).zip (vs.map toP))) else none
  | d => if isData d then some (toP d) else none
def reprD (d : D) : Option D := match toR d with
  | some p => if p.showable && p.leavesShort 13 && decide (p.weight ≤ 1048576) && decide (p.depth ≤ 60) then some (.str p.shown) else none
  | none => none
mutual
theorem nodict : ∀ d : D, isData d = true → (toP d).hasDict = false
  | .non, _ => rfl | .bl _, _ => rfl | .int _, _ => rfl | .str _, _ => rfl
  | .tup xs, h => nodicts xs h | .lst xs, h => nodicts xs h | .frz xs, h => nodicts xs h
  | .dct _ _, h => by cases h
  | .ins _ _ _, h => by cases h
  | .cell _, h => by cases h
theorem nodicts : ∀ ds : List D, areData ds = true → PyData.hasDictAll (toPs ds) = false
  | [], _ => rfl
  | d :: ds, h => by
    have h : (isData d && areData ds) = true := h
    obtain ⟨h1, h2⟩ := Bool.and_eq_true_iff.mp h
    show ((toP d).hasDict || PyData.hasDictAll (toPs ds)) = false
    rw [nodict d h1, nodicts ds h2] <;> rfl
end
section
variable {X : Cx} {pins : List (Addr × Obj)} {σ : L2.St} {H : Hp} {s : Shared}
theorem key_reads {h : Heap} {k : Key} {v : Value} (e : keyIs k v = true) : Reads h v (keyP k) [] := by
  rcases keyIs_shape e with ⟨i, t, rfl, rfl⟩ | ⟨x, t, rfl, rfl⟩
  · exact .int i t
  · exact .str x t
theorem sca_reads {r : RC} {h : Heap} {v : V} {u : Value} {d : D} (q : Rep r v d) (e : scaD d = true) (rv : RelV v u) : Reads h u (toP d) [] := by
  cases q with
  | non => cases rv; exact .none
  | bl b => cases rv; exact .bool b
  | int i => obtain ⟨t, rfl⟩ := rv; exact .int i t
  | str s => obtain ⟨t, rfl⟩ := rv; exact .str s t
  | _ => cases e
theorem pairs_reads {r : RC} {h : Heap} {P : Program} {w : World} : ∀ {es : List DictEntry} {vs : List (Key × Value)} {kvs : List (Key × V)} {ds : List D}, Pairs (mixKind P w) es vs → KV kvs vs → Reps r (kvs.map (·.2)) ds → ds.all scaD = true →
    ReadsAll h (es.map (·.key)) ((kvs.map (·.1)).map keyP) [] ∧ ReadsAll h (es.map (·.val)) (ds.map toP) [] := by
  intro es vs kvs ds hp
  induction hp generalizing kvs ds with
  | nil =>
    intro hk q _
    cases hk
    cases q
    exact ⟨.nil, .nil⟩
  | @cons e kv es vs h1 h2 _ ih =>
    intro hk q ha
    cases hk with
    | @cons p _ kvs _ hkv hrest =>
      cases q with
      | @cons _ d _ ds q1 q2 =>
        simp only [List.all_cons, Bool.and_eq_true] at ha
        obtain ⟨z1, z2⟩ := ih hrest q2 ha.2
        obtain ⟨e1, rv⟩ := hkv
        refine ⟨?_, ?_⟩
        · have h1 : keyIs kv.1 e.key = true := h1
          rw [← e1] at h1
          exact ReadsAll.cons (as := []) (bs := []) (key_reads h1) z1
        · rw [← h2] at rv
          exact ReadsAll.cons (as := []) (bs := []) (sca_reads q1 ha.1 rv) z2
theorem rep_reads {r : RC} (I : Inv X pins σ H s) (hK : r.K = X.K) (hH : r.H = H) {v : V} {u : Value} {d : D} {p : PyData} (q : RepW r v d) (rv : RelV v u) (e : toR d = some p) : ∃ as, Reads s.heap u p as ∧ (p.hasDict = true → sysModules ∉ as) := by
  subst hH
  have flat : isData d = true → p = toP d → (toP d).hasDict = false → ∃ as, Reads s.heap u p as ∧ (p.hasDict = true → sysModules ∉ as) := fun h1 h2 h3 => by
    subst h2
    obtain ⟨as, z⟩ := Dp.reads I _ v u (hK ▸ q.dp h1) rv
    exact ⟨as, z, PyData.noDict_hsm h3⟩
  have noD : ∀ d : D, isData d = true → (toP d).hasDict = false := nodict
  cases d with
  | dct ks vs =>
    have e : (if vs.all scaD = true then some (PyData.dict ((ks.map keyP).zip (vs.map toP))) else none) = some p := e
    by_cases ha : vs.all scaD = true
    · rw [if_pos ha] at e
      cases e
      obtain ⟨a, kvs, rfl, hH, e1, q1⟩ := q.dct
      obtain ⟨_, hs, ws, hkv, o, es, ep, ho, hx, hd, _, hp, _⟩ : ObjOk X.prog X.w r.H s.heap a (.dK kvs) := I.hok a _ hH
      cases rv
      obtain ⟨z1, z2⟩ := pairs_reads (h := s.heap) hp hkv q1 ha
      have lk : (ks.map keyP).length = (vs.map toP).length := by
        have := q1.length
        rw [List.length_map] at this
        rw [List.length_map, List.length_map, ← e1, List.length_map, this]
      refine ⟨a :: [] ++ [], .dict ho hx.1 hd ?_ ?_, fun _ hm => ?_⟩
      · rw [List.map_fst_zip (Nat.le_of_eq lk), ← e1]
        exact z1
      · rw [List.map_snd_zip (Nat.le_of_eq lk.symm)]
        exact z2
      · have hm : sysModules ∈ [a] := by simpa using hm
        rw [List.mem_singleton.mp hm] at hs
        simp at hs
    · rw [if_neg ha] at e
      cases e
  | non => exact flat rfl (by cases e; rfl) (noD _ rfl)
  | bl b => exact flat rfl (by cases e; rfl) (noD _ rfl)
  | int i => exact flat rfl (by cases e; rfl) (noD _ rfl)
  | str x => exact flat rfl (by cases e; rfl) (noD _ rfl)
  | tup xs =>
    have e : (if isData (D.tup xs) = true then some (toP (D.tup xs)) else none) = some p := e
    by_cases h : isData (D.tup xs) = true
    · rw [if_pos h] at e
      cases e
      exact flat h rfl (noD _ h)
    · rw [if_neg h] at e
      cases e
  | lst xs =>
    have e : (if isData (D.lst xs) = true then some (toP (D.lst xs)) else none) = some p := e
    by_cases h : isData (D.lst xs) = true
    · rw [if_pos h] at e
      cases e
      exact flat h rfl (noD _ h)
    · rw [if_neg h] at e
      cases e
  | frz xs =>
    have e : (if isData (D.frz xs) = true then some (toP (D.frz xs)) else none) = some p := e
    by_cases h : isData (D.frz xs) = true
    · rw [if_pos h] at e
      cases e
      exact flat h rfl (noD _ h)
    · rw [if_neg h] at e
      cases e
  | ins c ns vs =>
    have e : (none : Option PyData) = some p := e
    cases e
  | cell n =>
    have e : (none : Option PyData) = some p := e
    cases e
def rRepr (X : Cx) : List V → Hp → VK → Prop := fun xs H Q => ∃ (r : RC) (x : V) (d : D) (p : PyData), xs = [x] ∧ r.K = X.K ∧ r.H = H ∧ RepW r x d ∧ toR d = some p ∧ p.showable = true ∧ p.leavesShort 13 = true ∧ p.weight ≤ 1048576 ∧ p.depth ≤ 60 ∧ Q (.str p.shown) H
theorem call_reprD (hg : X.A.guards = some []) (hu : hasUnits X) : CallR X (.builtin "repr") (rRepr X) := by
  intro pins s σ H xs us Q I r h
  obtain ⟨q, x, d, p, rfl, h1, h2, h3, h4, h5, h6, h7, h8, k⟩ := h
  obtain ⟨u, rfl, rv⟩ := vals1 r
  obtain ⟨as, hr, hm⟩ := rep_reads I h1 h2 h3 rv h4
  have hz : p.shown.length ≤ sizeLine := PyData.shown_fits (B := 13) (by decide) (by decide) h6 (Nat.le_trans h7 (by decide))
  have hu : X.A.units + 64 < cLine := hu
  cases hr with
  | none => exact PySem.P.repr_of_none ⟨.str _, H, I.tok _, ⟨_, rfl⟩, k⟩
  | bool b => exact PySem.P.repr_of_bool ⟨.str _, H, I.tok _, ⟨_, rfl⟩, k⟩
  | int i t => exact PySem.P.repr_of_int (by simpa [PyData.showable] using h5) ⟨.str _, H, I.tok _, ⟨_, rfl⟩, k⟩
  | str x t => exact PySem.P.repr_of_str ⟨.str _, H, I.tok _, ⟨_, rfl⟩, k⟩ (by simpa only [PyData.shown] using hz)
  | list a1 a2 a3 a4 => exact repr_of_reads' (.list a1 a2 a3 a4) h5 hm hg (by omega) (fun _ _ e => e) (fun h' u tk hk => ⟨.str _, H, I.kept (t' := tk) hk, ⟨_, rfl⟩, k⟩) hz
  | tuple a1 a2 a3 a4 => exact repr_of_reads' (.tuple a1 a2 a3 a4) h5 hm hg (by omega) (fun _ _ e => e) (fun h' u tk hk => ⟨.str _, H, I.kept (t' := tk) hk, ⟨_, rfl⟩, k⟩) hz
  | dict a1 a2 a3 a4 a5 => exact repr_of_reads' (.dict a1 a2 a3 a4 a5) h5 hm hg (by omega) (fun _ _ e => e) (fun h' u tk hk => ⟨.str _, H, I.kept (t' := tk) hk, ⟨_, rfl⟩, k⟩) hz
theorem cd_repr : Cal1 X (rRepr X) reprD := by
  intro q x d1 d Q hK _ _ h1 e k
  unfold reprD at e
  cases e2 : toR d1 with
  | none => simp only [e2] at e; cases e
  | some p =>
    simp only [e2] at e
    split at e
    · rename_i hc
      simp only [Bool.and_eq_true, decide_eq_true_eq] at hc
      cases e
      exact ⟨q, x, d1, p, rfl, hK, rfl, h1, e2, hc.1.1.1, hc.1.1.2, hc.1.2, hc.2, k _ _ (Grow.refl _) (.str _)⟩
    · cases e
variable {Φ : Ctx} {e : Expr} {f : Mo D} {p pos : Pos}
theorem de_repr (hgd : X.A.guards = some []) (hu : hasUnits X) (hm : X.mg "repr" = none) (ha : DB Φ X e f) (hg : Gl X "repr" := by rfl) (he : starEach (e :: []) X.env = (false, eval e X.env) :: starEach [] X.env := by rfl) (hpl : (backTo pos (starEach [] X.env)).any (·.1) = false := by rfl) :
    DE Φ X (.Call (.Name "repr" p) [e] [] pos) (op1 reprD f) := de_b1 (call_reprD hgd hu) cd_repr hm (by decide +kernel) ha hg (by decide) (by decide) he hpl

/-! ### s[::-1] -/
def revD : D → Option D
  | .str z => if z.length ≤ lineN then some (.str (revS z)) else none
  | _ => none
theorem rev_len (z : Str) : (revS z).length ≤ z.length := by
  show ((Builtin.Str.strSliceIndices none none (-1) z.length).filterMap (z.cps[·]?)).toArray.size ≤ z.length
  rw [List.size_toArray]
  refine Nat.le_trans (List.length_filterMap_le _ _) ?_
  rw [PyProof.Rows.picked_rev, List.length_map, List.length_range]
  exact Nat.le_refl _
def tRvS (te : TE) : TE := fun σ H Q => te σ H fun x H1 => ∃ z, x = .str z ∧ z.length ≤ sizeLine ∧ Q (.str (revS z)) H1
theorem pe_rvS {te : TE} {k : Nat} {p1 p2 p3 pos : Pos} (he : PE X e te) : PE X (.Subscript e (.Slice none none (some (.UnaryOp .USub (.Constant (.int 1) k p1) p2)) p3) pos) (tRvS te) := by
  refine ⟨fun pins s σ H Q I h => Subscript_ (thn (he.run pins s σ H _ I h) fun v s1 ⟨x, H1, I1, r1, z, ex, hz, q⟩ => ?_)⟩
  subst ex
  obtain ⟨t, rfl⟩ := r1
  have st : PO X (some (.UnaryOp .USub (.Constant (.int 1) k p1) p2)) (tPart (tUn (rU fun i => .int (-i)) (tC (.int 1)))) := po_some (pe_un un_neg pe_int)
  refine wpAny_Slice (thn (po_none.run pins s1 σ H1 (fun o H2 => o = none ∧ H2 = H1) I1 ⟨rfl, rfl⟩) fun vl s2 ⟨l, H2, I2, pl, el, e2⟩ => ?_)
  subst el e2
  refine thn (po_none.run pins s2 σ H2 (fun o H3 => o = none ∧ H3 = H2) I2 ⟨rfl, rfl⟩) fun vu s3 ⟨u, H3, I3, pu, eu, e3⟩ => ?_
  subst eu e3
  refine thn (st.run pins s3 σ H3 (fun o H4 => o = some (-1) ∧ H4 = H3) I3 ⟨1, rfl, -1, rfl, rfl, rfl⟩) fun vs s4 ⟨o, H4, I4, ps, eo, e4⟩ => ?_
  subst eo e4
  have I5 : Inv X pins σ H4 { s4 with heap := s4.heap.push { cls := .type "slice", data := .fields #[vl, vu, vs] } } := I4.kept (t' := s4.toks) fun b ob q => Heap.get?_push_of_some _ q
  obtain ⟨pl1, rfl, pl2⟩ := IsPart.raw pl
  obtain ⟨pu1, rfl, pu2⟩ := IsPart.raw pu
  obtain ⟨ps1, rfl, ps2⟩ := IsPart.raw ps
  have hsl : Heap.IsSlice (s4.heap.push { cls := .type "slice", data := .fields #[partValue pl1, partValue pu1, partValue ps1] }) s4.heap.objs.size pl1 pu1 ps1 := ⟨_, Heap.get?_push_size _ rfl, rfl, rfl⟩
  show wpAny (model X.prog X.w) X.A (subscriptTail e (.Slice none none (some (.UnaryOp .USub (.Constant (.int 1) k p1) p2)) p3) (.str z t) (.ref s4.heap.objs.size)) (EP X pins σ Q) X.xe _
  have c1 : (ps1.map (·.1)).getD 1 = -1 := by rw [ps2]; rfl
  refine tail_any (ops := [.str z t, .ref s4.heap.objs.size]) (typeIs_str _ _ _) PySem.F.slot_str_getitem.lookup ?_ (by with_unfolding_all rfl)
  refine wpAny_getItem_str_slice hsl (by rw [c1]; decide) ?_
  unfold sliceMade slicePicked
  rw [c1, if_neg (by simp), pl2, pu2]
  exact ⟨Nat.le_trans (rev_len z) hz, .str _, H4, I5.tok _, ⟨_, rfl⟩, q⟩
theorem de_rev {k : Nat} {p1 p2 p3 pos : Pos} (he : DE Φ X e f) : DE Φ X (.Subscript e (.Slice none none (some (.UnaryOp .USub (.Constant (.int 1) k p1) p2)) p3) pos) (op1 revD f) := PE.imp (pe_rvS he) fun σ H Q ⟨ρ, μ, C, os, R, z⟩ =>
  ⟨ρ, μ, C, os, R, PostE.bnd z fun d ρ1 μ1 v H1 C1 os1 R1 S1 q1 z1 => by
    obtain ⟨d', e, k⟩ := lift_ok R1 z1
    unfold revD at e
    split at e
    · split at e
      · rename_i hl
        cases e
        cases q1
        exact ⟨_, rfl, by rw [line_eq]; exact hl, k _ _ (Grow.refl _) (.str _)⟩
      · cases e
    · cases e⟩
end
end L2.DL

/-! DL17: {k: v, ..}, == of dicts. -/
namespace L2.DL
open PySem PySem.Spec PyProof.Rows
def keyD : D → Option Key
  | .int i => some (.inl i)
  | .str s => some (.inr s)
  | _ => none
def prsM : List (Mo D × Mo D) → Mo (List (Key × D))
  | [] => ret []
  | (fk, fv) :: r => bnd fk fun dk => bnd fv fun dv => bnd (prsM r) fun l => match keyD dk with
    | some k => ret ((k, dv) :: l)
    | none => no
def dspM (ps : List (Mo D × Mo D)) : Mo D := bnd (prsM ps) fun l => if (l.map (·.1)).Nodup ∧ l.length ≤ 15 then ret (.dct (l.map (·.1)) (l.map (·.2))) else no
section
variable {Φ : Ctx} {X : Cx} {pos : Pos}
def prT (Φ : Ctx) (X : Cx) (ps : List (Mo D × Mo D)) : List (TE × TE) := ps.map fun p => (cE Φ X p.1, cE Φ X p.2)
/-- keys, values and what they compute -/
def DPs (Φ : Ctx) (X : Cx) (pos : Pos) (ks : List (Option Expr)) (vs : List Expr) (ps : List (Mo D × Mo D)) : Prop := PPs X pos ks vs (prT Φ X ps)
theorem dps_nil : DPs Φ X pos [] [] [] := pps_nil
theorem dps_cons {k v : Expr} {ks : List (Option Expr)} {vs : List Expr} {fk fv : Mo D} {ps : List (Mo D × Mo D)} (hk : DE Φ X k fk) (hv : DE Φ X v fv) (r : DPs Φ X pos ks vs ps) : DPs Φ X pos (some k :: ks) (v :: vs) ((fk, fv) :: ps) := pps_cons hk hv r
def PostP (Φ : Ctx) (X : Cx) (C : List Addr) (os : Os) (σ : L2.St) (H : Hp) (o : O (List (Key × D))) (Q : List (V × V) → Hp → Prop) : Prop := match o with
  | .ok l ρ' μ' => ∀ (kvs : List (Key × V)) H' C' os', Rl Φ X ρ' μ' C' os' σ H' → Stp (rc Φ X C os H) (rc Φ X C' os' H') → kvs.map (·.1) = l.map (·.1) → Reps (rc Φ X C' os' H') (kvs.map (·.2)) (l.map (·.2)) → Q (kvs.map fun kv => (kV kv.1, kv.2)) H'
  | .ex c ns ds ρ' μ' => ∀ Cc dx H' C' os', Rl Φ X ρ' μ' C' os' σ H' → Stp (rc Φ X C os H) (rc Φ X C' os' H') → X.mg c = some (.ref Cc) → EhR (rc Φ X C' os' H') dx c ns ds → Φ.W (.ref Cc) (some dx) σ H'
  | .no => False
theorem PostP.from {C C1 : List Addr} {os os1 : Os} {σ : L2.St} {H H1 : Hp} {o : O (List (Key × D))} {Q : List (V × V) → Hp → Prop} (S : Stp (rc Φ X C os H) (rc Φ X C1 os1 H1)) (h : PostP Φ X C os σ H o Q) : PostP Φ X C1 os1 σ H1 o Q := by
  cases o with
  | ok d ρ' μ' => exact fun v H' C' os' R T q => h v H' C' os' R (S.trans T) q
  | ex c ns ds ρ' μ' => exact fun Cc dx H' C' os' R T g e => h Cc dx H' C' os' R (S.trans T) g e
  | no => exact h
theorem key_rep {r : RC} {v : V} {d : D} {k : Key} (q : Rep r v d) (e : keyD d = some k) : v = kV k := by
  cases q with
  | int i => cases e; rfl
  | str s => cases e; rfl
  | _ => cases e
theorem prs_run : ∀ {ps : List (Mo D × Mo D)} {ρ : Env} {μ : Sto} {C : List Addr} {os : Os} {σ : L2.St} {H : Hp} {Q : List (V × V) → Hp → Prop}, Rl Φ X ρ μ C os σ H → PostP Φ X C os σ H (prsM ps ρ μ) Q → tPairs (prT Φ X ps) σ H Q
  | [], ρ, μ, C, os, σ, H, Q, R, z => z [] H C os R (Stp.refl _) rfl .nil
  | (fk, fv) :: ps, ρ, μ, C, os, σ, H, Q, R, z => by
    have z : PostP Φ X C os σ H (bnd fk (fun dk => bnd fv fun dv => bnd (prsM ps) fun l => match keyD dk with
      | some k => ret ((k, dv) :: l)
      | none => no) ρ μ) Q := z
    show cE Φ X fk σ H _
    refine ⟨ρ, μ, C, os, R, ?_⟩
    unfold bnd at z
    cases e1 : fk ρ μ with
    | no => simp only [e1] at z; exact z
    | ex c ns ds ρ1 μ1 => simp only [e1] at z; exact z
    | ok dk ρ1 μ1 =>
      simp only [e1] at z
      intro x H1 C1 os1 R1 S1 q1
      have z := PostP.from S1 z
      refine ⟨ρ1, μ1, C1, os1, R1, ?_⟩
      show PostE Φ X C1 os1 σ H1 (fv ρ1 μ1) (fun y H2 => tPairs (prT Φ X ps) σ H2 fun ps' H3 => Q ((x, y) :: ps') H3)
      cases e2 : fv ρ1 μ1 with
      | no => simp only [e2] at z; exact z
      | ex c ns ds ρ2 μ2 => simp only [e2] at z; exact z
      | ok dv ρ2 μ2 =>
        simp only [e2] at z
        intro y H2 C2 os2 R2 S2 q2
        have z := PostP.from S2 z
        refine prs_run R2 ?_
        cases e3 : prsM ps ρ2 μ2 with
        | no => simp only [e3] at z; exact z
        | ex c ns ds ρ3 μ3 => simp only [e3] at z; exact z
        | ok l ρ3 μ3 =>
          simp only [e3] at z
          intro kvs H3 C3 os3 R3 S3 h1 h2
          cases e4 : keyD dk with
          | none => simp only [e4] at z; exact z.elim
          | some k =>
            simp only [e4] at z
            have z := PostP.from S3 z
            have q := z ((k, y) :: kvs) H3 C3 os3 R3 (Stp.refl _) (by simp [h1]) (.cons (q2.step S3) h2)
            rw [key_rep q1 e4]
            exact q
theorem merge_app : ∀ (ls kvs : List (Key × V)), ((kvs ++ ls).map (·.1)).Nodup → mergeK kvs ls = kvs ++ ls
  | [], kvs, _ => by simp [mergeK]
  | p :: ls, kvs, h => by
    have e : putK kvs p.1 p.2 = kvs ++ [p] := by
      unfold putK
      have hn : ¬ ((kvs.any fun kv => decide (kv.1 = p.1)) = true) := by
        rw [List.any_eq_true]
        rintro ⟨q, hq, e⟩
        rw [List.map_append, List.map_cons] at h
        have h3 := (List.nodup_append.mp h).2.2 q.1 (List.mem_map_of_mem hq) p.1 List.mem_cons_self
        exact h3 (of_decide_eq_true e)
      rw [if_neg hn]
    have ih := merge_app ls (kvs ++ [p]) (by rw [List.append_assoc]; exact h)
    show mergeK (putK kvs p.1 p.2) ls = _
    rw [e, ih, List.append_assoc] <;> rfl
theorem de_disp {keys : List (Option Expr)} {values : List Expr} {ps : List (Mo D × Mo D)} (h : DPs Φ X pos keys values ps) (hall : keys.all (·.isSome) = true := by rfl) (hl : keys.length = values.length := by rfl) (h0 : keys ≠ [] := by simp) (h15 : keys.length ≤ 15 := by decide) :
    DE Φ X (.Dict keys values pos) (dspM ps) := PE.imp (pe_disp h hall hl h0 h15) fun σ H Q ⟨ρ, μ, C, os, R, z⟩ p hp => by
  have R1 := R.add (o := .dK []) none hp
  have S1 : Stp (rc Φ X C os H) (rc Φ X C ((none, p) :: os) (upd H p (.dK []))) := stp_add hp
  refine prs_run R1 ?_
  unfold dspM bnd at z
  cases e : prsM ps ρ μ with
  | no => simp only [e] at z; exact z
  | ex c ns ds ρ1 μ1 =>
    simp only [e] at z
    exact fun Cc dx H' C' os' R' S' g e => z Cc dx H' C' os' R' (S1.trans S') g e
  | ok l ρ1 μ1 =>
    simp only [e] at z
    intro kvs H2 C2 os2 R2 S2 h1 h2
    have hm : (none, p) ∈ os2 := S2.m p List.mem_cons_self
    have hH : H2 p = some (.dK []) := S2.n p _ upd_same List.mem_cons_self
    split at z
    · rename_i hc
      refine ⟨hH, kvs, rfl, ?_, ?_⟩
      · have := congrArg List.length h1
        rw [List.length_map, List.length_map] at this
        rw [this]; exact hc.2
      · have em : mergeK [] kvs = kvs := merge_app kvs [] (by show (kvs.map (·.1)).Nodup; rw [h1]; exact hc.1)
        rw [em]
        have T : Stp (rc Φ X C os H) (rc Φ X C2 os2 H2) := S1.trans S2
        obtain ⟨R3, S3⟩ := R2.mutB hm (.dK kvs)
        have T3 := stp_mutB T hp (.dK kvs)
        obtain ⟨R4, S4⟩ := R3.rel hm
        have T4 : Stp (rc Φ X C os H) (rc Φ X C2 (noA p os2) (upd H2 p (.dK kvs))) := ⟨rfl, rfl, fun b y => by
          rcases y with y | y | ⟨j, y⟩
          · exact T3.a b (.inl y)
          · exact T3.a b (.inr (.inl y))
          · exact T3.a b (.inr (.inr ⟨j, (mem_noA.mp y).1⟩)), T3.c, T3.h, T3.l, fun b y => mem_noA.mpr ⟨T3.m b y, fun e => by
            obtain ⟨_, _, _, u, e2⟩ := R.fre none b y
            rw [e, hp] at e2; cases e2⟩, T3.n⟩
        refine z _ _ C2 _ R4 T4 (.dct upd_same ?_ h1 ((h2.stq S3).stq S4))
        obtain ⟨_, g2, g3, _⟩ := R2.fre none p hm
        rintro (y | y | ⟨j, y⟩)
        · exact g3 y
        · exact g2 y
        · exact (mem_noA.mp y).2 rfl
    · exact z.elim

/-! ### == -/
def sameS : D → D → Bool
  | .non, .non => true
  | .bl a, .bl b => decide (a = b)
  | .int a, .int b => decide (a = b)
  | .str a, .str b => decide (a = b)
  | _, _ => false
def samesS : List D → List D → Bool
  | [], [] => true
  | a :: as, b :: bs => sameS a b && samesS as bs
  | _, _ => false
def dctT : D → D → Option D
  | .dct ks vs, .dct ks' vs' => if ks = ks' ∧ ks.Nodup ∧ samesS vs vs' = true then some (.bl true) else none
  | _, _ => none
theorem sameS_eq {r : RC} {x y : V} {a b : D} (h1 : Rep r x a) (h2 : Rep r y b) (e : sameS a b = true) : x = y ∧ flatB x = true := by
  cases h1 <;> cases h2 <;> first
    | exact ⟨rfl, rfl⟩
    | (cases (of_decide_eq_true e); exact ⟨rfl, rfl⟩)
    | cases e
theorem same_dict {r : RC} {n : Nat} {K : PySem.W.Frag} : ∀ {ks ls : List (Key × V)} {as bs : List D}, ks.map (·.1) = ls.map (·.1) → (ks.map (·.1)).Nodup → Reps r (ks.map (·.2)) as → Reps r (ls.map (·.2)) bs → samesS as bs = true →
    ks.length = ls.length ∧ ∀ p ∈ ks, ∃ u, valV ls p.1 = some u ∧ EqV K r.H (n + 1) p.2 u
  | [], [], _, _, _, _, _, _, _ => ⟨rfl, fun p hp => by cases hp⟩
  | [], _ :: _, _, _, h, _, _, _, _ => by cases h
  | _ :: _, [], _, _, h, _, _, _, _ => by cases h
  | k :: ks, l :: ls, _, _, h, hn, q1, q2, e => by
    cases q1 with
    | @cons _ a _ as qa qas =>
      cases q2 with
      | @cons _ b _ bs qb qbs =>
        simp only [List.map_cons, List.cons.injEq] at h
        have e : (sameS a b && samesS as bs) = true := e
        obtain ⟨e1, e2⟩ := Bool.and_eq_true_iff.mp e
        simp only [List.map_cons] at hn
        obtain ⟨n1, n2⟩ := List.nodup_cons.mp hn
        obtain ⟨z1, z2⟩ := same_dict (n := n) (K := K) h.2 n2 qas qbs e2
        obtain ⟨xy, fl⟩ := sameS_eq qa qb e1
        refine ⟨by simp [z1], fun p hp => ?_⟩
        rcases List.mem_cons.mp hp with rfl | hp
        · exact ⟨l.2, valV_pos h.1.symm, .inl ⟨xy, fl⟩⟩
        · obtain ⟨u, hu, he⟩ := z2 p hp
          refine ⟨u, ?_, he⟩
          rw [valV_neg (fun z => n1 ?_)]
          · exact hu
          · rw [h.1, z]
            exact List.mem_map_of_mem hp
theorem od_dct : OpD X (rEqV X.K) dctT := by
  intro q x y d1 d2 d Q _ _ _ h1 h2 e k
  cases d1 with
  | dct ks vs =>
    cases d2 with
    | dct ks' vs' =>
      have e : (if ks = ks' ∧ ks.Nodup ∧ samesS vs vs' = true then some (D.bl true) else none) = some d := e
      by_cases hc : ks = ks' ∧ ks.Nodup ∧ samesS vs vs' = true
      · rw [if_pos hc] at e
        cases e
        obtain ⟨a, k1, rfl, g1, g2, g3⟩ := h1.dct
        obtain ⟨b, k2, rfl, g4, g5, g6⟩ := h2.dct
        obtain ⟨z1, z2⟩ := same_dict (n := 0) (K := X.K) (by rw [g2, g5]; exact hc.1) (by rw [g2]; exact hc.2.1) g3 g6 hc.2.2
        exact ⟨1, by decide, .inr ⟨a, b, k1, k2, rfl, rfl, g1, g4, z1, z2⟩, k _ _ (Grow.refl _) (.bl _)⟩
      · rw [if_neg hc] at e
        cases e
    | _ => cases e
  | _ => cases e
def eqQ (x y : D) : Option D := (eqD x y).or (dctT x y)
variable {a b : Expr} {f g : Mo D}
theorem de_eqQ (hu : hasUnits X) (ha : DE Φ X a f) (hb : DB Φ X b g) : DE Φ X (.Compare a [.Eq] [b] pos) (op2 eqQ f g) := de_cmp ((or_eq hu).or (op_eqV hu)) (od_eq.or od_dct) ha hb (nomark _)
theorem dt_eqQ (hu : hasUnits X) (ha : DE Φ X a f) (hb : DB Φ X b g) : DT Φ X (.Compare a [.Eq] [b] pos) (tst (op2 eqQ f g)) := pt_of ((or_eq hu).or (op_eqV hu)) (od_eq.or od_dct) ha hb (nomark _)
end
end L2.DL

/-! DL18: the law's own def, called where no guard stands; a def that is never reached; the end. -/
namespace L2.DL
open PySem PySem.Spec PyProof.Rows
section
variable {P : Program} {w : World} {K : PySem.W.Frag} {mg : Str → Option Value} {base : Heap}
/-- a def called from around A -/
def RunAt (P : Program) (w : World) (K : PySem.W.Frag) (mg : Str → Option Value) (base : Heap) (A : Around) (f : Addr) (fd : FuncData) (ps : List Str) (sp : Sp) : Prop :=
  ∀ (outer : List PySem.Env) (s : Shared) (H : Hp) (args : Args) (us : List Value) (vs : List V) (Q : VK) (E : XK), Env0 P w K mg base A outer s H → BindsTo s fd args (ps.zip us) → Vals vs us → sp vs H Q E →
    codeAny (model P w) A (.call (.ref f) args) (CR (L2.CX P w) outer P w H s Q E) s
theorem run_at {x qual : Str} {st : Stmt} {f : Addr} {fd : FuncData} {N ps : List Str} {k : Nat} {g : Mo Fl} {A : Around} (F : Fun K x qual st f fd) (S : FnScope N ps (defScope st)) (hr : Room (k + 1) A)
    (hb : ∀ (Φ : Ctx) (cdv : Value) (outer : List PySem.Env) (s : Shared) (H : Hp) (E : XK), Cn Φ (cxOf (L2.CX P w) P w K mg base N qual (defScope st) f cdv A outer s H E) k → (∀ a, ¬ Φ.M0 a) →
      DSs Φ (cxOf (L2.CX P w) P w K mg base N qual (defScope st) f cdv A outer s H E) (defBody st) g) : RunAt P w K mg base A f fd ps (spD K mg (runD ps.length N.length g)) := by
  obtain ⟨oc, od, kV, doc, pm, an, cdv, ct, osl, rfl, lk, hcd⟩ := F.ex
  intro outer s H args us vs Q E e0 bnds rv hsp
  have hl : vs.length = ps.length := by
    obtain ⟨ds, μ, A', C, i, z⟩ := hsp
    unfold runD at z
    split at z
    · rename_i hl
      rw [i.arg.length, hl]
    · exact z.elim
  have old : ∀ b o, base.get? b = some o → s.heap.get? b = some o := fun b o e => (e0.bs b o e).1
  have KX : K.In s.heap := e0.mod.kin.keeps old
  have kinds : ∀ y ∈ ps.zip us, (defScope st).names.lookup y.1 = some .local ∨ ((defScope st).names.lookup y.1 = some .cell ∧ ((cellsFrom (s.heap.objs.size + 1) (defScope st).names []).lookup y.1).isSome = true) := by
    rintro ⟨n, v⟩ hy
    rcases S.par n (List.of_mem_zip hy).1 with q | q
    · exact .inl q
    · exact .inr ⟨q, PySem.W.cellsFrom_some _ _ _ (.inl q)⟩
  refine codeAny_call_function hr.depth (KX _ _ lk) rfl S.co S.gen rfl (PySem.W.codeRec_of KX hcd) (bnds _ _ _ _ (wpAny_newFunctionEnv_cells S.kind kinds fun env he s1 x => ?_))
  subst he
  refine ⟨(e0.mod.nolimit.keeps old).keeps x.toInCall.keep, codeAny_func ?_⟩
  have I := inv_start (CX := L2.CX P w) (E := E) S hr.hd e0 hl rv x
  obtain ⟨ds, μ, A', C, i, z⟩ := hsp
  let Φ : Ctx := ⟨H, A', C, fun _ => False, fun cls d _ H' => E cls d H', none, "", none⟩
  have nm : ∀ a, ¬ Φ.M0 a := fun _ h => h
  have cn : Cn Φ (cxOf (L2.CX P w) P w K mg base N qual (defScope st) f cdv A outer s H E) k := ⟨S.nd, rfl, passes_of rfl, takes_of (X := cxOf (L2.CX P w) P w K mg base N qual (defScope st) f cdv A outer s H E) rfl rfl rfl rfl, hr.deeper _⟩
  have done : cS Φ (cxOf (L2.CX P w) P w K mg base N qual (defScope st) f cdv A outer s H E) g { nx := fun _ H' => Q .non H', rt := Q } (start N vs) H := by
    refine ⟨_, μ, C, [], Rl.init (N := N) i rfl rfl rfl nm, ?_⟩
    unfold runD at z
    split at z
    · rename_i hl
      cases e : g (ds.map (fun d => some (Ent.sh d)) ++ List.replicate (N.length - ds.length) none) μ with
      | no => rw [e] at z; exact z
      | ex c ns es ρ' μ' =>
        rw [e] at z
        intro Cc dx σ' H' C' os' R _ hm he
        obtain ⟨o, S'⟩ := Rl.out (A := A') (C := C) (H := H) rfl rfl rfl nm R [] (fun a z => by cases z)
        exact z Cc dx H' C' o hm (he.stq S')
      | ok fl ρ' μ' =>
        rw [e] at z
        intro σ' H' C' os' R _
        obtain ⟨o, S'⟩ := Rl.out (A := A') (C := C) (H := H) rfl rfl rfl nm R [] (fun a z => by cases z)
        cases fl with
        | bk => exact z.elim
        | ct => exact z.elim
        | nx => exact z .non H' C' o .non
        | rt d => exact fun v q => z v H' C' o (q.stq S')
        | ro d =>
          intro a j hj q
          obtain ⟨o2, S2⟩ := Rl.out (A := A') (C := C) (H := H) rfl rfl rfl nm R [a] (fun b z => ⟨j, List.mem_singleton.mp z ▸ hj⟩)
          exact z a H' C' o2 (q.stq S2 rfl)
    · exact z.elim
  refine wpAny_mono ((hb Φ cdv outer s H E cn nm).run [] s1 (start N vs) H _ I done) (fun fl s' hs => ?_) fun e s' hs => hs
  cases fl with
  | ret u => obtain ⟨v, σ', H', J, rv', q⟩ := hs; exact ⟨v, H', J.os, J.bare, J.base, J.hok, rv', q⟩
  | next => obtain ⟨σ', H', J, q⟩ := hs; exact ⟨.non, H', J.os, J.bare, J.base, J.hok, rfl, q⟩
  | brk => obtain ⟨_, _, _, q⟩ := hs; exact q.elim
  | cont => obtain ⟨_, _, _, q⟩ := hs; exact q.elim
/-- a def that is never reached keeps every promise -/
theorem fn_never {f : Addr} {fd : FuncData} {ps : List Str} {k : Nat} : FnOk P w K mg base (L2.CX P w) k f fd ps (spD K mg fun _ _ => .no) :=
  ⟨fun vs H Q E ⟨_, _, _, _, _, z⟩ => z.elim, fun A outer s H args us vs Q E _ _ _ _ ⟨_, _, _, _, _, z⟩ => z.elim⟩
theorem FnOk.up {f : Addr} {fd : FuncData} {ps : List Str} {j k : Nat} {sp : Sp} (F : FnOk P w K mg base (L2.CX P w) j f fd ps sp) (h : j ≤ k := by decide) : FnOk P w K mg base (L2.CX P w) k f fd ps sp := F.mono h
end

/-! ### the script -/
theorem ints_repD {r : RC} : ∀ ns : List Int, Reps r (ns.map V.int) (ns.map D.int)
  | [] => .nil
  | n :: ns => .cons (.int n) (ints_repD ns)
/-- the law's def on a script -/
theorem law_at {P : Program} {w : World} {K : PySem.W.Frag} {mg mb : Str → Option Value} {fa a : Addr} {fd : FuncData} {x : Str} {G : Fn} {s₁ : Shared} {vs : List Value} {ns : List Int}
    (KX : K.In s₁.heap) (hns : s₁.heap.Ns mainGlobals mg) (hb : s₁.heap.Ns builtinsNs mb) (hbb : ∀ x : Str, x ≠ "__name__" → mb x = bootBuiltins x) (lim : s₁.heap.NoLimit) (hg : s₁.gens = #[])
    (ha : s₁.heap.get? a = some { cls := .type "list", data := .seq vs.toArray }) (hi : IntsAre vs ns) (hl : ns.length ≤ sizeLine)
    (F : ∀ base : Heap, K.In base → base.Ns mainGlobals mg → RunAt P w K mg base callerA fa fd [x] (spD K mg G)) (bnds : ∀ (s : Shared) (u : Value), BindsTo s fd ⟨[u], []⟩ [(x, u)])
    (ans : ∃ μ, G [.frz (ns.map D.int)] [] = .ok (.bl true) μ) :
    codeAny (model P w) callerA (.call (.ref fa) ⟨[.ref a], []⟩) (fun r s' => r = .ok (.ret (.bool true)) ∧ OldK s₁.heap s'.heap ∧ s'.os = s₁.os ∧ AllBare s'.gens) s₁ := by
  have rv := vals_ints hi
  have go : ∀ H : Hp, (∀ b, H b = none ∨ (b = a ∧ H b = some (.frz { cls := .type "list", data := .seq vs.toArray } (.lst (ns.map V.int))))) → SqL K H a (ns.map V.int) → HOk P w H s₁.heap → (H a ≠ none → K.lookup a = none) →
      codeAny (model P w) callerA (.call (.ref fa) ⟨[.ref a], []⟩) (fun r s' => r = .ok (.ret (.bool true)) ∧ OldK s₁.heap s'.heap ∧ s'.os = s₁.os ∧ AllBare s'.gens) s₁ := by
    intro H only hS hok hK
    have isA : ∀ {b o}, H b = some o → b = a := fun {b o} e => by
      rcases only b with z | z
      · rw [z] at e; cases e
      · exact z.1
    have keep : ∀ {b o}, s₁.heap.get? b = some o → H b = none → (hidT s₁.heap H).get? b = some o := fun e n => hidT_get e n
    have seqA : ∀ {b o}, s₁.heap.get? b = some o → H b ≠ none → o = { cls := .type "list", data := .seq vs.toArray } := fun {b o} e n => by
      cases q : H b with
      | none => exact (n q).elim
      | some u =>
        rw [isA q, ha] at e
        exact (Option.some.inj e).symm
    have hidK : K.In (hidT s₁.heap H) := fun b o e => keep (KX b o e) (Classical.byContradiction fun n => by
      cases q : H b with
      | none => exact n q
      | some u =>
        have eb := isA q
        rw [eb] at e n
        rw [hK n] at e; cases e)
    have hidN : ∀ {b : Addr} {m : Str → Option Value}, s₁.heap.Ns b m → (hidT s₁.heap H).Ns b m := fun {b m} ⟨o, es, ep, e, d, r⟩ => ⟨o, es, ep, keep e (Classical.byContradiction fun n => by
      rw [seqA e n] at d
      cases d), d, r⟩
    have M : Mod K mg (hidT s₁.heap H) := ⟨hidK, hidN hns, ⟨mb, hidN hb, hbb⟩, let ⟨mc, h1, h2⟩ := lim; ⟨mc, hidN h1, h2⟩⟩
    have e0 : Env0 P w K mg (hidT s₁.heap H) callerA [] s₁ H := ⟨rfl, M, fun b o e => of_hidT e, Nat.le_of_eq (hidT_size _ _), trivial, fun b hb => (by cases hb), hok, .of_eq hg⟩
    have sp : spD K mg G [.ref a] H (fun v _ => v = .bl true) fun _ _ _ => False := by
      obtain ⟨μ, e⟩ := ans
      refine ⟨[.frz (ns.map D.int)], [], fun _ => False, [], ⟨.cons (.frz ?_ (ints_repD ns)) .nil, ⟨rfl, fun n a c h => (by cases h)⟩, List.nodup_nil, fun a h => (by cases h), fun a h => h.elim⟩, ?_⟩
      · rcases hS with h | h
        · exact .inl ⟨fun z => z, h⟩
        · exact .inr (.inr h)
      · rw [e]
        intro v H' C' _ q
        cases q
        rfl
    refine codeAny_mono (F _ hidK (hidN hns) [] s₁ H ⟨[.ref a], []⟩ [.ref a] [.ref a] _ _ e0 (bnds s₁ (.ref a)) (.cons rfl .nil) sp) fun r s' h => ?_
    cases r with
    | error e =>
      obtain ⟨_, _, _, _, _, _, _, _, _, _, _, _, z⟩ := h
      exact z.elim
    | ok fl =>
      cases fl with
      | next => exact h.elim
      | brk => exact h.elim
      | cont => exact h.elim
      | ret u =>
        obtain ⟨v, H', os, bare, un, hok', r', q⟩ := h
        cases (show v = .bl true from q)
        cases (show u = Value.bool true from r')
        refine ⟨rfl, OldK.of_keep fun b o e => ?_, os, bare⟩
        rcases only b with n | ⟨eb, n⟩
        · exact un.keep b o e n (by intro z; cases z) (by simp)
        · obtain ⟨e1, _⟩ := hok b _ n
          obtain ⟨e2, _⟩ := hok' b _ (un.frzs b _ _ n)
          rw [e] at e1; cases e1
          exact e2
  cases hk : K.lookup a with
  | some o =>
    have e := KX a o hk
    rw [ha] at e
    cases e
    exact go (fun _ => none) (fun _ => .inl rfl) (.inr ⟨_, vs.toArray, _, hk, rfl, rfl, rfl, by rw [List.size_toArray, hi.length]; exact hl, by simpa using rv⟩) (fun b u z => nomatch (show (none : Option HO) = some u from z)) fun z => (z rfl).elim
  | none =>
    refine go (fun b => if b = a then some (.frz { cls := .type "list", data := .seq vs.toArray } (.lst (ns.map V.int))) else none) (fun b => ?_) (.inl (.inr ⟨_, if_pos rfl⟩)) (fun b u z => ?_) fun _ => hk
    · by_cases h : b = a
      · exact .inr ⟨h, if_pos h⟩
      · exact .inl (if_neg h)
    · by_cases h : b = a
      · have z := (if_pos h).symm.trans z
        cases z
        subst h
        exact ⟨ha, by rw [List.length_map]; exact hl, vs, _, rv, ha⟩
      · have z := (if_neg h).symm.trans z
        cases z
/-- the goal behind the head -/
theorem walk_D {l : PySem.W.OpenLaw} {n : Nat} {q : Program} {loose : List Str} {XP : (Str → Option Value) → Heap → Prop} {YP : World → Heap → Prop} {d : DefRec} {K : Params → PySem.W.Frag} {G : Fn} {x : Str} (hn : l.most = some n) (hn2 : n ≤ sizeLine) (hdf : d.params.defaults = [])
    (hY : ∀ (w : World) (h : Heap), YP w h → (K w.params).In h)
    (F : ∀ (w : World) (mg : Str → Option Value) (fa : Addr) (h : Heap), (K w.params).In h → h.Ns mainGlobals mg → mg d.name = some (.ref fa) →
      ∃ fd : FuncData, (∀ (s : Shared) (u : Value), BindsTo s fd ⟨[u], []⟩ [(x, u)]) ∧ ∀ base : Heap, (K w.params).In base → base.Ns mainGlobals mg → RunAt l.prog w (K w.params) mg base callerA fa fd [x] (spD (K w.params) mg G))
    (ans : ∀ ns : List Int, ns.length ≤ n → ∃ μ, G [.frz (ns.map D.int)] [] = .ok (.bl true) μ) : PySem.W.WalkO q loose XP YP l.row.toRowW d [] (fun f vs => PySem.call f vs) := by
  refine Att.attach_call hn hdf fun w s₀ s₁ mg mb fa o pm cd doc a vs ns G' Y ho hd hcd hmg hobj hints hlen hg => ?_
  have KX := hY w _ Y
  obtain ⟨fd, hb, hF⟩ := F w mg fa _ KX G'.T.g hmg
  exact law_at KX G'.T.g G'.T.b G'.T.builtins G'.T.nolimit hg hobj hints (Nat.le_trans hlen hn2) hF hb (ans ns hlen)
end L2.DL

/-! DL19: what the printed texts lean on: module constants, defs by name, error classes. -/
namespace L2.DL
open PySem PySem.Spec PyProof.Rows
theorem nx_name {i : Nat} : NoEx (tgN i) := fun _ _ _ _ _ _ _ _ e => by cases e
def NoExs (g : List D → Mo Unit) : Prop := ∀ ds ρ μ c ns es ρ' μ', g ds ρ μ ≠ .ex c ns es ρ' μ'
theorem nxs_nil : NoExs tgNil := fun ds _ _ _ _ _ _ _ e => by
  cases ds with
  | nil => cases e
  | cons _ _ => cases e
theorem nxs_cons {g : D → Mo Unit} {gs : List D → Mo Unit} (h : NoEx g) (hs : NoExs gs) : NoExs (tgCons g gs) := fun ds ρ μ c ns es ρ' μ' e => by
  cases ds with
  | nil => cases e
  | cons d ds =>
    have e : bnd (g d) (fun _ => gs ds) ρ μ = .ex c ns es ρ' μ' := e
    unfold bnd at e
    cases q : g d ρ μ with
    | no => rw [q] at e; cases e
    | ex _ _ _ _ _ => exact h _ _ _ _ _ _ _ _ q
    | ok a ρ1 μ1 => rw [q] at e; exact hs _ _ _ _ _ _ _ _ e
theorem nx_tup {n : Nat} {gs : List D → Mo Unit} (h : NoExs gs) : NoEx (tgT n gs) := fun d ρ μ c ns es ρ' μ' e => by
  cases d with
  | tup ds =>
    have e : (if ds.length = n then gs ds else no) ρ μ = .ex c ns es ρ' μ' := e
    by_cases hl : ds.length = n
    · rw [if_pos hl] at e; exact h _ _ _ _ _ _ _ _ e
    · rw [if_neg hl] at e; cases e
  | _ => cases e
/-- a comprehension's block, looked at -/
theorem blk_ok {N : List Str} {sc scope : Scope} {own : List (Str × Nat)} (h : (scope.kind = .function ∧ (∀ y ∈ scope.names, scope.names.lookup y.1 = some y.2) ∧ (∀ p ∈ own, N[p.2]? = some p.1) ∧
    (∀ y ∈ scope.names, y.2 = .free → sc.names.lookup y.1 = some .cell ∨ sc.names.lookup y.1 = some .free) ∧ ∀ y ∈ scope.names, y.2 = .local ∨ y.2 = .cell → y.1 ∈ own.map (·.1) ∨ y.1 ∉ N)) : BlkOk N sc scope own := ⟨h.1, h.2.1, h.2.2.1, h.2.2.2.1, h.2.2.2.2⟩
def newD : Mo D := ret (.dct [] [])
theorem de_new {Φ : Ctx} {X : Cx} {pos : Pos} : DE Φ X (.Dict [] [] pos) newD := PE.imp pe_dnewK fun σ H Q ⟨ρ, μ, C, os, R, z⟩ p hp =>
  z _ _ C os (R.grow (Grow.upd hp)) (stp_grow (Grow.upd hp)) (.dct upd_same (R.fresh hp) rfl .nil)
theorem sub_mem {T : Sub} {k : Str × Str} {b : Bool} (h : T.lookup k = some b) : (k, b) ∈ T := by
  induction T with
  | nil => cases h
  | cons p T ih =>
    obtain ⟨a, c⟩ := p
    rw [List.lookup_cons] at h
    by_cases e : k == a
    · rw [e] at h
      cases h
      rw [eq_of_beq e]
      exact List.mem_cons_self
    · rw [Bool.not_eq_true] at e
      rw [e] at h
      exact List.mem_cons_of_mem _ (ih h)
/-- a constant of the module, told by the written part -/
structure GlK (K : PySem.W.Frag) (mg : Str → Option Value) (x : Str) (d : D) : Prop where
  ex : ∃ u v, mg x = some u ∧ RelV v u ∧ ∀ r : RC, r.K = K → r.mg = mg → Rep r v d
theorem GlK.gl {X : Cx} {x : Str} {d : D} (h : GlK X.K X.mg x d) : GlD X x d := ⟨h.ex⟩
inductive Flat : V → Value → D → Prop
  | int (i : Int) (t : Tok) : Flat (.int i) (.int i t) (.int i)
  | str (s : Str) (t : Tok) : Flat (.str s) (.str s t) (.str s)
inductive Flats : List V → List Value → List D → Prop
  | nil : Flats [] [] []
  | cons {v : V} {u : Value} {d : D} {vs : List V} {us : List Value} {ds : List D} (h : Flat v u d) (t : Flats vs us ds) : Flats (v :: vs) (u :: us) (d :: ds)
theorem Flats.vals : ∀ {vs : List V} {us : List Value} {ds : List D}, Flats vs us ds → Vals vs us
  | _, _, _, .nil => .nil
  | _, _, _, .cons h t => .cons (by cases h <;> exact ⟨_, rfl⟩) (Flats.vals t)
theorem Flats.reps {r : RC} : ∀ {vs : List V} {us : List Value} {ds : List D}, Flats vs us ds → Reps r vs ds
  | _, _, _, .nil => .nil
  | _, _, _, .cons h t => .cons (by cases h <;> constructor) (Flats.reps t)
section
variable {P : Program} {w : World} {K : PySem.W.Frag} {mg : Str → Option Value} {base h : Heap}
theorem glk_tup {x : Str} {T : Addr} {its : Array Value} {n : Nat} {sl : Array (Option Value)} {vs : List V} {ds : List D} (X : K.In h) (G : h.Ns mainGlobals mg) (a : PySem.W.nsIn K mainGlobals x = some (some (.ref T)))
    (l : K.lookup T = some ⟨.type "tuple", none, .seq its n, sl⟩) (f : Flats vs its.toList ds) (hs : its.size ≤ sizeLine) : GlK K mg x (.tup ds) :=
  ⟨.ref T, .ref T, PySem.W.mg_of X G a, rfl, fun r hK _ => .tup (.inr ⟨_, its, n, by rw [hK]; exact l, rfl, rfl, rfl, hs, f.vals⟩) f.reps⟩
/-- a def of the module, by its name -/
structure FunG (K : PySem.W.Frag) (mg : Str → Option Value) (x : Str) (st : Stmt) (f : Addr) (fd : FuncData) : Prop where
  fn : Fun K x x st f fd
  mg : mg x = some (.ref f)
theorem FunG.dfn {x : Str} {st : Stmt} {f : Addr} {fd : FuncData} {ps : List Str} {k : Nat} {G : Fn} (F : FunG K mg x st f fd) (ok : FnOk P w K mg base (L2.CX P w) k f fd ps (spD K mg G)) (hb : Binds K fd ps []) : Dfn P w K mg base x k G := ⟨f, fd, ps, ok, F.mg, F.fn.kp, hb⟩
theorem FunG.dfk {x : Str} {st : Stmt} {f : Addr} {fd : FuncData} {ps ks : List Str} {k n : Nat} {G : Fn} {ix : List Nat} (F : FunG K mg x st f fd) (ok : FnOk P w K mg base (L2.CX P w) k f fd ps (spD K mg G)) (hb : KwB K fd ps ks n ix) : DfK P w K mg base x k G n ks ix :=
  ⟨f, fd, ps, ok, F.mg, F.fn.kp, hb⟩
theorem Fun.kwb {x qual : Str} {st : Stmt} {f : Addr} {fd : FuncData} {ps ks : List Str} {n : Nat} {ix : List Nat} (F : Fun K x qual st f fd)
    (h : ∀ (kV doc pm : Value) (an : Option Addr) (cdv ct : Value) (us ws : List Value), us.length = n → ws.length = ks.length → bindArgs (PySem.W.fnOf x qual (defArgs st) (defBody st) (defScope st) .none kV doc pm an cdv ct) ⟨us, ks.zip ws⟩ = pure (ps.zip (pick ix (us ++ ws)))) : KwB K fd ps ks n ix := by
  obtain ⟨oc, od, kV, doc, pm, an, cdv, ct, osl, rfl, lk, hcd⟩ := F.ex
  exact fun s us ws _ h1 h2 => .of_eq (h kV doc pm an cdv ct us ws h1 h2)
/-- an error class of the module -/
structure ErrG (K : PySem.W.Frag) (mg : Str → Option Value) (c q : Str) (st : Stmt) (C fI : Addr) (fd : FuncData) (B nw ini : String) (bm0 : List Value) : Prop where
  mg : mg c = some (.ref C)
  base : ExcBaseFacts B nw ini bm0
  cls : ExC K C bm0 nw
  init : PySem.W.findIn K (.ref C) "__init__" = some (some (.ref fI))
  ty : PySem.W.typeIn K (.ref fI) = some (.type "function")
  fn : Fun K "__init__" q st fI fd
theorem ErrG.erx {c q : Str} {st : Stmt} {C fI : Addr} {fd : FuncData} {B nw ini : String} {bm0 : List Value} {N ps : List Str} {L : List (Str × Src)} {n : Nat} (E : ErrG K mg c q st C fI fd B nw ini bm0) (S : FnScope N ps (defScope st))
    (hno : ∀ p ∈ L, PySem.W.findIn K (.ref C) p.1 = some none) (hn : ps.length = n + 1)
    (hb : ∀ (cdv : Value) (A : Around) (outer : List PySem.Env) (s : Shared) (H : Hp) (E : XK), PSs (cxOf CX0 P w K mg base N q (defScope st) fI cdv A outer s H E).nox (defBody st) (tXs K bm0 nw L))
    (bnds : Binds K fd ps []) (hl : L.length ≤ 900 := by decide) : Erx P w K mg base c 1 n L :=
  ⟨C, fI, fd, ps, bm0, nw, B, ini, E.mg, E.base, E.cls, E.init, E.ty, Fun.okI E.fn S E.cls hno hl n hn hb, bnds⟩
theorem exc_mk {nm q : Str} {C N : Addr} {bs bm bm0 : List Value} {sn : List Str} {sub : List Value} {ab : Bool} {col : Option Bool} {dd : Option Addr} {k0 k1 k2 k3 k5 : Option Value} {nw : String}
    (l : K.lookup C = some (excClassObj nm q C N bs bm true sn sub ab col dd k0 k1 k2 k3 k5 nw)) (hp : ∀ self, refuseLoop self "__setattr__" bm0 = pure ()) (hr : refsB bm0 bm = true) (ho : bm.contains (.type "object") = true)
    (sa : PySem.W.findIn K (.ref C) "__setattr__" = some (some (.builtin "object.__setattr__"))) (e : PySem.W.subIn K (.ref C) (.type "BaseException") = some true) (t : PySem.W.typeIn K (.ref C) = some (.type "type")) (k : PySem.W.keepIn K (.ref C) = true) : ExC K C bm0 nw :=
  ⟨⟨nm, q, N, bs, bm, sn, sub, ab, col, dd, k0, k1, k2, k3, k5, l, (refsB_ok hp hr).1, ho, (refsB_ok hp hr).2⟩, sa, e, t, k⟩
theorem exm_mk {S T : Addr} {b : Bool} (h1 : PySem.W.subIn K (.ref T) (.type "BaseException") = some true) (h2 : PySem.W.isClsIn K T = true) (h3 : PySem.W.typeIn K (.ref T) = some (.type "type")) (h4 : PySem.W.subIn K (.ref S) (.ref T) = some b) : PySem.W.exmOne K (.ref S) (.ref T) = some b := by
  have e1 : (PySem.W.subIn K (.ref T) (.type "BaseException") == some true) = true := by rw [h1] <;> rfl
  have e2 : ((PySem.W.clsIn K T).isSome && PySem.W.typeIn K (.ref T) == some (.type "type")) = true := by
    have h2' : (PySem.W.clsIn K T).isSome = true := h2
    rw [h2', h3] <;> rfl
  show (if (PySem.W.subIn K (.ref T) (.type "BaseException") == some true) = true then (if ((PySem.W.clsIn K T).isSome && PySem.W.typeIn K (.ref T) == some (.type "type")) = true then PySem.W.subIn K (.ref S) (.ref T) else none) else none) = some b
  rw [if_pos e1, if_pos e2, h4]
end
end L2.DL

/-! DL20: the mirrors reckoned: each combinator where it stands before an environment and a store. -/
namespace L2.DL
open PySem PySem.Spec
def bo {α β : Type} (o : O α) (g : α → Mo β) : O β := match o with
  | .ok a ρ μ => g a ρ μ
  | .ex c ns vs ρ μ => .ex c ns vs ρ μ
  | .no => .no
def sq (o : O Fl) (g : Mo Fl) : O Fl := match o with
  | .ok .nx ρ μ => g ρ μ
  | o => o
def bf (o : O Bool) {β : Type} (f g : Mo β) : O β := match o with
  | .ok true ρ μ => f ρ μ
  | .ok false ρ μ => g ρ μ
  | .ex c ns vs ρ μ => .ex c ns vs ρ μ
  | .no => .no
def rb (r : R) (ρ : Env) : O D := match r with
  | .ok d μ => .ok d ρ μ
  | .ow d μ => .ok d ρ μ
  | .ex c ns vs μ => .ex c ns vs ρ μ
  | .no => .no
def rw' (r : R) (ρ : Env) : O D := match r with
  | .ow d μ => .ok d ρ μ
  | .ex c ns vs μ => .ex c ns vs ρ μ
  | _ => .no
def tr (o : O Fl) (T : Sub) (hs : List HD) : O Fl := match o with
  | .ex c ns vs ρ μ => hdl T c ns vs hs ρ μ
  | o => o
def fo (o : O Fl) (gt : D → Mo Unit) (body : Mo Fl) (ds : List D) : O Fl := match o with
  | .ok .nx ρ μ => forL gt body ds ρ μ
  | .ok .ct ρ μ => forL gt body ds ρ μ
  | .ok .bk ρ μ => .ok .nx ρ μ
  | o => o
def ri (o : O Fl) : R := match o with
  | .ok .nx _ μ => .ok .non μ
  | .ok (.rt d) _ μ => .ok d μ
  | .ok (.ro d) _ μ => .ow d μ
  | .ok _ _ _ => .no
  | .ex c ns vs _ μ => .ex c ns vs μ
  | .no => .no
section
variable {α β : Type} {f g k : Mo D} {t u : Mo Bool} {s s' : Mo Fl} {ρ : Env} {μ : Sto} {h : D → D → Option D} {h1 : D → Option D} {hn : List D → Option D} {hm : D → List D → Option D} {a : α} {d : D} {fa fb : Mo (List D)} {i n m : Nat} {ix : List Nat} {G : Fn}
theorem bo_ok {g : α → Mo β} : bo (.ok a ρ μ) g = g a ρ μ := rfl
theorem bo_ex {g : α → Mo β} {c : Str} {ns : List Str} {vs : List D} : bo (.ex c ns vs ρ μ) g = .ex c ns vs ρ μ := rfl
theorem bo_no {g : α → Mo β} : bo .no g = .no := rfl
theorem bnd_ap {f : Mo α} {g : α → Mo β} : bnd f g ρ μ = bo (f ρ μ) g := by
  unfold bnd bo
  cases f ρ μ <;> rfl
theorem ret_ap : ret a ρ μ = .ok a ρ μ := rfl
theorem cst_ap : cst d ρ μ = .ok d ρ μ := rfl
theorem skp_ap : skp ρ μ = .ok .nx ρ μ := rfl
theorem lift_so : lift (some a) ρ μ = .ok a ρ μ := rfl
theorem lift_no : lift (none : Option α) ρ μ = .no := rfl
theorem sq_nx {g : Mo Fl} : sq (.ok .nx ρ μ) g = g ρ μ := rfl
theorem sq_rt {g : Mo Fl} : sq (.ok (.rt d) ρ μ) g = .ok (.rt d) ρ μ := rfl
theorem sq_ro {g : Mo Fl} : sq (.ok (.ro d) ρ μ) g = .ok (.ro d) ρ μ := rfl
theorem sq_bk {g : Mo Fl} : sq (.ok .bk ρ μ) g = .ok .bk ρ μ := rfl
theorem sq_ct {g : Mo Fl} : sq (.ok .ct ρ μ) g = .ok .ct ρ μ := rfl
theorem sq_ex {g : Mo Fl} {c : Str} {ns : List Str} {vs : List D} : sq (.ex c ns vs ρ μ) g = .ex c ns vs ρ μ := rfl
theorem seqM_ap : seqM s s' ρ μ = sq (s ρ μ) s' := by
  unfold seqM bnd sq
  cases s ρ μ with
  | ok fl ρ' μ' => cases fl <;> rfl
  | _ => rfl
theorem bf_t {f g : Mo β} : bf (.ok true ρ μ) f g = f ρ μ := rfl
theorem bf_f {f g : Mo β} : bf (.ok false ρ μ) f g = g ρ μ := rfl
theorem bf_d {f g : Mo β} {p : Prop} [Decidable p] : bf (.ok (decide p) ρ μ) f g = if p then f ρ μ else g ρ μ := by
  by_cases q : p
  · rw [decide_eq_true q, if_pos q]; rfl
  · rw [decide_eq_false q, if_neg q]; rfl
theorem bf_eq {f g : Mo β} : bnd t (fun b => if b then f else g) ρ μ = bf (t ρ μ) f g := by
  unfold bnd bf
  cases t ρ μ with
  | ok b ρ' μ' => cases b <;> rfl
  | _ => rfl
theorem ifS_ap : ifS t s s' ρ μ = bf (t ρ μ) s s' := bf_eq
theorem ifM_ap : ifM t f g ρ μ = bf (t ρ μ) f g := bf_eq
theorem andM_ap : andM t u ρ μ = bf (t ρ μ) u (ret false) := bf_eq
theorem orM_ap : orM t u ρ μ = bf (t ρ μ) (ret true) u := bf_eq
theorem notM_ap : notM t ρ μ = bo (t ρ μ) fun b => ret (!b) := bnd_ap
theorem tst_ap : tst f ρ μ = bo (f ρ μ) fun x => lift (asBl x) := bnd_ap
theorem tru_ap : tru f ρ μ = bo (f ρ μ) fun x => lift (truD x) := bnd_ap
theorem op2_ap : op2 h f g ρ μ = bo (f ρ μ) fun x => bnd g fun y => lift (h x y) := bnd_ap
theorem op1_ap : op1 h1 f ρ μ = bo (f ρ μ) fun x => lift (h1 x) := bnd_ap
theorem opN_ap : opN hn fa ρ μ = bo (fa ρ μ) fun ds => lift (hn ds) := bnd_ap
theorem acons_ap : acons f fa ρ μ = bo (f ρ μ) fun d => bnd fa fun ds => ret (d :: ds) := bnd_ap
theorem anil_ap : anil ρ μ = .ok [] ρ μ := rfl
theorem tupM_ap : tupM fa ρ μ = bo (fa ρ μ) fun ds => lift (mkT ds) := bnd_ap
theorem lstM_ap : lstM fa ρ μ = bo (fa ρ μ) fun ds => lift (mkL ds) := bnd_ap
theorem slM_ap {l r : Mo OI} : slM f l r ρ μ = bo (f ρ μ) fun x => bnd l fun lo => bnd r fun hi => lift (slD x lo hi) := bnd_ap
theorem noP_ap : noP ρ μ = .ok none ρ μ := rfl
theorem prt_ap : prt f ρ μ = bo (f ρ μ) fun x => lift (asI x) := bnd_ap
theorem met0_ap : met0 hm f ρ μ = bo (f ρ μ) fun x => bnd (lift (isStr x)) fun _ => lift (hm x []) := bnd_ap
theorem met1_ap : met1 hm f g ρ μ = bo (f ρ μ) fun x => bnd (lift (isStr x)) fun _ => bnd g fun y => lift (hm x [y]) := bnd_ap
theorem metT_ap : metT hm f g ρ μ = bo (f ρ μ) fun x => bnd (lift (isTup x)) fun _ => bnd g fun y => lift (hm x [y]) := bnd_ap
theorem andV_ap : andV f g ρ μ = bo (f ρ μ) fun x => bnd (lift (asBl x)) fun b => if b then g else ret (.bl false) := bnd_ap
theorem orV_ap : orV f g ρ μ = bo (f ρ μ) fun x => bnd (lift (asBl x)) fun b => if b then ret (.bl true) else g := bnd_ap
theorem notV_ap : notV f ρ μ = bo (f ρ μ) fun x => bnd (lift (asBl x)) fun b => ret (.bl (!b)) := bnd_ap
theorem rtM_ap : rtM f ρ μ = bo (f ρ μ) fun d => ret (.rt d) := bnd_ap
theorem rtF_ap : rtF f ρ μ = bo (f ρ μ) fun d => ret (.ro d) := bnd_ap
theorem drp_ap : drp f ρ μ = bo (f ρ μ) fun _ => ret .nx := bnd_ap
theorem setM_ap : setM i f ρ μ = bo (f ρ μ) fun d => put i (.sh d) := bnd_ap
theorem setF_ap : setF i f ρ μ = bo (f ρ μ) fun d => put i (.ow d) := bnd_ap
theorem put_ap {e : Ent} : put i e ρ μ = .ok .nx (ρ.set i (some e)) μ := rfl
theorem stiM_ap : stiM i f g ρ μ = bo (f ρ μ) fun d => bnd (isLst i) fun _ => bnd g fun j => lstUp i fun ds => match j with
  | .int n => (ixN ds.length n).map fun m => ds.set m d
  | _ => none := bnd_ap
theorem apnM_ap : apnM i f ρ μ = bo (isLst i ρ μ) fun _ => bnd f fun d => lstUp i fun ds => if ds.length < lineN then some (ds ++ [d]) else none := bnd_ap
theorem forM_ap {gt : D → Mo Unit} : forM fa gt s ρ μ = bo (fa ρ μ) fun ds => forL gt s ds := bnd_ap
theorem forL_nil {gt : D → Mo Unit} : forL gt s [] ρ μ = .ok .nx ρ μ := rfl
theorem forL_cons {gt : D → Mo Unit} {ds : List D} : forL gt s (d :: ds) ρ μ = bo (gt d ρ μ) fun _ ρ μ => fo (s ρ μ) gt s ds := by
  show bnd (gt d) _ ρ μ = _
  rw [bnd_ap]
  congr 1
  funext _ ρ' μ'
  show bnd s _ ρ' μ' = _
  unfold bnd fo
  cases s ρ' μ' with
  | ok fl ρ' μ' => cases fl <;> rfl
  | _ => rfl
theorem walk_ap : walk f ρ μ = bo (f ρ μ) fun d => lift (seqD d) := bnd_ap
theorem rngM1_ap : rngM1 fa ρ μ = bo (fa ρ μ) fun ds => lift (rng1 ds) := bnd_ap
theorem rngM2_ap : rngM2 fa ρ μ = bo (fa ρ μ) fun ds => lift (rng2 ds) := bnd_ap
theorem zipM_ap : zipM fa ρ μ = bo (fa ρ μ) fun ds => lift (zipD ds) := bnd_ap
theorem lcM_ap {own : List Nat} {gt : D → Mo Unit} {ft : Mo Bool} : lcM own fa gt ft f ρ μ = bo (fa ρ μ) fun ds => lcAll own gt ft f ds := bnd_ap
theorem tgN_ap : tgN i d ρ μ = .ok () (ρ.set i (some (.sh d))) μ := rfl
theorem calM_ap : calM G fa ρ μ = bo (fa ρ μ) fun ds ρ μ => rb (G ds μ) ρ := by
  unfold calM
  rw [bnd_ap]
  rfl
theorem cawM_ap : cawM G fa ρ μ = bo (fa ρ μ) fun ds ρ μ => rw' (G ds μ) ρ := by
  unfold cawM
  rw [bnd_ap]
  rfl
theorem rb_ok : rb (.ok d μ) ρ = .ok d ρ μ := rfl
theorem rb_ow : rb (.ow d μ) ρ = .ok d ρ μ := rfl
theorem rb_ex {c : Str} {ns : List Str} {vs : List D} : rb (.ex c ns vs μ) ρ = .ex c ns vs ρ μ := rfl
theorem rw_ow : rw' (.ow d μ) ρ = .ok d ρ μ := rfl
theorem kwA_ap : kwA n m ix fa fb ρ μ = bo (fa ρ μ) fun ds => bnd fb fun es => if ds.length = n ∧ es.length = m then ret (pick ix (ds ++ es)) else no := bnd_ap
theorem raiM_ap {c : Str} {L : List (Str × Src)} : raiM c L n fa ρ μ = bo (fa ρ μ) fun ds ρ μ => if ds.length = n then (match fldD ds L [] [] with
  | some (ns, vs) => .ex c ns vs ρ μ
  | none => .no) else .no := bnd_ap
theorem dspM_ap {ps : List (Mo D × Mo D)} : dspM ps ρ μ = bo (prsM ps ρ μ) fun l => if (l.map (·.1)).Nodup ∧ l.length ≤ 15 then ret (.dct (l.map (·.1)) (l.map (·.2))) else no := bnd_ap
theorem prsM_nil : prsM [] ρ μ = .ok [] ρ μ := rfl
theorem prsM_cons {r : List (Mo D × Mo D)} : prsM ((f, g) :: r) ρ μ = bo (f ρ μ) fun dk => bnd g fun dv => bnd (prsM r) fun l => match keyD dk with
  | some k => ret ((k, dv) :: l)
  | none => no := bnd_ap
theorem newD_ap : newD ρ μ = .ok (.dct [] []) ρ μ := rfl
theorem tryM_ap {T : Sub} {hs : List HD} : tryM T s hs ρ μ = tr (s ρ μ) T hs := by
  unfold tryM tr
  cases s ρ μ <;> rfl
theorem tr_ok {T : Sub} {hs : List HD} {fl : Fl} : tr (.ok fl ρ μ) T hs = .ok fl ρ μ := rfl
theorem tr_ex {T : Sub} {hs : List HD} {c : Str} {ns : List Str} {vs : List D} : tr (.ex c ns vs ρ μ) T hs = hdl T c ns vs hs ρ μ := rfl
theorem runD_ap {ds : List D} (hl : ds.length = i) : runD i n s ds μ = ri (s (ds.map (fun d => some (Ent.sh d)) ++ List.replicate (n - ds.length) none) μ) := by
  unfold runD ri
  rw [if_pos hl]
  all_goals
    cases s (ds.map (fun d => some (Ent.sh d)) ++ List.replicate (n - ds.length) none) μ with
    | ok fl _ _ => cases fl <;> rfl
    | _ => rfl
theorem ri_nx : ri (.ok .nx ρ μ) = .ok .non μ := rfl
theorem ri_rt : ri (.ok (.rt d) ρ μ) = .ok d μ := rfl
theorem ri_ro : ri (.ok (.ro d) ρ μ) = .ow d μ := rfl
theorem ri_ex {c : Str} {ns : List Str} {vs : List D} : ri (.ex c ns vs ρ μ) = .ex c ns vs μ := rfl
theorem lett_ap : lett i ρ μ = match ρ[i]? with
  | some (some (.sh d)) => .ok d ρ μ
  | some (some (.ow d)) => .ok d (ρ.set i (some (.sh d))) μ
  | some (some (.bd c ns vs)) => .ok (.ins c ns vs) (ρ.set i (some (.sh (.ins c ns vs)))) μ
  | _ => .no := rfl
theorem pek_ap : pek i ρ μ = match ρ[i]? with
  | some (some (.sh d)) => (match pekD d μ with
    | some d' => .ok d' ρ μ
    | none => .no)
  | some (some (.ow d)) => .ok d ρ μ
  | _ => .no := rfl
theorem op2v_ap : op2v h i g ρ μ = bo (pek i ρ μ) fun _ => bnd g fun y => bnd (pek i) fun x => lift (h x y) := bnd_ap
end
end L2.DL

/-! DL21: the operators on values, reckoned. -/
namespace L2.DL
open PySem PySem.Spec
theorem add_ii (i j : Int) : addD (.int i) (.int j) = some (.int (i + j)) := rfl
theorem sub_ii (i j : Int) : subD (.int i) (.int j) = some (.int (i - j)) := rfl
theorem mul_ii {i j : Int} (h : mulC i j = true) : mulD (.int i) (.int j) = some (.int (i * j)) := if_pos h
theorem mod_ii {i j : Int} (h : 0 < j) : modD (.int i) (.int j) = some (.int (i % j)) := if_pos (decide_eq_true h)
theorem fdiv_ii {i j : Int} (h : 0 < j) (h2 : j.natAbs.log2 < 9000) : fdivD (.int i) (.int j) = some (.int (i / j)) := if_pos (by show (decide (0 < j) && decide (j.natAbs.log2 < 9000)) = true; rw [decide_eq_true h, decide_eq_true h2] <;> rfl)
theorem pow_ii {i j : Int} (h : powC i j = true) : powD (.int i) (.int j) = some (.int (i ^ j.toNat)) := if_pos h
theorem lt_ii (i j : Int) : ltA (.int i) (.int j) = some (.bl (decide (i < j))) := rfl
theorem le_ii (i j : Int) : leD (.int i) (.int j) = some (.bl (decide (i ≤ j))) := rfl
theorem gt_ii (i j : Int) : gtD (.int i) (.int j) = some (.bl (decide (j < i))) := rfl
theorem ge_ii (i j : Int) : geD (.int i) (.int j) = some (.bl (decide (j ≤ i))) := rfl
theorem eq_ii (i j : Int) : eqQ (.int i) (.int j) = some (.bl (decide (i = j))) := rfl
theorem eq_bb (i j : Bool) : eqQ (.bl i) (.bl j) = some (.bl (decide (i = j))) := rfl
theorem eq_ss (i j : Str) : eqQ (.str i) (.str j) = some (.bl (decide (i = j))) := rfl
theorem ne_bb (i j : Bool) : neD (.bl i) (.bl j) = some (.bl (!decide (i = j))) := rfl
theorem ne_ss (i j : Str) : neD (.str i) (.str j) = some (.bl (!decide (i = j))) := rfl
theorem int_i (i : Int) : intD (.int i) = some (.int i) := rfl
theorem abs_i (i : Int) : absD (.int i) = some (.int (if i < 0 then -i else i)) := rfl
theorem asBl_b (b : Bool) : asBl (.bl b) = some b := rfl
theorem len_l (ds : List D) : lenD (.lst ds) = some (.int ds.length) := rfl
theorem len_t (ds : List D) : lenD (.tup ds) = some (.int ds.length) := rfl
theorem len_f (ds : List D) : lenD (.frz ds) = some (.int ds.length) := rfl
theorem tru_b (b : Bool) : truD (.bl b) = some b := rfl
theorem ix_l (ds : List D) (i : Int) : ixD (.lst ds) (.int i) = L2.atI ds i := rfl
theorem ix_t (ds : List D) (i : Int) : ixD (.tup ds) (.int i) = L2.atI ds i := rfl
theorem ix50 (a b c d e : D) : L2.atI [a, b, c, d, e] 0 = some a := rfl
theorem ix51 (a b c d e : D) : L2.atI [a, b, c, d, e] 1 = some b := rfl
theorem ix52 (a b c d e : D) : L2.atI [a, b, c, d, e] 2 = some c := rfl
theorem ix53 (a b c d e : D) : L2.atI [a, b, c, d, e] 3 = some d := rfl
theorem ix54 (a b c d e : D) : L2.atI [a, b, c, d, e] 4 = some e := rfl
theorem up5 (a b c d e x : D) (k : Nat) (hk : k < 5) : (L2.ixN [a, b, c, d, e].length (k : Int)).map (fun m => [a, b, c, d, e].set m x) = some ([a, b, c, d, e].set k x) := by
  match k, hk with
  | 0, _ => rfl
  | 1, _ => rfl
  | 2, _ => rfl
  | 3, _ => rfl
  | 4, _ => rfl
theorem atI_nat {ds : List D} {i : Int} {d : D} (h0 : 0 ≤ i) (h : ds[i.toNat]? = some d) : L2.atI ds i = some d := by
  have hl := (List.getElem?_eq_some_iff.mp h).1
  have e : L2.ixN ds.length i = some i.toNat := by
    unfold L2.ixN
    rw [if_pos h0, if_pos (by omega)]
  unfold L2.atI
  rw [e]
  exact h
theorem ixN50 : L2.ixN 5 0 = some 0 := rfl
theorem ixN51 : L2.ixN 5 1 = some 1 := rfl
theorem ixN52 : L2.ixN 5 2 = some 2 := rfl
theorem ixN53 : L2.ixN 5 3 = some 3 := rfl
theorem ixN54 : L2.ixN 5 4 = some 4 := rfl
end L2.DL

/-! DL22: chains of <, <= of ints and texts; what is walked: a list, a tuple or a text. -/
namespace L2.DL
open PySem PySem.Spec PyProof.Rows
def strLeD : D → D → Option D
  | .str s, .str t => some (.bl (!decide (t.cps.toList < s.cps.toList)))
  | _, _ => none
theorem od_leS {X : Cx} : OpD X (fun x y H Q => ∃ i j, x = .str i ∧ y = .str j ∧ Q (.bl (!decide (j.cps.toList < i.cps.toList))) H) strLeD := by
  intro q x y d1 d2 d Q _ _ _ h1 h2 e k
  cases d1 <;> cases d2 <;> first
    | (cases e; exact ⟨_, _, h1.str, h2.str, k _ _ (Grow.refl _) (.bl _)⟩)
    | cases e
def leA (x y : D) : Option D := (leD x y).or (strLeD x y)
section
variable {Φ : Ctx} {X : Cx} {a b c e : Expr} {f g k : Mo D} {pos : Pos}
theorem de_leA (ha : DE Φ X a f) (hb : DB Φ X b g) : DE Φ X (.Compare a [.LtE] [b] pos) (op2 leA f g) := de_cmp (op_le.or op_le_str) (od_le.or od_leS) ha hb (nomark _)
theorem dt_leA (ha : DE Φ X a f) (hb : DB Φ X b g) : DT Φ X (.Compare a [.LtE] [b] pos) (tst (op2 leA f g)) := pt_of (op_le.or op_le_str) (od_le.or od_leS) ha hb (nomark _)
theorem de_chLL (ha : DE Φ X a f) (hb : DE Φ X b g) (hc : DE Φ X c k) (hm : lastMarks [.LtE, .LtE] [b, c] = false := by rfl) : DE Φ X (.Compare a [.LtE, .LtE] [b, c] pos) (chn leA leA f g k) := de_chn (op_le.or op_le_str) (op_le.or op_le_str) (od_le.or od_leS) (od_le.or od_leS) ha hb hc hm
theorem de_chLl (ha : DE Φ X a f) (hb : DE Φ X b g) (hc : DE Φ X c k) (hm : lastMarks [.LtE, .Lt] [b, c] = false := by rfl) : DE Φ X (.Compare a [.LtE, .Lt] [b, c] pos) (chn leA ltA f g k) := de_chn (op_le.or op_le_str) (op_lt.or op_lt_str) (od_le.or od_leS) (od_lt.or od_ltS) ha hb hc hm
theorem de_chll (ha : DE Φ X a f) (hb : DE Φ X b g) (hc : DE Φ X c k) (hm : lastMarks [.Lt, .Lt] [b, c] = false := by rfl) : DE Φ X (.Compare a [.Lt, .Lt] [b, c] pos) (chn ltA ltA f g k) := de_chn (op_lt.or op_lt_str) (op_lt.or op_lt_str) (od_lt.or od_ltS) (od_lt.or od_ltS) ha hb hc hm
theorem dt_chLL (ha : DE Φ X a f) (hb : DE Φ X b g) (hc : DE Φ X c k) (hm : lastMarks [.LtE, .LtE] [b, c] = false := by rfl) : DT Φ X (.Compare a [.LtE, .LtE] [b, c] pos) (tst (chn leA leA f g k)) := dt_chn (op_le.or op_le_str) (op_le.or op_le_str) (od_le.or od_leS) (od_le.or od_leS) ha hb hc hm
theorem dt_chLl (ha : DE Φ X a f) (hb : DE Φ X b g) (hc : DE Φ X c k) (hm : lastMarks [.LtE, .Lt] [b, c] = false := by rfl) : DT Φ X (.Compare a [.LtE, .Lt] [b, c] pos) (tst (chn leA ltA f g k)) := dt_chn (op_le.or op_le_str) (op_lt.or op_lt_str) (od_le.or od_leS) (od_lt.or od_ltS) ha hb hc hm
theorem dt_chll (ha : DE Φ X a f) (hb : DE Φ X b g) (hc : DE Φ X c k) (hm : lastMarks [.Lt, .Lt] [b, c] = false := by rfl) : DT Φ X (.Compare a [.Lt, .Lt] [b, c] pos) (tst (chn ltA ltA f g k)) := dt_chn (op_lt.or op_lt_str) (op_lt.or op_lt_str) (od_lt.or od_ltS) (od_lt.or od_ltS) ha hb hc hm
/-- a list, a tuple or a text, item by item -/
def walkA (f : Mo D) : Mo (List D) := bnd f fun d => lift ((seqD d).or (chrs d))
theorem walkA_or (f : Mo D) (ρ : Env) (μ : Sto) : walkA f ρ μ = walk f ρ μ ∨ walkA f ρ μ = walkS f ρ μ := by
  unfold walkA walk walkS bnd
  cases e : f ρ μ with
  | no => exact .inl rfl
  | ex c ns vs ρ' μ' => exact .inl rfl
  | ok d ρ' μ' =>
    cases e2 : seqD d with
    | some ds => left; simp only [e2, Option.some_or]
    | none => right; simp only [e2, Option.none_or]
theorem di_any {tg : Expr} (h : DE Φ X e f) : DI Rep Φ X tg e (walkA f) := PI.imp (PI.or (di_seq h) (di_str h)) fun σ H R ⟨ρ, μ, C, os, R0, z⟩ => by
  rcases walkA_or f ρ μ with q | q
  · exact .inl ⟨ρ, μ, C, os, R0, by rw [← q]; exact z⟩
  · exact .inr ⟨ρ, μ, C, os, R0, by rw [← q]; exact z⟩
end
theorem chn_ap {h h' : D → D → Option D} {f g k : Mo D} {ρ : Env} {μ : Sto} : chn h h' f g k ρ μ = bo (f ρ μ) fun x => bnd g fun y => bnd (lift (h x y)) fun z => bnd (lift (asBl z)) fun b => if b then bnd k fun w => lift (h' y w) else ret (.bl false) := bnd_ap
theorem walkA_ap {f : Mo D} {ρ : Env} {μ : Sto} : walkA f ρ μ = bo (f ρ μ) fun d => lift ((seqD d).or (chrs d)) := bnd_ap
theorem leA_ii (i j : Int) : leA (.int i) (.int j) = some (.bl (decide (i ≤ j))) := rfl
end L2.DL

/-! DL23: f-strings; repr of values with great ints. -/
namespace L2.DL
open PySem PySem.Spec PyProof.Rows
/-! ### f'..{e}..' -/
def fmtD : D → Option D
  | .str s => if s.length ≤ lineN then some (.str s) else none
  | .int i => if i.natAbs.log2 < 1920 then some (.str (toString i)) else none
  | _ => none
def jM : List (Mo D) → Str → Mo D
  | [], acc => ret (.str acc)
  | f :: fs, acc => bnd f fun d => match d with
    | .str s => if (acc ++ s).length ≤ lineN then jM fs (acc ++ s) else no
    | _ => no
section
variable {Φ : Ctx} {X : Cx} {e : Expr} {f : Mo D} {pos : Pos}
theorem de_fmt (he : DE Φ X e f) : DE Φ X (.FormattedValue e (-1) none pos) (op1 fmtD f) := PE.imp (pe_fmt he) fun σ H Q ⟨ρ, μ, C, os, R, z⟩ => ⟨ρ, μ, C, os, R, PostE.bnd z fun d ρ1 μ1 v H1 C1 os1 R1 S1 q1 z1 => by
  obtain ⟨d', e', k⟩ := lift_ok R1 z1
  cases q1 with
  | str s =>
    have e' : (if s.length ≤ lineN then some (D.str s) else none) = some d' := e'
    split at e'
    · rename_i hl
      cases e'
      exact .inl ⟨s, rfl, by rw [line_eq]; exact hl, k _ _ (Grow.refl _) (.str _)⟩
    · cases e'
  | int i =>
    have e' : (if i.natAbs.log2 < 1920 then some (D.str (toString i)) else none) = some d' := e'
    split at e'
    · rename_i hl
      cases e'
      exact .inr ⟨i, rfl, hl, k _ _ (Grow.refl _) (.str _)⟩
    · cases e'
  | _ => cases e'⟩
/-- the parts of an f-string -/
def DJ (Φ : Ctx) (X : Cx) (es : List Expr) (fs : List (Mo D)) : Prop := PJ X es (fs.map (cE Φ X))
theorem dj_nil : DJ Φ X [] [] := .nil
theorem dj_cons {es : List Expr} {fs : List (Mo D)} (h : DE Φ X e f) (r : DJ Φ X es fs) : DJ Φ X (e :: es) (f :: fs) := .cons h r
theorem j_run : ∀ {fs : List (Mo D)} {acc : Str} {ρ : Env} {μ : Sto} {C : List Addr} {os : Os} {σ : L2.St} {H : Hp} {Q : VK}, Rl Φ X ρ μ C os σ H → PostE Φ X C os σ H (jM fs acc ρ μ) Q → tJs (fs.map (cE Φ X)) acc σ H fun out H1 => Q (.str out) H1
  | [], acc, ρ, μ, C, os, σ, H, Q, R, z => z _ H C os R (Stp.refl _) (.str acc)
  | f :: fs, acc, ρ, μ, C, os, σ, H, Q, R, z => by
    have z : PostE Φ X C os σ H (bnd f (fun d => match d with
      | .str s => if (acc ++ s).length ≤ lineN then jM fs (acc ++ s) else no
      | _ => no) ρ μ) Q := z
    show cE Φ X f σ H _
    refine ⟨ρ, μ, C, os, R, PostE.bnd z fun d ρ1 μ1 v H1 C1 os1 R1 S1 q1 z1 => ?_⟩
    cases q1 with
    | str s =>
      have z1 : PostE Φ X C1 os1 σ H1 ((if (acc ++ s).length ≤ lineN then jM fs (acc ++ s) else no) ρ1 μ1) Q := z1
      by_cases hl : (acc ++ s).length ≤ lineN
      · rw [if_pos hl] at z1
        exact ⟨s, rfl, by rw [line_eq]; exact hl, j_run R1 z1⟩
      · rw [if_neg hl] at z1
        exact z1.elim
    | _ => exact z1.elim
theorem de_js {v1 v2 : Expr} {rest : List Expr} {fs : List (Mo D)} (h : DJ Φ X (v1 :: v2 :: rest) fs) : DE Φ X (.JoinedStr (v1 :: v2 :: rest) pos) (jM fs Str.empty) := PE.imp (pe_joined h) fun σ H Q ⟨ρ, μ, C, os, R, z⟩ => j_run R z
theorem de_js1 (h : DE Φ X e f) : DE Φ X (.JoinedStr [e] pos) f := pe_joined1 h

/-! ### repr, whatever the length of its leaves -/
def reprE (d : D) : Option D := match toR d with
  | some p => if p.showable && decide (p.shown.length ≤ lineN) && decide (p.depth ≤ 60) then some (.str p.shown) else none
  | none => none
def rReprE (X : Cx) : List V → Hp → VK → Prop := fun xs H Q => ∃ (r : RC) (x : V) (d : D) (p : PyData), xs = [x] ∧ r.K = X.K ∧ r.H = H ∧ RepW r x d ∧ toR d = some p ∧ p.showable = true ∧ p.shown.length ≤ lineN ∧ p.depth ≤ 60 ∧ Q (.str p.shown) H
theorem call_reprE (hg : X.A.guards = some []) (hu : hasUnits X) : CallR X (.builtin "repr") (rReprE X) := by
  intro pins s σ H xs us Q I r h
  obtain ⟨q, x, d, p, rfl, h1, h2, h3, h4, h5, h6, h8, k⟩ := h
  obtain ⟨u, rfl, rv⟩ := vals1 r
  obtain ⟨as, hr, hm⟩ := rep_reads I h1 h2 h3 rv h4
  have hz : p.shown.length ≤ sizeLine := by rw [line_eq]; exact h6
  have hu : X.A.units + 64 < cLine := hu
  have done : ∀ (h' : Heap) (u : Tok) (tk : Nat), (∀ b o, s.heap.get? b = some o → h'.get? b = some o) → EP X pins σ Q (.str p.shown u) { s with heap := h', toks := tk } := fun h' u tk hk => ⟨.str _, H, I.kept (t' := tk) hk, ⟨_, rfl⟩, k⟩
  cases hr with
  | none => exact PySem.P.repr_of_none ⟨.str _, H, I.tok _, ⟨_, rfl⟩, k⟩
  | bool b => exact PySem.P.repr_of_bool ⟨.str _, H, I.tok _, ⟨_, rfl⟩, k⟩
  | int i t => exact PySem.P.repr_of_int (by simpa [PyData.showable] using h5) ⟨.str _, H, I.tok _, ⟨_, rfl⟩, k⟩
  | str x t => exact PySem.P.repr_of_str ⟨.str _, H, I.tok _, ⟨_, rfl⟩, k⟩ (by simpa only [PyData.shown] using hz)
  | list a1 a2 a3 a4 => exact repr_of_reads' (.list a1 a2 a3 a4) h5 hm hg (by omega) (fun _ _ e => e) done hz
  | tuple a1 a2 a3 a4 => exact repr_of_reads' (.tuple a1 a2 a3 a4) h5 hm hg (by omega) (fun _ _ e => e) done hz
  | dict a1 a2 a3 a4 a5 => exact repr_of_reads' (.dict a1 a2 a3 a4 a5) h5 hm hg (by omega) (fun _ _ e => e) done hz
theorem cd_reprE : Cal1 X (rReprE X) reprE := by
  intro q x d1 d Q hK _ _ h1 e k
  unfold reprE at e
  cases e2 : toR d1 with
  | none => simp only [e2] at e; cases e
  | some p =>
    simp only [e2] at e
    split at e
    · rename_i hc
      simp only [Bool.and_eq_true, decide_eq_true_eq] at hc
      cases e
      exact ⟨q, x, d1, p, rfl, hK, rfl, h1, e2, hc.1.1, hc.1.2, hc.2, k _ _ (Grow.refl _) (.str _)⟩
    · cases e
theorem de_reprE {p : Pos} (hgd : X.A.guards = some []) (hu : hasUnits X) (hm : X.mg "repr" = none) (ha : DB Φ X e f) (hg : Gl X "repr" := by rfl) (he : starEach (e :: []) X.env = (false, eval e X.env) :: starEach [] X.env := by rfl) (hpl : (backTo pos (starEach [] X.env)).any (·.1) = false := by rfl) :
    DE Φ X (.Call (.Name "repr" p) [e] [] pos) (op1 reprE f) := de_b1 (call_reprE hgd hu) cd_reprE hm (by decide +kernel) ha hg (by decide) (by decide) he hpl
end
end L2.DL

/-! DL24: a tuple or list backward. -/
namespace L2.DL
open PySem PySem.Spec PyProof.Rows HT
theorem rev_pick (xs : Array Value) : ((List.range xs.size).filterMap fun (m : Nat) => xs[(((xs.size : Int) - 1) + (m : Int) * (-1)).toNat]?).toArray = xs.toList.reverse.toArray := by
  have e : (List.range xs.size).filterMap (fun (m : Nat) => xs[(((xs.size : Int) - 1) + (m : Int) * (-1)).toNat]?) = ((List.range xs.size).map fun k => xs.size - 1 - k).filterMap (xs[·]?) := by
    rw [List.filterMap_map]
    congr 1
    funext m
    have q : (((xs.size : Int) - 1) + (m : Int) * (-1)).toNat = xs.size - 1 - m := by omega
    rw [q] <;> rfl
  rw [e, PySem.W.krv_range, List.filterMap_reverse, PySem.W.krv_all]
section
variable {prog : Program} {w : World} {A : Around} {E : Value → Shared → Prop} {s : Shared}
theorem sliceApplied_rev {sl : Addr} {vl vu vs : Value} {n : Nat} {Q : Int × Int × Nat → Shared → Prop} (hs : s.heap.IsSliceOf sl vl vu vs) (pl : IsPart vl none) (pu : IsPart vu none) (ps : IsPart vs (some (-1)))
    (h : Q ((n : Int) - 1, -1, n) s) : wpAny (model prog w) A (Builtin.Slice.sliceApplied (.ref sl) (pure (n : Int))) Q E s := by
  obtain ⟨os, hos, hcs, hds⟩ := id hs
  unfold Builtin.Slice.sliceApplied Builtin.Slice.sliceFields
  refine wpAny_bind (wpAny_bind (wpAny_field hos hds (x := vl) rfl (wpAny_bind (wpAny_field hos hds (x := vu) rfl (wpAny_bind (wpAny_field hos hds (x := vs) rfl (wpAny_pure ?_)))))))
  refine wpAny_bind (slicePart_ ps ?_)
  show wpAny _ _ (if ((-1 : Int) == 0) = true then _ else _) _ _ s
  rw [if_neg (by decide)]
  refine wpAny_bind (slicePart_ pl (wpAny_bind (slicePart_ pu (wpAny_bind (wpAny_pure ?_)))))
  have e : Builtin.Slice.slicePlaces ((n : Int) - 1) (-1) (-1) = n := by
    unfold Builtin.Slice.slicePlaces
    rw [if_neg (by decide)]
    by_cases hn : (n : Int) - 1 > -1
    · rw [if_pos hn]
      have : ((n : Int) - 1 - -1 - 1) / (- -1) + 1 = n := by
        rw [show (- -1 : Int) = 1 by decide, Int.ediv_one]
        omega
      rw [this]
      exact Int.toNat_natCast n
    · rw [if_neg hn]
      have : n = 0 := by omega
      subst this
      rfl
  show wpAny _ _ (pure ((n : Int) - 1, (-1 : Int), Builtin.Slice.slicePlaces ((n : Int) - 1) (-1) (-1))) _ _ s
  rw [e]
  exact wpAny_pure h
theorem getItem_tuple_rev {t sl : Addr} {items : Array Value} {vl vu vs : Value} {Q : Value → Shared → Prop} (ht : IsTup s.heap t items) (hs : s.heap.IsSliceOf sl vl vu vs) (pl : IsPart vl none) (pu : IsPart vu none) (ps : IsPart vs (some (-1)))
    (h : Q (.ref s.heap.objs.size) { s with heap := s.heap.push { cls := .type "tuple", data := .seq items.toList.reverse.toArray } }) (hsz : items.size ≤ sizeLine) : wpAny (model prog w) A (getItem (.ref t) (.ref sl)) Q E s := by
  have fits : sizeOk (.seq items.toList.reverse.toArray) := by
    show items.toList.reverse.toArray.size ≤ sizeLine
    rw [List.size_toArray, List.length_reverse, Array.length_toList]
    exact hsz
  obtain ⟨os, hos, hcs, hds⟩ := id hs
  have hTs : s.TypeIs (.ref sl) "slice" := ⟨os, hos, hcs⟩
  unfold getItem
  try with_reducible refine wpAny_holding ?_
  first | refine wpAny_bind (wpAny_pure ?_) | skip
  refine wpAny_bind (wpAny_sequenceKey ht.typeIs (by decide) ?_)
  refine wpAny_bind (wpAny_callSpecial?_slot (name := Str.ofString "__getitem__") ht.typeIs PyProof.Rows.slot_tuple_getitem (wpAny_call_entry PyProof.Rows.slot_tuple_getitem ht.typeIs entry_tuple_getitem ?_ (args_tuple_getitem _ _)))
  show wpAny _ _ (Builtin.Tuple.tupleItemsOf (.ref t) >>= _) _ _ s
  refine wpAny_bind (tupleItemsOf_ ht (wpAny_bind (wpAny_typeOf hTs ?_)))
  rw [if_pos (by decide)]
  refine wpAny_bind (sliceApplied_rev hs pl pu ps ?_)
  have no : ¬ ((((items.size : Int) - 1) == 0 && (-1 : Int) == 1 && items.size == items.size) = true) := by
    rw [show ((-1 : Int) == 1) = false from by decide, Bool.and_false, Bool.false_and]
    exact Bool.false_ne_true
  show wpAny _ _ (if (((items.size : Int) - 1) == 0 && (-1 : Int) == 1 && items.size == items.size) = true then _ else _) _ _ s
  rw [if_neg no, rev_pick]
  first
    | exact wpAny_bind (m := Builtin.Tuple.tupleExact _) (wpAny_newObj_type (wpAny_pure ⟨_, rfl, wpAny_pure h⟩) fits)
    | exact wpAny_bind (m := Builtin.Tuple.tupleExact _) (wpAny_newObj_type (wpAny_bind (wpAny_pure (wpAny_pure ⟨_, rfl, wpAny_pure h⟩))) fits)
    | exact wpAny_bind (wpAny_bind (m := Builtin.Tuple.tupleExact _) (wpAny_newObj_type (wpAny_pure (wpAny_pure ⟨_, rfl, wpAny_pure h⟩)) fits))
    | exact wpAny_bind (wpAny_bind (m := Builtin.Tuple.tupleExact _) (wpAny_newObj_type (wpAny_pure ⟨_, rfl, wpAny_pure h⟩) fits))
end
theorem PE.or {X : Cx} {e : Expr} {t t' : TE} (h : PE X e t) (h' : PE X e t') : PE X e (fun σ H Q => t σ H Q ∨ t' σ H Q) := ⟨fun pins s σ H Q I q => by
  rcases q with q | q
  · exact h.run pins s σ H Q I q
  · exact h'.run pins s σ H Q I q⟩
section
variable {Φ : Ctx} {X : Cx} {e : Expr} {f : Mo D}
def tRvT (K : PySem.W.Frag) (te : TE) : TE := fun σ H Q => te σ H fun x H1 => ∃ a xs, x = .ref a ∧ SqT K H1 a xs ∧ NewT xs.reverse H1 Q
theorem pe_rvT {te : TE} {k : Nat} {p1 p2 p3 pos : Pos} (he : PE X e te) : PE X (.Subscript e (.Slice none none (some (.UnaryOp .USub (.Constant (.int 1) k p1) p2)) p3) pos) (tRvT X.K te) := by
  refine ⟨fun pins s σ H Q I h => Subscript_ (thn (he.run pins s σ H _ I h) fun v s1 ⟨x, H1, I1, r1, a, xs, ex, hx, q⟩ => ?_)⟩
  subst ex
  cases r1
  have st : PO X (some (.UnaryOp .USub (.Constant (.int 1) k p1) p2)) (tPart (tUn (rU fun i => .int (-i)) (tC (.int 1)))) := po_some (pe_un un_neg pe_int)
  refine wpAny_Slice (thn (po_none.run pins s1 σ H1 (fun o H2 => o = none ∧ H2 = H1) I1 ⟨rfl, rfl⟩) fun vl s2 ⟨l, H2, I2, pl, el, e2⟩ => ?_)
  subst el e2
  refine thn (po_none.run pins s2 σ H2 (fun o H3 => o = none ∧ H3 = H2) I2 ⟨rfl, rfl⟩) fun vu s3 ⟨u, H3, I3, pu, eu, e3⟩ => ?_
  subst eu e3
  refine thn (st.run pins s3 σ H3 (fun o H4 => o = some (-1) ∧ H4 = H3) I3 ⟨1, rfl, -1, rfl, rfl, rfl⟩) fun vs s4 ⟨o, H4, I4, ps, eo, e4⟩ => ?_
  subst eo e4
  have I5 : Inv X pins σ H4 { s4 with heap := s4.heap.push { cls := .type "slice", data := .fields #[vl, vu, vs] } } := I4.kept (t' := s4.toks) fun b ob q => Heap.get?_push_of_some _ q
  obtain ⟨its, r, ht, hz⟩ := I5.tuple hx
  have hlen := r.length
  show wpAny (model X.prog X.w) X.A (subscriptTail e (.Slice none none (some (.UnaryOp .USub (.Constant (.int 1) k p1) p2)) p3) (.ref a) (.ref s4.heap.objs.size)) (EP X pins σ Q) X.xe _
  refine tail_any (ops := [.ref a, .ref s4.heap.objs.size]) ht.typeIs PyProof.Rows.slot_tuple_getitem.lookup ?_ (by with_unfolding_all rfl)
  refine getItem_tuple_rev ht (Heap.IsSliceOf.new _ vl vu vs) pl pu ps ?_ (by rw [List.size_toArray]; omega)
  exact laidT I5 r.reverse (by rw [List.length_reverse]; exact hz) q
def revA : D → Option D
  | .str z => if z.length ≤ lineN then some (.str (revS z)) else none
  | .lst xs | .frz xs => some (.lst xs.reverse)
  | .tup xs => some (.tup xs.reverse)
  | _ => none
theorem de_revA {k : Nat} {p1 p2 p3 pos : Pos} (he : DE Φ X e f) : DE Φ X (.Subscript e (.Slice none none (some (.UnaryOp .USub (.Constant (.int 1) k p1) p2)) p3) pos) (op1 revA f) :=
  PE.imp (PE.or (pe_rvS he) (PE.or (pe_revL he) (pe_rvT he))) fun σ H Q ⟨ρ, μ, C, os, R, z⟩ => by
  cases e1 : f ρ μ with
  | no => unfold op1 bnd at z; simp only [e1] at z; exact z.elim
  | ex c ns vs ρ1 μ1 =>
    unfold op1 bnd at z
    simp only [e1] at z
    exact .inl ⟨ρ, μ, C, os, R, by rw [e1]; exact z⟩
  | ok d ρ1 μ1 =>
    unfold op1 bnd at z
    simp only [e1] at z
    have go : ∀ {v : V} {H1 : Hp} {C1 : List Addr} {os1 : Os}, Rl Φ X ρ1 μ1 C1 os1 σ H1 → Stp (rc Φ X C os H) (rc Φ X C1 os1 H1) → ∃ d', revA d = some d' ∧ ∀ v H', Grow H1 H' → Rep (rc Φ X C1 os1 H') v d' → Q v H' := fun R1 S1 => lift_ok R1 (PostE.from S1 z)
    cases d with
    | str s =>
      refine .inl ⟨ρ, μ, C, os, R, ?_⟩
      rw [e1]
      intro v H1 C1 os1 R1 S1 q1
      obtain ⟨d', e', k⟩ := go (v := v) R1 S1
      have e' : (if s.length ≤ lineN then some (D.str (revS s)) else none) = some d' := e'
      split at e'
      · rename_i hl
        cases e'
        cases q1
        exact ⟨s, rfl, by rw [line_eq]; exact hl, k _ _ (Grow.refl _) (.str _)⟩
      · cases e'
    | lst xs =>
      refine .inr (.inl ⟨ρ, μ, C, os, R, ?_⟩)
      rw [e1]
      intro v H1 C1 os1 R1 S1 q1
      obtain ⟨d', e', k⟩ := go (v := v) R1 S1
      cases e'
      cases q1 with
      | lst ha n qs => exact ⟨_, _, rfl, .of ha, fun p hp => k _ _ (Grow.upd hp) (NewR.rep (d := .lst _) ⟨_, rfl, qs.reverse⟩ hp (R1.fr p hp))⟩
    | frz xs =>
      refine .inr (.inl ⟨ρ, μ, C, os, R, ?_⟩)
      rw [e1]
      intro v H1 C1 os1 R1 S1 q1
      obtain ⟨d', e', k⟩ := go (v := v) R1 S1
      cases e'
      cases q1 with
      | frz ha qs => exact ⟨_, _, rfl, ha.sq, fun p hp => k _ _ (Grow.upd hp) (NewR.rep (d := .lst _) ⟨_, rfl, qs.reverse⟩ hp (R1.fr p hp))⟩
    | tup xs =>
      refine .inr (.inr ⟨ρ, μ, C, os, R, ?_⟩)
      rw [e1]
      intro v H1 C1 os1 R1 S1 q1
      obtain ⟨d', e', k⟩ := go (v := v) R1 S1
      cases e'
      cases q1 with
      | tup hT qs => exact ⟨_, _, rfl, hT.sq, newT (q := rc Φ X C1 os1 H1) R1.fr qs.reverse k⟩
    | non => exact z.elim
    | bl _ => exact z.elim
    | int _ => exact z.elim
    | dct _ _ => exact z.elim
    | ins _ _ _ => exact z.elim
    | cell _ => exact z.elim
end
end L2.DL

/-! DL25: tuple(range(i, j, c)). -/
namespace L2.DL
open PySem PySem.Spec PyProof.Rows
def rg3V (i c : Int) (n : Nat) : List V := (List.range n).map fun k => V.int (i + (k : Nat) * c)
def rg3D (i c : Int) (n : Nat) : List D := (List.range n).map fun k => D.int (i + (k : Nat) * c)
theorem rg3_vals {i c : Int} {n : Nat} {acc : Array Value} (h : ItemsOf (fun k v => ∃ t, v = Value.int (i + k * c) t) acc n) : Vals (rg3V i c n) acc.toList := by
  have hl : acc.toList.length = n := by rw [Array.length_toList]; exact h.1
  have e : rg3V i c n = (List.range acc.toList.length).map fun k => V.int (i + (k : Nat) * c) := by rw [hl] <;> rfl
  rw [e]
  have go : ∀ (l : List Value) (m : Nat), (∀ j v, l[j]? = some v → ∃ t, v = Value.int (i + ((m + j : Nat) : Int) * c) t) → Vals ((List.range' m l.length).map fun k => V.int (i + (k : Nat) * c)) l := by
    intro l
    induction l with
    | nil => intro m _; exact .nil
    | cons x l ih =>
      intro m hm
      rw [List.length_cons, List.range'_succ, List.map_cons]
      refine .cons ?_ (ih (m + 1) fun j v hj => ?_)
      · obtain ⟨t, e⟩ := hm 0 x rfl
        exact ⟨t, e⟩
      · obtain ⟨t, e⟩ := hm (j + 1) v (by simpa using hj)
        refine ⟨t, ?_⟩
        rw [e]
        congr 3
        omega
  rw [List.range_eq_range']
  refine go acc.toList 0 fun j v hj => ?_
  rw [Array.getElem?_toList] at hj
  obtain ⟨t, e⟩ := h.2 j v hj
  exact ⟨t, by rw [e, Nat.zero_add]⟩
def rg3 : List D → Option (List D)
  | [.int i, .int j, .int c] => if c ≠ 0 ∧ c.natAbs < 1073741824 ∧ Builtin.Range.small i j c = true ∧ Builtin.Range.rangeSize i j c = ((Builtin.Range.rangeSize i j c).toNat : Int) ∧ (Builtin.Range.rangeSize i j c).toNat ≤ lineN then
    some (rg3D i c (Builtin.Range.rangeSize i j c).toNat) else none
  | _ => none
def tupR3 (fa : Mo (List D)) : Mo D := bnd fa fun ds => lift ((rg3 ds).map D.tup)
section
variable {Φ : Ctx} {X : Cx} {a b c : Expr} {fa : Mo (List D)}
def tTR3 (ta : TA) : TE := fun σ H Q => ta σ H fun vs H1 => ∃ (i j c : Int) (n : Nat), vs = [.int i, .int j, .int c] ∧ RgC i j c n ∧ n ≤ lineN ∧ NewT (rg3V i c n) H1 Q
theorem pe_tR3 {ta : TA} {p pos p2 pos2 : Pos} (hc : X.calm = true) (hg : Gl X "tuple") (hm : X.mg "tuple" = none) (hg2 : Gl X "range") (hm2 : X.mg "range" = none) (ha : PA X [a, b, c] ta)
    (na : starEach [.Call (.Name "range" p2) [a, b, c] [] pos2] X.env = (false, eval (.Call (.Name "range" p2) [a, b, c] [] pos2) X.env) :: starEach [] X.env)
    (hs : starEach [a, b, c] X.env = (false, eval a X.env) :: starEach [b, c] X.env) (hpl : (backTo pos2 (starEach [b, c] X.env)).any (·.1) = false) :
    PE X (.Call (.Name "tuple" p) [.Call (.Name "range" p2) [a, b, c] [] pos2] [] pos) (tTR3 ta) := by
  refine ⟨fun pins s σ H Q I h => ?_⟩
  refine Call_ (ld_blt I hg hm boot_tuple (PyProof.Rows.callWith_type1 (args_cons ?_ na) na))
  refine Call_ (ld_blt I hg2 hm2 boot_range (PyProof.Rows.callWith_type1 (thn (ha.run pos2 pins s σ H _ I h) fun us s1 ⟨vs, H1, I1, r1, i, j, k, n, e, ⟨c0, c1, c2, c3⟩, hn, q⟩ => ?_) hs hpl))
  subst e
  cases r1 with
  | cons r rr =>
    cases rr with
    | cons r' rr =>
      cases rr with
      | cons r'' rr =>
        cases rr
        obtain ⟨t, rfl⟩ := r
        obtain ⟨t', rfl⟩ := r'
        obtain ⟨t'', rfl⟩ := r''
        refine call_range_3 c0 ?_ (.inl (PyProof.noPylong_small c1))
        have I2 : Inv X pins σ H1 { s1 with heap := s1.heap.push { cls := .type "range", data := .fields #[.int i t, .int j t', .int k t''] } } := I1.kept (t' := s1.toks) fun b o e => Heap.get?_push_of_some _ e
        refine args_nil (call_tuple_range (I2.ok.hd hc) (IsRange.new _ _ _ _ _ _ _) c2 c3 (Nat.le_trans hn (by decide)) fun h' tk acc hk hi => ?_)
        have I3 : Inv X pins σ H1 { s1 with heap := h', toks := tk } := I2.kept (t' := tk) hk
        have z := laidT (s := { s1 with heap := h', toks := tk }) I3 (rg3_vals hi) (by unfold rg3V; rw [List.length_map, List.length_range, line_eq]; exact hn) q
        have te : tupOb acc.toList = { cls := .type "tuple", data := .seq acc } := by unfold tupOb; rw [Array.toArray_toList]
        rw [te] at z
        exact z
theorem reps_rg3 {r : RC} (i c : Int) (n : Nat) : Reps r (rg3V i c n) (rg3D i c n) := by
  unfold rg3V rg3D
  induction List.range n with
  | nil => exact .nil
  | cons k l ih => exact .cons (.int _) ih
theorem de_tR3 {p pos p2 pos2 : Pos} (hc : X.calm = true) (hm : X.mg "tuple" = none) (hm2 : X.mg "range" = none) (ha : DA Φ X [a, b, c] fa) (hg : Gl X "tuple" := by rfl) (hg2 : Gl X "range" := by rfl)
    (na : starEach [.Call (.Name "range" p2) [a, b, c] [] pos2] X.env = (false, eval (.Call (.Name "range" p2) [a, b, c] [] pos2) X.env) :: starEach [] X.env := by rfl)
    (hs : starEach [a, b, c] X.env = (false, eval a X.env) :: starEach [b, c] X.env := by rfl) (hpl : (backTo pos2 (starEach [b, c] X.env)).any (·.1) = false := by rfl) :
    DE Φ X (.Call (.Name "tuple" p) [.Call (.Name "range" p2) [a, b, c] [] pos2] [] pos) (tupR3 fa) := PE.imp (pe_tR3 hc hg hm hg2 hm2 ha na hs hpl) fun σ H Q ⟨ρ, μ, C, os, R, z⟩ =>
  ⟨ρ, μ, C, os, R, PostE.bndA z fun ds ρ1 μ1 vs H1 C1 os1 R1 S1 q1 z1 => by
    obtain ⟨d, e, k⟩ := lift_ok R1 z1
    obtain ⟨l, e2, rfl⟩ := Option.map_eq_some_iff.mp e
    unfold rg3 at e2
    split at e2
    · rename_i i j c
      split at e2
      · rename_i hk
        cases e2
        obtain ⟨k1, k2, k3, k4, k5⟩ := hk
        cases q1 with
        | cons h t =>
          cases t with
          | cons h2 t =>
            cases t with
            | cons h3 t =>
              cases t
              cases h; cases h2; cases h3
              exact ⟨i, j, c, _, rfl, ⟨k1, k2, k3, k4⟩, k5, newT (q := rc Φ X C1 os1 H1) R1.fr (reps_rg3 i c _) k⟩
      · cases e2
    · cases e2⟩
end
end L2.DL

/-! DL26: the fields of instances. -/
namespace L2.DL
open PySem PySem.Spec PyProof.Rows
/-- the module's classes, each with the names that no class of it holds -/
abbrev FT := List (Str × List Str)
def FtOk (K : PySem.W.Frag) (mg : Str → Option Value) (T : FT) : Prop := ∀ c fs, T.lookup c = some fs → ∀ Cc, mg c = some (.ref Cc) → Cls K Cc ∧ ∀ f ∈ fs, NoAttr K Cc f
def fldOf (T : FT) (f c : Str) (ns : List Str) (vs : List D) : Option D := match T.lookup c with
  | some fs => if f ∈ fs then (ns.zip vs).lookup f else none
  | none => none
def insOf (d : D) (μ : Sto) : Option (Str × List Str × List D) := match d with
  | .ins c ns vs => some (c, ns, vs)
  | .cell n => match μ[n]? with
    | some (.ins c ns vs) => some (c, ns, vs)
    | _ => none
  | _ => none
def fldM (T : FT) (f : Str) (g : Mo D) : Mo D := bnd g fun d ρ μ => match insOf d μ with
  | some (c, ns, vs) => lift (fldOf T f c ns vs) ρ μ
  | none => .no
/-- the field of what a name holds: an instance, also one that is being made -/
def fldV (T : FT) (f : Str) (i : Nat) : Mo D := fun ρ μ => match ρ[i]? with
  | some (some (.bd c ns vs)) => lift (fldOf T f c ns vs) ρ μ
  | some (some (.sh d)) => (match insOf d μ with
    | some (c, ns, vs) => lift (fldOf T f c ns vs) ρ μ
    | none => .no)
  | _ => .no
section
variable {Φ : Ctx} {X : Cx} {e : Expr} {f : Str} {g : Mo D} {T : FT} {pos p : Pos}
theorem fld_at {ρ : Env} {μ : Sto} {C : List Addr} {os : Os} {σ : L2.St} {H : Hp} {Q : VK} {a : Addr} {c : Str} {ns : List Str} {vs : List D} (hT : FtOk X.K X.mg T) (R : Rl Φ X ρ μ C os σ H) (b : BdR (rc Φ X C os H) a c ns vs)
    (z : PostE Φ X C os σ H (lift (fldOf T f c ns vs) ρ μ) Q) : ∃ C' dx fs v, H a = some (.ins C' dx fs) ∧ Cls X.K C' ∧ NoAttr X.K C' f ∧ fs.lookup f = some v ∧ Q v H := by
  obtain ⟨Cc, dx, fs, h1, h2, h3, h4⟩ := b
  obtain ⟨d, e, k⟩ := lift_ok R z
  unfold fldOf at e
  cases e1 : T.lookup c with
  | none => simp only [e1] at e; cases e
  | some l =>
    simp only [e1] at e
    split at e
    · rename_i hf
      obtain ⟨t1, t2⟩ := hT c l e1 Cc h2
      obtain ⟨v, hv, q⟩ := zip_look h3 h4 e
      exact ⟨Cc, dx, fs, v, h1, t1, t2 f hf, hv, k v H (Grow.refl _) q⟩
    · cases e
theorem ins_at {ρ : Env} {μ : Sto} {C : List Addr} {os : Os} {σ : L2.St} {H : Hp} {v : V} {d : D} {c : Str} {ns : List Str} {vs : List D} (R : Rl Φ X ρ μ C os σ H) (q : Rep (rc Φ X C os H) v d) (e : insOf d μ = some (c, ns, vs)) : ∃ a, v = .ref a ∧ BdR (rc Φ X C os H) a c ns vs := by
  cases q with
  | ins h n g e2 qs =>
    cases e
    exact ⟨_, rfl, _, _, _, h, g, e2, qs⟩
  | @cell a n h =>
    have e : (match μ[n]? with
      | some (.ins c ns vs) => some (c, ns, vs)
      | _ => none) = some (c, ns, vs) := e
    split at e
    · rename_i c' ns' vs' hm
      cases e
      exact ⟨a, rfl, R.sto.2 n a _ h hm⟩
    · cases e
  | _ => cases e
theorem de_fld (hT : FtOk X.K X.mg T) (he : DE Φ X e g) (hb : attributeBase e f X.env (eval e X.env) = eval e X.env := by rfl) : DE Φ X (.Attribute e f pos) (fldM T f g) := PE.imp (pe_fld he hb) fun σ H Q ⟨ρ, μ, C, os, R, z⟩ =>
  ⟨ρ, μ, C, os, R, PostE.bnd z fun d ρ1 μ1 v H1 C1 os1 R1 S1 q1 z1 => by
    cases e1 : insOf d μ1 with
    | none => simp only [e1] at z1; exact z1.elim
    | some r =>
      obtain ⟨c, ns, vs⟩ := r
      simp only [e1] at z1
      obtain ⟨a, rfl, b⟩ := ins_at R1 q1 e1
      obtain ⟨C', dx, fs, w, h1, h2, h3, h4, h5⟩ := fld_at hT R1 b z1
      exact ⟨a, C', dx, fs, w, rfl, h1, h2, h3, h4, h5⟩⟩
theorem de_fldv {i : Nat} {x : Str} (hT : FtOk X.K X.mg T) (hN : X.N[i]? = some x := by rfl) (hv : Vis X.env.scope x := by first | exact Or.inl rfl | exact Or.inr (Or.inl rfl) | exact Or.inr (Or.inr rfl)) (hd : (x == ("__debug__" : Str)) = false := by decide)
    (hcd : (x == ("__classdict__" : Str)) = false := by decide) (hb : attributeBase (.Name x p) f X.env (eval (.Name x p) X.env) = eval (.Name x p) X.env := by rfl) : DE Φ X (.Attribute (.Name x p) f pos) (fldV T f i) :=
  PE.imp (pe_fld (pe_var hN hv hd hcd) hb) fun σ H Q ⟨ρ, μ, C, os, R, z⟩ => by
  unfold fldV at z
  cases e1 : ρ[i]? with
  | none => simp only [e1] at z; exact z.elim
  | some t =>
    cases t with
    | none => simp only [e1] at z; exact z.elim
    | some t =>
      cases t with
      | ow d => simp only [e1] at z; exact z.elim
      | eh c ns vs => simp only [e1] at z; exact z.elim
      | bd c ns vs =>
        simp only [e1] at z
        obtain ⟨v, hv', a, ⟨rfl, _⟩, _, b⟩ := R.env i _ e1
        obtain ⟨C', dx, fs, w, h1, h2, h3, h4, h5⟩ := fld_at hT R b z
        exact ⟨.ref a, hv', a, C', dx, fs, w, rfl, h1, h2, h3, h4, h5⟩
      | sh d =>
        simp only [e1] at z
        obtain ⟨v, hv', q⟩ := R.env i _ e1
        cases e2 : insOf d μ with
        | none => simp only [e2] at z; exact z.elim
        | some r =>
          obtain ⟨c, ns, vs⟩ := r
          simp only [e2] at z
          obtain ⟨a, rfl, b⟩ := ins_at R q e2
          obtain ⟨C', dx, fs, w, h1, h2, h3, h4, h5⟩ := fld_at hT R b z
          exact ⟨.ref a, hv', a, C', dx, fs, w, rfl, h1, h2, h3, h4, h5⟩
end
end L2.DL

/-! DL27: self.f = e. -/
namespace L2.DL
open PySem PySem.Spec PyProof.Rows
def putD (f : Str) (d : D) : List Str → List D → List Str × List D
  | g :: ns, v :: vs => if g = f then (g :: ns, d :: vs) else (g :: (putD f d ns vs).1, v :: (putD f d ns vs).2)
  | _, _ => ([f], [d])
theorem put_rep {r : RC} {f : Str} {y : V} {d : D} (q : Rep r y d) : ∀ {fs : List (Str × V)} {ns : List Str} {vs : List D}, fs.map (·.1) = ns → Reps r (fs.map (·.2)) vs →
    (putF f y fs).map (·.1) = (putD f d ns vs).1 ∧ Reps r ((putF f y fs).map (·.2)) (putD f d ns vs).2
  | [], ns, vs, h1, h2 => by
    subst h1
    cases h2
    exact ⟨rfl, .cons q .nil⟩
  | (g, x) :: fs, ns, vs, h1, h2 => by
    subst h1
    cases h2 with
    | @cons _ v _ vs hx t =>
      have ih := put_rep (f := f) q (fs := fs) rfl t
      unfold putF
      simp only [List.map_cons]
      unfold putD
      by_cases e : g = f
      · rw [if_pos e, if_pos e]
        exact ⟨rfl, .cons q t⟩
      · rw [if_neg e, if_neg e]
        refine ⟨?_, .cons hx ih.2⟩
        show g :: (putF f y fs).map (·.1) = g :: _
        rw [ih.1]
/-- may the field be set -/
def setOk (T : FT) (c f : Str) (ns : List Str) : Bool := (match T.lookup c with
  | some fs => decide (f ∈ fs)
  | none => false) && decide (ns.length < 1000)
def satM (T : FT) (f : Str) (i : Nat) (g : Mo D) : Mo Fl := bnd g fun d ρ μ => match ρ[i]? with
  | some (some (.bd c ns vs)) => if setOk T c f ns = true then .ok .nx (ρ.set i (some (.bd c (putD f d ns vs).1 (putD f d ns vs).2))) μ else .no
  | some (some (.sh (.cell n))) => (match μ[n]? with
    | some (.ins c ns vs) => if setOk T c f ns = true then .ok .nx ρ (μ.set n (.ins c (putD f d ns vs).1 (putD f d ns vs).2)) else .no
    | _ => .no)
  | _ => .no
section
variable {Φ : Ctx} {X : Cx} {e : Expr} {f : Str} {g : Mo D} {T : FT} {pos p p' : Pos}
theorem setOk_at {K : PySem.W.Frag} {mg : Str → Option Value} {c : Str} {ns : List Str} (hT : FtOk K mg T) (h : setOk T c f ns = true) {Cc : Addr} (hm : mg c = some (.ref Cc)) : Cls K Cc ∧ NoAttr K Cc f ∧ ns.length < 1000 := by
  unfold setOk at h
  rw [Bool.and_eq_true, decide_eq_true_iff] at h
  cases e : T.lookup c with
  | none => rw [e] at h; cases h.1
  | some fs =>
    rw [e] at h
    obtain ⟨t1, t2⟩ := hT c fs e Cc hm
    exact ⟨t1, t2 f (of_decide_eq_true h.1), h.2⟩
theorem bd_put {r r' : RC} {a : Addr} {c : Str} {ns : List Str} {vs : List D} {y : V} {d : D} {Cc dx : Addr} {fs : List (Str × V)} (S : Stp r r') (hm : r.mg c = some (.ref Cc)) (h1 : fs.map (·.1) = ns) (h2 : Reps r (fs.map (·.2)) vs) (q : Rep r y d)
    (ha : r'.H a = some (.ins Cc dx (putF f y fs))) : BdR r' a c (putD f d ns vs).1 (putD f d ns vs).2 := by
  obtain ⟨e1, e2⟩ := put_rep (f := f) q h1 h2
  exact ⟨Cc, dx, _, ha, by rw [S.g]; exact hm, e1, e2.step S⟩
theorem ds_sat {i : Nat} {x : Str} (hT : FtOk X.K X.mg T) (he : DE Φ X e g) (hN : X.N[i]? = some x := by rfl) (hv : Vis X.env.scope x := by first | exact Or.inl rfl | exact Or.inr (Or.inl rfl) | exact Or.inr (Or.inr rfl)) (hd : (x == ("__debug__" : Str)) = false := by decide)
    (hcd : (x == ("__classdict__" : Str)) = false := by decide) (hs : swapsWith e (some (.Attribute (.Name x p) f p')) pos.line X.env = pure false := by rfl) : DS Φ X (.Assign [.Attribute (.Name x p) f p'] e pos) (satM T f i g) :=
  PS.imp (ps_fld (pe_var hN hv hd hcd) he hs) fun E σ H ⟨ρ, μ, C, os, R, z⟩ => ⟨ρ, μ, C, os, R, PostS.bndE z fun d ρ1 μ1 y H1 C1 os1 R1 S1 q1 z1 => by
    cases e1 : ρ1[i]? with
    | none => simp only [e1] at z1; exact z1.elim
    | some t =>
      cases t with
      | none => simp only [e1] at z1; exact z1.elim
      | some t =>
        cases t with
        | ow d => simp only [e1] at z1; exact z1.elim
        | eh c ns vs => simp only [e1] at z1; exact z1.elim
        | bd c ns vs =>
          simp only [e1] at z1
          split at z1
          · rename_i hk
            obtain ⟨v, hv', a, ⟨rfl, hself⟩, hm, Cc, dx, fs, h1, h2, h3, h4⟩ := R1.env i _ e1
            obtain ⟨t1, t2, t3⟩ := setOk_at hT hk h2
            refine ⟨.ref a, hv', a, Cc, dx, fs, rfl, h1, t1, t2, by rw [← h3, List.length_map] at t3; exact t3, ?_⟩
            have S0 : Stp (rc Φ X C1 os1 H1) (rc Φ X C1 os1 (upd H1 a (.ins Cc dx (putF f y fs)))) := stp_mut (o := .ins Cc dx (putF f y fs)) h1 (.inr (.inr ⟨_, hm⟩)) (R1.notB (.inl hm))
            obtain ⟨R2, S2⟩ := R1.mutO (o := .ins Cc dx (putF f y fs)) (t := .bd c (putD f d ns vs).1 (putD f d ns vs).2) hv' hm ⟨a, ⟨rfl, hself⟩, hm, bd_put S0 h2 h3 h4 q1 upd_same⟩
            exact z1 σ _ C1 os1 R2 S2
          · exact z1.elim
        | sh d0 =>
          cases d0 with
          | cell n =>
            simp only [e1] at z1
            cases e2 : μ1[n]? with
            | none => simp only [e2] at z1; exact z1.elim
            | some c0 =>
              cases c0 with
              | lst _ => simp only [e2] at z1; exact z1.elim
              | err _ _ _ => simp only [e2] at z1; exact z1.elim
              | dct _ _ => simp only [e2] at z1; exact z1.elim
              | ins c ns vs =>
                simp only [e2] at z1
                split at z1
                · rename_i hk
                  obtain ⟨v, hv', q⟩ := R1.env i _ e1
                  cases q with
                  | @cell a _ hC =>
                    have hC : C1[n]? = some a := hC
                    obtain ⟨Cc, dx, fs, h1, h2, h3, h4⟩ := R1.sto.2 n a _ hC e2
                    obtain ⟨t1, t2, t3⟩ := setOk_at hT hk h2
                    refine ⟨.ref a, hv', a, Cc, dx, fs, rfl, h1, t1, t2, by rw [← h3, List.length_map] at t3; exact t3, ?_⟩
                    have S0 : Stp (rc Φ X C1 os1 H1) (rc Φ X C1 os1 (upd H1 a (.ins Cc dx (putF f y fs)))) := stp_mut (o := .ins Cc dx (putF f y fs)) h1 (.inr (.inl (List.mem_of_getElem? hC))) (R1.notB (i := 0) (.inr (List.mem_of_getElem? hC)))
                    obtain ⟨R2, S2⟩ := R1.mutC (o := .ins Cc dx (putF f y fs)) (c := .ins c (putD f d ns vs).1 (putD f d ns vs).2) hC (bd_put S0 h2 h3 h4 q1 upd_same)
                    exact z1 σ _ C1 os1 R2 S2
                · exact z1.elim
          | _ => simp only [e1] at z1; exact z1.elim⟩
end
end L2.DL

/-! DL28: an own __init__ as a function: from the arguments to the fields. -/
namespace L2.DL
open PySem PySem.Spec PyProof.Rows
inductive RI where
  | ok (ns : List Str) (vs : List D) (μ : Sto) | ex (c : Str) (ns : List Str) (vs : List D) (μ : Sto) | no
abbrev FnI := List D → Sto → RI
def PostI' (K : PySem.W.Frag) (mg : Str → Option Value) (A : Addr → Prop) (C : List Addr) (H : Hp) (a Cc : Addr) (r : RI) (Q : VK) (E : XK) : Prop := match r with
  | .ok ns es μ => ∀ dx fs H' C', COut K mg A [a] C H C' H' μ → H' a = some (.ins Cc dx fs) → fs.map (·.1) = ns → Reps (rO K mg A [a] C' H') (fs.map (·.2)) es → Q .non H'
  | .ex c ns es μ => ∀ Cx dy H' C', COut K mg A [] C H C' H' μ → mg c = some (.ref Cx) → EhR (rO K mg A [] C' H') dy c ns es → E (.ref Cx) (some dy) H'
  | .no => False
def spN (K : PySem.W.Frag) (mg : Str → Option Value) (c : Str) (G : FnI) : Sp := fun vs H Q E => ∃ (a Cc dx : Addr) (ws : List V) (ds : List D) (μ : Sto) (A : Addr → Prop) (C : List Addr) (H1 : Hp), vs = .ref a :: ws ∧ mg c = some (.ref Cc) ∧ H1 a = none ∧ H1 dx = none ∧ dx ≠ a ∧
  H = upd (upd H1 dx (.own a)) a (.ins Cc dx []) ∧ CIn K mg A C μ ws ds H1 ∧ PostI' K mg A C H1 a Cc (G ds μ) Q E
def runI (c : Str) (p n : Nat) (g : Mo Fl) : FnI := fun ds μ => if ds.length + 1 = p then (match g (some (Ent.bd c [] []) :: (ds.map (fun d => some (Ent.sh d)) ++ List.replicate (n - (ds.length + 1)) none)) μ with
  | .ok .nx ρ' μ' => (match (ρ'[0]? : Option (Option Ent)) with
    | some (some (.bd c' ns vs)) => if c' = c then .ok ns vs μ' else .no
    | _ => .no)
  | .ok _ _ _ => .no
  | .ex c ns vs _ μ' => .ex c ns vs μ'
  | .no => .no) else .no
section
variable {P : Program} {w : World} {K : PySem.W.Frag} {mg : Str → Option Value} {base : Heap}
theorem Rl.initI {Φ : Ctx} {N : List Str} {A : Addr → Prop} {C : List Addr} {μ : Sto} {ws : List V} {ds : List D} {H H1 : Hp} {a Cc dx : Addr} {c : Str} (i : CIn K mg A C μ ws ds H1) (hm : mg c = some (.ref Cc)) (na : H1 a = none) (nd : H1 dx = none) (ne : dx ≠ a)
    (eH : H = upd (upd H1 dx (.own a)) a (.ins Cc dx [])) (h1 : Φ.H0 = H) (h2 : Φ.A0 = A) (h3 : Φ.C0 = C) (h4 : Φ.M0 = fun b => b = a) (h5 : Φ.self = some a) :
    RlK Φ K mg (some (Ent.bd c [] []) :: (ds.map (fun d => some (Ent.sh d)) ++ List.replicate (N.length - (ds.length + 1)) none)) μ C [(some 0, a)] (start N (.ref a :: ws)) H := by
  have hl := i.arg.length
  have gr : Grow H1 H := by
    rw [eH]
    intro b o e
    rw [upd_ne (ne_of_none e na), upd_ne (ne_of_none e nd)]
    exact e
  have S : Stq ⟨K, mg, A, fun _ => False, C, H1⟩ (rcK Φ K mg C [(some 0, a)] H) := ⟨rfl, rfl, fun b z => by
    rcases z with z | z | ⟨j, z⟩
    · exact .inl (by rw [← h2]; exact z)
    · exact .inl (i.cA b z)
    · cases List.mem_singleton.mp z
      exact .inr na, ⟨[], by simp [rcK]⟩, fun b o e _ => gr b o e⟩
  have Ha : H a = some (.ins Cc dx []) := by rw [eH, upd_same]
  have nA : ¬ A a := fun z => by
    obtain ⟨o, e⟩ := i.alv a z
    rw [na] at e; cases e
  have nC : a ∉ C := fun z => nA (i.cA a z)
  subst h1 h2 h3
  refine ⟨?_, fun j t e => ?_, ⟨i.sto.1, fun n b c' e1 e2 => ?_⟩, fun x y b z1 z2 => ?_, fun x b z => ?_, ⟨[], by simp⟩, fun b z => .inl z, i.cnd, fun b z => ?_, fun b o z _ _ => z, fun b z => ?_⟩
  · unfold start
    simp [hl]
  · cases j with
    | zero =>
      rw [List.getElem?_cons_zero] at e
      cases e
      exact ⟨.ref a, by unfold start; simp, a, ⟨rfl, h5⟩, List.mem_singleton.mpr rfl, Cc, dx, [], Ha, hm, rfl, .nil⟩
    | succ j =>
      rw [List.getElem?_cons_succ] at e
      by_cases hj : j < ds.length
      · rw [List.getElem?_append_left (by simpa using hj), List.getElem?_map] at e
        obtain ⟨d, e1, e2⟩ := Option.map_eq_some_iff.mp e
        cases e2
        obtain ⟨v, hv, q⟩ := i.arg.get e1
        refine ⟨v, ?_, q.stq S⟩
        unfold start
        rw [List.getElem?_append_left (by simp [hl]; omega), List.getElem?_map, List.getElem?_cons_succ, hv] <;> rfl
      · rw [List.getElem?_append_right (by simpa using hj), List.getElem?_replicate] at e
        split at e <;> cases e
  · have q := i.sto.2 n b c' e1 e2
    cases c' with
    | lst ds => obtain ⟨vs, e, q⟩ := q; exact ⟨vs, gr _ _ e, q.stq S⟩
    | dct ks ds => obtain ⟨kvs, e, e2, q⟩ := q; exact ⟨kvs, gr _ _ e, e2, q.stq S⟩
    | ins c ns ds => obtain ⟨Cc', dx', fs, e, m, e2, q⟩ := q; exact ⟨Cc', dx', fs, gr _ _ e, m, e2, q.stq S⟩
    | err c ns ds => exact ErR.stq S (fun o e => gr _ _ e) q
  · cases List.mem_singleton.mp z1
    cases List.mem_singleton.mp z2
    rfl
  · cases List.mem_singleton.mp z
    exact ⟨.inr (by rw [h4]), nC, nA, _, Ha⟩
  · obtain ⟨o, e⟩ := i.alv b (i.cA b z)
    exact ⟨o, gr _ _ e⟩
  · rcases z with z | z
    · obtain ⟨o, e⟩ := i.alv b z
      exact ⟨o, gr _ _ e⟩
    · rw [h4] at z
      exact ⟨_, z ▸ Ha⟩
theorem Rl.outI {Φ : Ctx} {ρ : Env} {μ : Sto} {A : Addr → Prop} {C C' : List Addr} {os : Os} {σ : L2.St} {H H1 H' : Hp} {a dx Cc : Addr} (na : H1 a = none) (nd : H1 dx = none) (eH : H = upd (upd H1 dx (.own a)) a (.ins Cc dx [])) (h1 : Φ.H0 = H) (h2 : Φ.A0 = A) (h3 : Φ.C0 = C)
    (h4 : Φ.M0 = fun b => b = a) (R : RlK Φ K mg ρ μ C' os σ H') (zo : List Addr) (hz : ∀ b ∈ zo, b = a ∧ ∃ i, (i, b) ∈ os) : COut K mg A zo C H1 C' H' μ ∧ Stq (rcK Φ K mg C' os H') (rO K mg A zo C' H') := by
  have gr : Grow H1 H := by
    rw [eH]
    intro b o e
    rw [upd_ne (ne_of_none e na), upd_ne (ne_of_none e nd)]
    exact e
  subst h1 h2 h3
  have S : Stq (rcK Φ K mg C' os H') (rO K mg Φ.A0 zo C' H') := stq_A fun b z => by
    rcases z with z | z | z
    · exact .inl z
    · exact .inr (.inl z)
    · exact .inr (.inr (hz b z).2)
  have h0 : ∀ b, Φ.H0 b = none → H1 b = none := fun b e => by
    cases q : H1 b with
    | none => rfl
    | some o => rw [gr b o q] at e; cases e
  refine ⟨⟨R.pre, fun b z => (R.cfr b z).imp id (h0 b), R.cnd, R.clv, fun b o e n => R.frm b o (gr b o e) (fun hC => ?_) (by rw [h4]; exact ne_of_none e na), R.sto.stq S rfl rfl, fun b z => ?_⟩, S⟩
  · rcases R.cfr b hC with q | q
    · exact n q
    · rw [gr b o e] at q; cases q
  · obtain ⟨rfl, i, q⟩ := hz b z
    obtain ⟨_, f2, _, f4⟩ := R.fre i b q
    exact ⟨na, f2, f4⟩
/-- THE RULE for an own __init__ -/
theorem Fun.okN {qual c : Str} {st : Stmt} {f : Addr} {fd : FuncData} {N ps : List Str} {k : Nat} {g : Mo Fl} (F : Fun K "__init__" qual st f fd) (S : FnScope N ps (defScope st))
    (hb : ∀ (Φ : Ctx) (cdv : Value) (A : Around) (outer : List PySem.Env) (s : Shared) (H : Hp) (E : XK), Cn Φ (cxOf (L2.CX P w) P w K mg base N qual (defScope st) f cdv A outer s H E) k →
      DSs Φ (cxOf (L2.CX P w) P w K mg base N qual (defScope st) f cdv A outer s H E) (defBody st) g) : FnOk P w K mg base (L2.CX P w) (k + 1) f fd ps (spN K mg c (runI c ps.length N.length g)) := by
  refine Fun.okX F S (fun vs H Q E h => ?_) fun cdv A outer s H vs Q E hr h => ?_
  · obtain ⟨a, Cc, dx, ws, ds, μ, A, C, H1, rfl, _, _, _, _, _, i, z⟩ := h
    unfold runI at z
    split at z
    · rename_i hl
      rw [List.length_cons, i.arg.length, hl]
    · exact z.elim
  · obtain ⟨a, Cc, dx, ws, ds, μ, A', C, H1, rfl, hm, na, nd, ne, eH, i, z⟩ := h
    let Φ : Ctx := ⟨H, A', C, fun b => b = a, fun cls d _ H' => E cls d H', none, "", some a⟩
    have cn : Cn Φ (cxOf (L2.CX P w) P w K mg base N qual (defScope st) f cdv A outer s H E) k := ⟨S.nd, rfl, passes_of rfl, takes_of (X := cxOf (L2.CX P w) P w K mg base N qual (defScope st) f cdv A outer s H E) rfl rfl rfl rfl, hr⟩
    refine ⟨_, hb Φ cdv A outer s H E cn, _, μ, C, _, Rl.initI (N := N) i hm na nd ne eH rfl rfl rfl rfl rfl, ?_⟩
    unfold runI at z
    split at z
    · cases e : g (some (Ent.bd c [] []) :: (ds.map (fun d => some (Ent.sh d)) ++ List.replicate (N.length - (ds.length + 1)) none)) μ with
      | no => simp only [e] at z; exact z.elim
      | ex c' ns es ρ' μ' =>
        simp only [e] at z
        intro Cx dy σ' H' C' os' R _ hm' he
        obtain ⟨o, S'⟩ := Rl.outI na nd eH rfl rfl rfl rfl R [] (fun b z => by cases z)
        exact z Cx dy H' C' o hm' (he.stq S')
      | ok fl ρ' μ' =>
        simp only [e] at z
        intro σ' H' C' os' R _
        cases fl with
        | nx =>
          simp only at z
          cases e0 : (ρ'[0]? : Option (Option Ent)) with
          | none => rw [e0] at z; exact z.elim
          | some t =>
            cases t with
            | none => rw [e0] at z; exact z.elim
            | some t =>
              cases t with
              | sh _ => rw [e0] at z; exact z.elim
              | ow _ => rw [e0] at z; exact z.elim
              | eh _ _ _ => rw [e0] at z; exact z.elim
              | bd c' ns es =>
                rw [e0] at z
                simp only at z
                split at z
                · rename_i hc
                  subst hc
                  obtain ⟨v, _, a', ⟨_, hs⟩, hos, Cc', dx', fs, b1, b2, b3, b4⟩ := R.env 0 _ e0
                  cases (show some a = some a' from hs)
                  cases hm.symm.trans (show mg c' = some (.ref Cc') from b2)
                  obtain ⟨o, S'⟩ := Rl.outI na nd eH rfl rfl rfl rfl R [a] (fun b z => ⟨List.mem_singleton.mp z, some 0, List.mem_singleton.mp z ▸ hos⟩)
                  exact z dx' fs H' C' o b1 b3 (b4.stq S')
                · exact z.elim
        | bk => exact z.elim
        | ct => exact z.elim
        | rt _ => exact z.elim
        | ro _ => exact z.elim
    · exact z.elim
end
end L2.DL

/-! DL29: C(e, .., k = v, ..): a new instance. -/
namespace L2.DL
open PySem PySem.Spec PyProof.Rows
section
variable {X : Cx} {CX : CXT} {k n : Nat} {f C : Addr} {fd : FuncData} {ps ks : List Str} {sp : Sp} {E : L2.St → XK} {x : Str} {p pos : Pos} {es : List Expr} {kws : List Keyword} {t tk : TA} {g : List Value → List Value → List Value} {gV : List V → List V → List V}
def tNew (C : Addr) (n m : Nat) (sp : Sp) (gV : List V → List V → List V) (E : L2.St → XK) (t tk : TA) : TE := fun σ H Q => t σ H fun vs H1 => tk σ H1 fun zs H2 => vs.length = n ∧ zs.length = m ∧ ∀ a dx, H2 a = none → H2 dx = none → dx ≠ a →
  sp (gV (.ref a :: vs) zs) (upd (upd H2 dx (.own a)) a (.ins C dx [])) (fun v H3 => v = .non ∧ Q (.ref a) H3) (E σ)
theorem pe_new (M : Mk X.K C f) (F : FnOk X.prog X.w X.K X.mg X.base CX k f fd ps sp) (hr : Room (k + 1) X.A) (hg : Gl X x) (hm : X.mg x = some (.ref C)) (hb : KBn X.K fd ps (n + 1) ks g gV) (hx : ∀ σ, PassesAt CX X σ (E σ))
    (ha : PA X es t) (hkw : PK X kws tk) (hall : (backToKw pos (keywordEach kws X.env)).all (·.1.isSome) = true := by rfl) (hks : (backToKw pos (keywordEach kws X.env)).filterMap (·.1) = ks := by rfl)
    (hdb : (x == ("__debug__" : Str)) = false := by decide) (hpl : ((backTo pos (starEach es X.env)).any (·.1) || (backToKw pos (keywordEach kws X.env)).any (·.1.isNone)) = false := by rfl)
    (he : (es = [] ∧ n = 0) ∨ ∃ e r, es = e :: r ∧ starEach (e :: r) X.env = (false, eval e X.env) :: starEach r X.env := by first | exact .inl ⟨rfl, rfl⟩ | exact .inr ⟨_, _, rfl, rfl⟩) :
    PE X (.Call (.Name x p) es kws pos) (tNew C n ks.length sp gV E t tk) := by
  refine ⟨fun pins s σ H Q I h => wpAny_Call_Name_kw (ld_glob I hg hm ?_ hdb)⟩
  have go : ∀ {us ws : List Value} {vs zs : List V} {s2 : Shared} {H2 : Hp}, Inv X pins σ H2 s2 → Vals vs us → Vals zs ws → vs.length = n → zs.length = ks.length →
      (∀ a dx, H2 a = none → H2 dx = none → dx ≠ a → sp (gV (.ref a :: vs) zs) (upd (upd H2 dx (.own a)) a (.ins C dx [])) (fun v H3 => v = .non ∧ Q (.ref a) H3) (E σ)) →
      wpAny (model X.prog X.w) X.A (call (.ref C) us (ks.zip ws)) (EP X pins σ Q) X.xe s2 := by
    intro us ws vs zs s2 H2 I1 r rz l1 l2 q
    have hq := q (s2.heap.objs.size + 1) s2.heap.objs.size (I1.hok.fresh (Nat.le_succ _)) (I1.hok.fresh (Nat.le_refl _)) (Nat.ne_of_lt (Nat.lt_succ_self _))
    have I2 := Inv.made (C := C) I1
    have r1 : Vals (V.ref (s2.heap.objs.size + 1) :: vs) (Value.ref (s2.heap.objs.size + 1) :: us) := .cons rfl r
    have n1 : (Value.ref (s2.heap.objs.size + 1) :: us).length = n + 1 := by rw [List.length_cons, ← r.length, l1]
    have run := F.run (X.A.under (.builtin "type.__call__" ⟨.ref C :: us, ks.zip ws⟩)) X.stack _ _ ⟨Value.ref (s2.heap.objs.size + 1) :: us, ks.zip ws⟩ (g (Value.ref (s2.heap.objs.size + 1) :: us) ws) _ _ (E σ) (hr.make C us (ks.zip ws)) (I2.env0.make C us (ks.zip ws))
      (hb.to _ (Value.ref (s2.heap.objs.size + 1) :: us) ws I2.kIn n1 (rz.length.symm.trans l2)) (hb.rel r1 rz) hq
    refine wpAny_call (make_map (f := f) I1.kIn M.makes M.init (beq_iff_eq.mp M.fn) (codeAny_mono run fun o s' ho => ?_))
    cases o with
    | error e => exact hx σ pins _ _ e s' I2 ho
    | ok fl =>
      cases fl with
      | ret u =>
        obtain ⟨v, H', I3, rv, ev, q3⟩ := I2.after ho
        subst ev
        exact ⟨rv, V.ref (s2.heap.objs.size + 1), H', I3, rfl, q3⟩
      | next => exact ho.elim
      | brk => exact ho.elim
      | cont => exact ho.elim
  rcases he with ⟨rfl, hn0⟩ | ⟨e, r0, rfl, he⟩
  · refine PySem.W.callWith_KW0 (h₀ := X.base) I.ok.mod.kin M.kp hall ?_ hpl
    show wpAny (model X.prog X.w) X.A ((spliced (backTo pos (starEach [] X.env))) >>= fun _ => evalAll ((backToKw pos (keywordEach kws X.env)).map (·.2))) _ _ _
    refine wpAny_bind (thn (ha.run pos pins s σ H _ I h) fun us s1 ⟨vs, H1, I1, r, q⟩ => ?_)
    refine thn (hkw.run pos pins s1 σ H1 _ I1 q) fun ws s2 ⟨zs, H2, I2, rz, l1, l2, q2⟩ => ⟨I2.kIn, ?_⟩
    rw [hks]
    have lv : vs.length = 0 := l1.trans hn0
    cases vs with
    | cons _ _ => cases lv
    | nil =>
      cases r
      exact go I2 .nil rz l1 l2 q2
  · refine PySem.W.callWith_KW (h₀ := X.base) I.ok.mod.kin M.kp hall (thn (ha.run pos pins s σ H _ I h) fun us s1 ⟨vs, H1, I1, r, q⟩ => ?_) hpl he
    refine thn (hkw.run pos pins s1 σ H1 _ I1 q) fun ws s2 ⟨zs, H2, I2, rz, l1, l2, q2⟩ => ⟨I2.kIn, ?_⟩
    rw [hks]
    exact go I2 r rz l1 l2 q2
end
end L2.DL

/-! DL30: C(e, .., k = v, ..) read on trees. -/
namespace L2.DL
open PySem PySem.Spec PyProof.Rows
def newM (c : Str) (G : FnI) (fa : Mo (List D)) : Mo D := bnd fa fun ds ρ μ => match G ds μ with
  | .ok ns vs μ' => .ok (.ins c ns vs) ρ μ'
  | .ex c ns vs μ' => .ex c ns vs ρ μ'
  | .no => .no
/-- n arguments by place, m by name, the defaults dds; the parameters get the items at ix -/
def kwD (n m : Nat) (ix : List Nat) (dds : List D) (fa fk : Mo (List D)) : Mo (List D) := bnd fa fun ds => bnd fk fun es => if ds.length = n ∧ es.length = m then ret (pick ix (ds ++ (es ++ dds))) else no
/-- the module's class c: its own __init__ as G -/
structure Cln (P : Program) (w : World) (K : PySem.W.Frag) (mg : Str → Option Value) (base : Heap) (c : Str) (k : Nat) (G : FnI) (n : Nat) (ks : List Str) (ix : List Nat) (dds : List D) : Prop where
  ex : ∃ (C f : Addr) (fd : FuncData) (ps : List Str) (dvs : List V) (g : List Value → List Value → List Value), mg c = some (.ref C) ∧ Mk K C f ∧ FnOk P w K mg base (L2.CX P w) k f fd ps (spN K mg c G) ∧
    KBn K fd ps (n + 1) ks g (fun vs zs => vs.take 1 ++ pick ix (vs.drop 1 ++ (zs ++ dvs))) ∧ ∀ r : RC, Reps r dvs dds
section
variable {Φ : Ctx} {X : Cx} {c : Str} {G : FnI}
theorem new_at {Cc : Addr} {ρ : Env} {μ : Sto} {C : List Addr} {os : Os} {σ : L2.St} {H : Hp} {vs : List V} {ds : List D} {Q : VK} (hm : X.mg c = some (.ref Cc)) (R : Rl Φ X ρ μ C os σ H) (q : Reps (rc Φ X C os H) vs ds)
    (z : PostE Φ X C os σ H ((fun ρ μ => match G ds μ with
      | .ok ns vs μ' => .ok (.ins c ns vs) ρ μ'
      | .ex c ns vs μ' => .ex c ns vs ρ μ'
      | .no => .no : Mo D) ρ μ) Q) {a dx : Addr} (na : H a = none) (nd : H dx = none) (ne : dx ≠ a) :
    spN X.K X.mg c G (.ref a :: vs) (upd (upd H dx (.own a)) a (.ins Cc dx [])) (fun v H3 => v = .non ∧ Q (.ref a) H3) (WE Φ.W σ) := by
  have i := CIn.of R q
  refine ⟨a, Cc, dx, vs, ds, μ, AA Φ C os, C, H, rfl, hm, na, nd, ne, rfl, i, ?_⟩
  cases e : G ds μ with
  | no => simp only [e] at z; exact z.elim
  | ex c' ns es μ' =>
    simp only [e] at z
    intro Cx dy H' C' o hm' he
    obtain ⟨R', S', S2⟩ := R.called (i := 0) o
    exact z Cx dy H' C' _ R' S' hm' (he.stq S2)
  | ok ns es μ' =>
    simp only [e] at z
    intro dx' fs H' C' o h1 h2 h3
    obtain ⟨o2, S3, nA⟩ := o.let i.alv
    obtain ⟨R', S', S2⟩ := R.called (i := 0) o2
    refine ⟨rfl, z _ H' C' _ R' S' (Rep.stq S2 (.ins h1 nA hm h2 (h3.stq S3)))⟩
variable {x : Str} {p pos : Pos} {es : List Expr} {kws : List Keyword} {fa fk : Mo (List D)}
theorem de_new1 {k j n : Nat} {ks : List Str} {ix : List Nat} {dds : List D} (F : Cln X.prog X.w X.K X.mg X.base x k G n ks ix dds) (cc : Cc Φ X j) (ha : DA Φ X es fa) (hw : DK Φ X kws fk) (hg : Gl X x := by rfl) (hj : k + 1 ≤ j := by decide)
    (hall : (backToKw pos (keywordEach kws X.env)).all (·.1.isSome) = true := by rfl) (hks : (backToKw pos (keywordEach kws X.env)).filterMap (·.1) = ks := by rfl)
    (hdb : (x == ("__debug__" : Str)) = false := by decide) (hpl : ((backTo pos (starEach es X.env)).any (·.1) || (backToKw pos (keywordEach kws X.env)).any (·.1.isNone)) = false := by rfl)
    (he : (es = [] ∧ n = 0) ∨ ∃ e r, es = e :: r ∧ starEach (e :: r) X.env = (false, eval e X.env) :: starEach r X.env := by first | exact .inl ⟨rfl, rfl⟩ | exact .inr ⟨_, _, rfl, rfl⟩) :
    DE Φ X (.Call (.Name x p) es kws pos) (newM x G (kwD n ks.length ix dds fa fk)) := by
  obtain ⟨C, f, fd, ps, dvs, g, hm, M, F, hb, hd⟩ := F.ex
  refine PE.imp (pe_new M F (cc.rm.mono hj) hg hm hb (fun σ => passAt cc.tk σ) ha hw hall hks hdb hpl he) fun σ H Q ⟨ρ, μ, C0, os, R, z⟩ => ⟨ρ, μ, C0, os, R, ?_⟩
  unfold newM kwD bnd at z
  cases e1 : fa ρ μ with
  | no => simp only [e1] at z; exact z
  | ex c ns ds ρ1 μ1 => simp only [e1] at z; exact z
  | ok ds ρ1 μ1 =>
    simp only [e1] at z
    intro vs H1 C1 os1 R1 S1 q1
    refine ⟨ρ1, μ1, C1, os1, R1, ?_⟩
    have z := PostE.from S1 z
    cases e2 : fk ρ1 μ1 with
    | no => simp only [e2] at z; exact z
    | ex c ns ds ρ2 μ2 => simp only [e2] at z; exact z
    | ok es' ρ2 μ2 =>
      simp only [e2] at z
      intro zs H2 C2 os2 R2 S2 q2
      have z := PostE.from S2 z
      by_cases hl : ds.length = n ∧ es'.length = ks.length
      · rw [if_pos hl] at z
        have q3 := pick_reps ((q1.step S2).append (q2.append (hd _))) ix
        exact ⟨by rw [q1.length]; exact hl.1, by rw [q2.length]; exact hl.2, fun a dx na nd ne => new_at hm R2 q3 z na nd ne⟩
      · rw [if_neg hl] at z
        exact z.elim
end
end L2.DL

/-! DL31: methods of own instances; repr, len, str of them. -/
namespace L2.DL
open PySem PySem.Spec PyProof.Rows
section
variable {X : Cx} {CX : CXT} {k n : Nat} {f C : Addr} {fd : FuncData} {ps ks : List Str} {sp : Sp} {E : L2.St → XK} {x m : Str} {p pos apos : Pos} {o : Expr} {es : List Expr} {kws : List Keyword} {ta : TE} {t tk : TA} {g : List Value → List Value → List Value} {gV : List V → List V → List V}
/-- o.m(e, .., k = v, ..) of an instance of the class at C -/
def tMth (C : Addr) (m : Str) (n l : Nat) (sp : Sp) (gV : List V → List V → List V) (E : L2.St → XK) (ta : TE) (t tk : TA) : TE := fun σ H Q => ta σ H fun x H1 => ∃ a dx fs, x = .ref a ∧ H1 a = some (.ins C dx fs) ∧ fs.lookup m = none ∧
  t σ H1 fun vs H2 => tk σ H2 fun zs H3 => vs.length = n ∧ zs.length = l ∧ sp (gV (x :: vs) zs) H3 Q (E σ)
theorem run_fnK {A : Around} {pins : List (Addr × Obj)} {σ : L2.St} {H : Hp} {s : Shared} {Q : VK} {us ws : List Value} {vs zs : List V} (F : FnOk X.prog X.w X.K X.mg X.base CX k f fd ps sp) (hr : Room k A) (hA : A.frames = X.A.frames) (hb : KBn X.K fd ps n ks g gV) (hx : PassesAt CX X σ (E σ))
    (I : Inv X pins σ H s) (r : Vals vs us) (rz : Vals zs ws) (l1 : vs.length = n) (l2 : zs.length = ks.length) (h : sp (gV vs zs) H Q (E σ)) : wpAny (model X.prog X.w) A (call (.ref f) us (ks.zip ws)) (EP X pins σ Q) X.xe s := by
  have r2 := hb.rel r rz
  have e0 : Env0 X.prog X.w X.K X.mg X.base A X.stack s H := by
    have e := I.env0
    exact ⟨by rw [hA]; exact e.frames, e.mod, e.bs, e.bsz, e.funs, e.frf, e.hok, e.bare⟩
  refine wpAny_call (codeAny_mono (F.run A X.stack s H ⟨us, ks.zip ws⟩ (g us ws) (gV vs zs) Q (E σ) hr e0 (hb.to s us ws I.kIn (r.length.symm.trans l1) (rz.length.symm.trans l2)) r2 h) fun r s' hq => ?_)
  cases r with
  | error e => exact hx pins H s e s' I hq
  | ok fl =>
    cases fl with
    | ret u => exact I.after hq
    | next => exact False.elim hq
    | brk => exact False.elim hq
    | cont => exact False.elim hq
theorem pe_mth {pl : Sem Bool} (ho : PE X o ta) (c : Cls X.K C) (hm : Meth X.K C m f) (F : FnOk X.prog X.w X.K X.mg X.base CX k f fd ps sp) (hr : Room k X.A) (hb : KBn X.K fd ps (n + 1) ks g gV) (hx : ∀ σ, PassesAt CX X σ (E σ))
    (ha : PA X es t) (hkw : PK X kws tk) (hall : (backToKw pos (keywordEach kws X.env)).all (·.1.isSome) = true := by rfl) (hks : (backToKw pos (keywordEach kws X.env)).filterMap (·.1) = ks := by rfl)
    (hpl : ((backTo pos (starEach es X.env)).any (·.1) || (backToKw pos (keywordEach kws X.env)).any (·.1.isNone)) = false := by rfl)
    (he : (es = [] ∧ n = 0) ∨ ∃ e r, es = e :: r ∧ starEach (e :: r) X.env = (false, eval e X.env) :: starEach r X.env := by first | exact .inl ⟨rfl, rfl⟩ | exact .inr ⟨_, _, rfl, rfl⟩)
    (ht : eval (.Call (.Attribute o m apos) es kws pos) X.env = (do
      let ov ← eval o X.env
      standAt apos.atName
      let (f, first) ← holding [ov] (getMethod ov m pl)
      callWith pos f first (backTo pos (starEach es X.env)) (backToKw pos (keywordEach kws X.env))) := by rfl) :
    PE X (.Call (.Attribute o m apos) es kws pos) (tMth C m n ks.length sp gV E ta t tk) := by
  refine ⟨fun pins s σ H Q I h => ?_⟩
  refine PySem.W.methodCall_KW (pl := pl) (thn (ho.run pins s σ H _ I h) fun u s1 ⟨x, H1, I1, rx, a, dx, fs, ex, ea, l, q⟩ => ?_) ht
  subst ex
  obtain rfl : u = Value.ref a := rx
  refine getmeth_ok I1 ea c hm l ?_
  rcases he with ⟨rfl, hn0⟩ | ⟨e, r0, rfl, he⟩
  · refine PySem.W.callWith_KW0 (first := [.ref a]) (h₀ := X.base) I.ok.mod.kin hm.kp hall ?_ hpl
    show wpAny (model X.prog X.w) X.A ((spliced (backTo pos (starEach [] X.env))) >>= fun _ => evalAll ((backToKw pos (keywordEach kws X.env)).map (·.2))) _ _ _
    refine wpAny_bind (thn (ha.run pos pins s1 σ H1 _ I1 q) fun us s2 ⟨vs, H2, I2, r, q2⟩ => ?_)
    refine thn (hkw.run pos pins s2 σ H2 _ I2 q2) fun ws s3 ⟨zs, H3, I3, rz, l1, l2, q3⟩ => ⟨I3.kIn, ?_⟩
    rw [hks]
    have lv : vs.length = 0 := l1.trans hn0
    cases vs with
    | cons _ _ => cases lv
    | nil =>
      cases r
      exact run_fnK (us := [.ref a]) (vs := [.ref a]) F hr rfl hb (hx σ) I3 (.cons rfl .nil) rz (by rw [hn0]; rfl) l2 q3
  · refine PySem.W.callWith_KW (first := [.ref a]) (h₀ := X.base) I.ok.mod.kin hm.kp hall (thn (ha.run pos pins s1 σ H1 _ I1 q) fun us s2 ⟨vs, H2, I2, r, q2⟩ => ?_) hpl he
    refine thn (hkw.run pos pins s2 σ H2 _ I2 q2) fun ws s3 ⟨zs, H3, I3, rz, l1, l2, q3⟩ => ⟨I3.kIn, ?_⟩
    rw [hks]
    exact run_fnK (us := .ref a :: us) (vs := .ref a :: vs) F hr rfl hb (hx σ) I3 (.cons rfl r) rz (by rw [List.length_cons, l1]) l2 q3
end
/-- the module's class c: its method m as G (the instance first) -/
structure Mtd (P : Program) (w : World) (K : PySem.W.Frag) (mg : Str → Option Value) (base : Heap) (c m : Str) (k : Nat) (G : Fn) (n : Nat) (ks : List Str) (ix : List Nat) (dds : List D) : Prop where
  ex : ∃ (C f : Addr) (fd : FuncData) (ps : List Str) (dvs : List V) (g : List Value → List Value → List Value), mg c = some (.ref C) ∧ Cls K C ∧ Meth K C m f ∧ FnOk P w K mg base (L2.CX P w) k f fd ps (spD K mg G) ∧
    KBn K fd ps (n + 1) ks g (fun vs zs => vs.take 1 ++ pick ix (vs.drop 1 ++ (zs ++ dvs))) ∧ ∀ r : RC, Reps r dvs dds
/-- what the instance d has at its call of m: the class c, no field of the name m -/
def mthM (c m : Str) (G : Fn) (f : Mo D) (fa : Mo (List D)) : Mo D := bnd f fun d ρ μ => match insOf d μ with
  | some (c', ns, _) => if c' = c ∧ m ∉ ns then calM G (bnd fa fun ds => ret (d :: ds)) ρ μ else .no
  | none => .no
section
variable {Φ : Ctx} {X : Cx} {c m : Str} {G : Fn} {o : Expr} {es : List Expr} {kws : List Keyword} {f : Mo D} {fa fk : Mo (List D)} {pos apos p : Pos}
theorem look_none {m : Str} : ∀ {fs : List (Str × V)}, m ∉ fs.map (·.1) → fs.lookup m = none
  | [], _ => rfl
  | (n, v) :: fs, h => by
    rw [List.map_cons, List.mem_cons, not_or] at h
    rw [List.lookup_cons]
    have e : (m == n) = false := by simpa using h.1
    rw [e]
    exact look_none h.2
theorem de_mtd {pl : Sem Bool} {k j n : Nat} {ks : List Str} {ix : List Nat} {dds : List D} (M : Mtd X.prog X.w X.K X.mg X.base c m k G n ks ix dds) (cc : Cc Φ X j) (ho : DE Φ X o f) (ha : DA Φ X es fa) (hw : DK Φ X kws fk) (hj : k ≤ j := by decide)
    (hall : (backToKw pos (keywordEach kws X.env)).all (·.1.isSome) = true := by rfl) (hks : (backToKw pos (keywordEach kws X.env)).filterMap (·.1) = ks := by rfl)
    (hpl : ((backTo pos (starEach es X.env)).any (·.1) || (backToKw pos (keywordEach kws X.env)).any (·.1.isNone)) = false := by rfl)
    (he : (es = [] ∧ n = 0) ∨ ∃ e r, es = e :: r ∧ starEach (e :: r) X.env = (false, eval e X.env) :: starEach r X.env := by first | exact .inl ⟨rfl, rfl⟩ | exact .inr ⟨_, _, rfl, rfl⟩)
    (ht : eval (.Call (.Attribute o m apos) es kws pos) X.env = (do
      let ov ← eval o X.env
      standAt apos.atName
      let (f, first) ← holding [ov] (getMethod ov m pl)
      callWith pos f first (backTo pos (starEach es X.env)) (backToKw pos (keywordEach kws X.env))) := by rfl) :
    DE Φ X (.Call (.Attribute o m apos) es kws pos) (mthM c m G f (kwD n ks.length ix dds fa fk)) := by
  obtain ⟨C, f', fd, ps, dvs, g, hm, cl, mt, F, hb, hd⟩ := M.ex
  refine PE.imp (pe_mth ho cl mt F (cc.rm.mono hj) hb (fun σ => passAt cc.tk σ) ha hw hall hks hpl he ht) fun σ H Q ⟨ρ, μ, C0, os, R, z⟩ => ⟨ρ, μ, C0, os, R, PostE.bnd z fun d ρ1 μ1 v H1 C1 os1 R1 S1 q1 z1 => ?_⟩
  cases e0 : insOf d μ1 with
  | none => simp only [e0] at z1; exact z1.elim
  | some r =>
    obtain ⟨c', ns, vs⟩ := r
    simp only [e0] at z1
    split at z1
    · rename_i hc
      obtain ⟨hc, hn⟩ := hc
      subst hc
      obtain ⟨a, rfl, b⟩ := ins_at R1 q1 e0
      obtain ⟨Cc, dx, fs, h1, h2, h3, h4⟩ := b
      cases hm.symm.trans h2
      refine ⟨a, dx, fs, rfl, h1, look_none (by rw [h3]; exact hn), ρ1, μ1, C1, os1, R1, ?_⟩
      unfold calM kwD bnd at z1
      cases e1 : fa ρ1 μ1 with
      | no => simp only [e1] at z1; exact z1
      | ex c ns ds ρ2 μ2 => simp only [e1] at z1; exact z1
      | ok ds ρ2 μ2 =>
        simp only [e1] at z1
        intro ws H2 C2 os2 R2 S2 q2
        refine ⟨ρ2, μ2, C2, os2, R2, ?_⟩
        have z1 := PostE.from S2 z1
        cases e2 : fk ρ2 μ2 with
        | no => simp only [e2] at z1; exact z1
        | ex c ns ds ρ3 μ3 => simp only [e2] at z1; exact z1
        | ok es' ρ3 μ3 =>
          simp only [e2] at z1
          intro zs H3 C3 os3 R3 S3 q3
          have z1 := PostE.from S3 z1
          by_cases hl : ds.length = n ∧ es'.length = ks.length
          · rw [if_pos hl] at z1
            have q4 := pick_reps ((q2.step S3).append (q3.append (hd _))) ix
            refine ⟨by rw [q2.length]; exact hl.1, by rw [q3.length]; exact hl.2, ?_⟩
            exact call_at (G := G) (ds := d :: pick ix (ds ++ (es' ++ dds))) R3 (.cons ((q1.step S2).step S3) q4) z1
          · rw [if_neg hl] at z1
            exact z1.elim
    · exact z1.elim

/-! ### an own special method behind a built-in -/
/-- the module's class c: its special method m, of the instance alone, as G -/
structure Spc (P : Program) (w : World) (K : PySem.W.Frag) (mg : Str → Option Value) (base : Heap) (c m : Str) (k : Nat) (G : Fn) : Prop where
  ex : ∃ (C f : Addr) (fd : FuncData) (ps : List Str), mg c = some (.ref C) ∧ PySem.W.findIn K (.ref C) m = some (some (.ref f)) ∧ PySem.W.isFn K (.ref f) = true ∧ FnOk P w K mg base (L2.CX P w) k f fd ps (spD K mg G) ∧ Binds K fd ps []
theorem run_spc {A : Around} {CX : CXT} {k : Nat} {f : Addr} {fd : FuncData} {ps : List Str} {sp : Sp} {E : L2.St → XK} {pins : List (Addr × Obj)} {σ : L2.St} {H : Hp} {s : Shared} {Q : VK} {us : List Value} {vs : List V} (F : FnOk X.prog X.w X.K X.mg X.base CX k f fd ps sp) (hr : Room k A) (hA : A.frames = X.A.frames)
    (hb : Binds X.K fd ps []) (hx : PassesAt CX X σ (E σ)) (I : Inv X pins σ H s) (r : Vals vs us) (h : sp vs H Q (E σ)) : wpAny (model X.prog X.w) A (call (.ref f) us) (EP X pins σ Q) X.xe s := by
  have e0 : Env0 X.prog X.w X.K X.mg X.base A X.stack s H := by
    have e := I.env0
    exact ⟨by rw [hA]; exact e.frames, e.mod, e.bs, e.bsz, e.funs, e.frf, e.hok, e.bare⟩
  have hl : us.length = ps.length := by rw [← r.length]; exact F.len _ _ _ _ h
  have b := hb s us I.kIn (by rw [List.append_nil]; exact hl)
  rw [List.append_nil] at b
  refine wpAny_call (codeAny_mono (F.run A X.stack s H ⟨us, []⟩ us vs Q (E σ) hr e0 b r h) fun r s' hq => ?_)
  cases r with
  | error e => exact hx pins H s e s' I hq
  | ok fl =>
    cases fl with
    | ret u => exact I.after hq
    | next => exact False.elim hq
    | brk => exact False.elim hq
    | cont => exact False.elim hq
/-- what an own __repr__, __str__ must answer -/
def strR (r : R) (ρ : Env) : O D := match r with
  | .ok (.str s) μ => .ok (.str s) ρ μ
  | .ex c ns vs μ => .ex c ns vs ρ μ
  | _ => .no
theorem spc_str {G : Fn} {ρ : Env} {μ : Sto} {C : List Addr} {os : Os} {σ : L2.St} {H : Hp} {v : V} {d : D} {Q : VK} (R : Rl Φ X ρ μ C os σ H) (q : Rep (rc Φ X C os H) v d) (z : PostE Φ X C os σ H (strR (G [d] μ) ρ) Q) :
    spD X.K X.mg G [v] H (fun v H' => (∃ s, v = .str s) ∧ Q v H') (WE Φ.W σ) := by
  have i := CIn.of R (.one q)
  refine ⟨[d], μ, AA Φ C os, C, i, ?_⟩
  cases e : G [d] μ with
  | no => rw [e] at z; exact z
  | ow d μ' => rw [e] at z; exact z.elim
  | ex c ns es μ' =>
    rw [e] at z
    intro Cc dx H' C' o hm he
    obtain ⟨R', S', S2⟩ := R.called (i := 0) o
    exact z Cc dx H' C' _ R' S' hm (he.stq S2)
  | ok d μ' =>
    rw [e] at z
    cases d with
    | str s =>
      intro v H' C' o q'
      obtain ⟨R', S', S2⟩ := R.called (i := 0) o
      cases q'
      exact ⟨⟨s, rfl⟩, z _ H' C' _ R' S' (.str s)⟩
    | _ => exact z.elim
theorem insOf_repW {ρ : Env} {μ : Sto} {C : List Addr} {os : Os} {σ : L2.St} {H : Hp} {v : V} {d : D} {c : Str} {ns : List Str} {vs : List D} (R : Rl Φ X ρ μ C os σ H) (q : RepW (rc Φ X C os H) v d) (e : insOf d μ = some (c, ns, vs)) : Rep (rc Φ X C os H) v d := by
  rcases q with q | ⟨a, _, q⟩
  · exact q
  · cases d <;> first | exact q.elim | cases e
/-- a call whose promise knows the caller's slots -/
def CallS (X : Cx) (f : Value) (r : L2.St → List V → Hp → VK → Prop) : Prop :=
  ∀ (pins : List (Addr × Obj)) (s : Shared) (σ : L2.St) (H : Hp) (xs : List V) (us : List Value) (Q : VK), Inv X pins σ H s → Vals xs us → r σ xs H Q → wpAny (model X.prog X.w) X.A (call f us) (EP X pins σ Q) X.xe s
def tCS (r : L2.St → List V → Hp → VK → Prop) (t : TA) : TE := fun σ H Q => t σ H fun xs H1 => r σ xs H1 Q
theorem pe_callBS {es : List Expr} {e : Expr} {x : Str} {id : String} {t : TA} {r : L2.St → List V → Hp → VK → Prop} (hc : CallS X (.builtin id) r) (hg : Gl X x) (hm : X.mg x = none) (hv : bootBuiltins x = some (.builtin id)) (ha : PA X (e :: es) t) (hn : x ≠ "__name__" := by decide) (hdb : (x == ("__debug__" : Str)) = false := by decide)
    (he : starEach (e :: es) X.env = (false, eval e X.env) :: starEach es X.env := by rfl) (hpl : (backTo pos (starEach es X.env)).any (·.1) = false := by rfl) : PE X (.Call (.Name x p) (e :: es) [] pos) (tCS r t) := by
  refine ⟨fun pins s σ H Q I h => ?_⟩
  refine wpAny_Call_Name_kw (ld_blt I hg hm hv ?_ hn hdb)
  exact PyProof.Rows.callWith_builtin1 (thn (ha.run pos pins s σ H _ I h) fun us s1 ⟨vs, H1, I1, r1, q1⟩ => hc pins s1 σ H1 vs us Q I1 r1 q1) he hpl
/-- classes with an own special method m of the instance alone -/
abbrev ST := List (Str × Fn)
def SpcT (P : Program) (w : World) (K : PySem.W.Frag) (mg : Str → Option Value) (base : Heap) (m : Str) (k : Nat) (T : ST) : Prop := ∀ c G, T.lookup c = some G → Spc P w K mg base c m k G
theorem spcT_nil {P : Program} {w : World} {K : PySem.W.Frag} {mg : Str → Option Value} {base : Heap} {m : Str} {k : Nat} : SpcT P w K mg base m k [] := fun _ _ e => by cases e
theorem spcT_cons {P : Program} {w : World} {K : PySem.W.Frag} {mg : Str → Option Value} {base : Heap} {m c : Str} {k : Nat} {G : Fn} {T : ST} (h : Spc P w K mg base c m k G) (t : SpcT P w K mg base m k T) : SpcT P w K mg base m k ((c, G) :: T) := fun c' G' e => by
  rw [List.lookup_cons] at e
  split at e
  · rename_i q
    cases e
    have : c' = c := by simpa using q
    exact this ▸ h
  · exact t c' G' e
/-- an own special method's promise, its answer seen through A -/
def rOwn (X : Cx) (W : WX) (T : ST) (A : V → Prop) : L2.St → List V → Hp → VK → Prop := fun σ xs H Q => ∃ (c : Str) (G : Fn) (C a dx : Addr) (fs : List (Str × V)), T.lookup c = some G ∧ X.mg c = some (.ref C) ∧ xs = [.ref a] ∧ H a = some (.ins C dx fs) ∧
  spD X.K X.mg G [.ref a] H (fun v H' => A v ∧ Q v H') (WE W σ)
theorem own_repr {k j : Nat} {T : ST} (S : SpcT X.prog X.w X.K X.mg X.base "__repr__" k T) (cc : Cc Φ X j) (hj : k + 1 ≤ j) : CallS X (.builtin "repr") (rOwn X Φ.W T fun v => ∃ s, v = .str s) := by
  rintro pins s σ H xs us Q I r ⟨c, G, C, a, dx, fs, e, hm, rfl, ha, hsp⟩
  obtain ⟨C', f', fd, ps, hmc, hs, hf, F, hb⟩ := (S c G e).ex
  cases hm.symm.trans hmc
  have hr := cc.rm.mono hj
  obtain ⟨u, rfl, rx⟩ := vals1 r
  obtain rfl : u = Value.ref a := rx
  obtain ⟨mA, J, _⟩ := ins_get I.hok ha
  obtain ⟨od, J, _⟩ := J.look
  obtain ⟨m, hF⟩ := I.fr
  refine PySem.W.repr_K hr.in1.units0 hF I.ok.mod.kin J hs hf ?_
  refine wpAny_mono (run_spc (A := X.A.in1) (vs := [V.ref a]) (us := [Value.ref a]) F hr.in1 rfl hb (E := WE Φ.W) (passAt cc.tk σ) I (.cons rfl .nil) hsp) (fun v s' q => ?_) fun _ _ y => y
  obtain ⟨y, H', I', ry, ⟨sy, rfl⟩, q2⟩ := q
  obtain ⟨tk, rfl⟩ := ry
  exact ⟨.str sy, H', I', ⟨_, rfl⟩, q2⟩
theorem own_len {k j : Nat} {T : ST} (S : SpcT X.prog X.w X.K X.mg X.base "__len__" k T) (cc : Cc Φ X j) (hj : k + 1 ≤ j) : CallS X (.builtin "len") (rOwn X Φ.W T fun v => ∃ i : Int, v = .int i ∧ 0 ≤ i ∧ i < 2 ^ 63) := by
  rintro pins s σ H xs us Q I r ⟨c, G, C, a, dx, fs, e, hm, rfl, ha, hsp⟩
  obtain ⟨C', f', fd, ps, hmc, hs, hf, F, hb⟩ := (S c G e).ex
  cases hm.symm.trans hmc
  have hr := cc.rm.mono hj
  obtain ⟨u, rfl, rx⟩ := vals1 r
  obtain rfl : u = Value.ref a := rx
  obtain ⟨mA, J, _⟩ := ins_get I.hok ha
  obtain ⟨od, J, _⟩ := J.look
  obtain ⟨m, hF⟩ := I.fr
  refine PySem.W.len_K hF I.ok.mod.kin J hs hf ?_
  refine wpAny_mono (run_spc (A := X.A.in1) (vs := [V.ref a]) (us := [Value.ref a]) F hr.in1 rfl hb (E := WE Φ.W) (passAt cc.tk σ) I (.cons rfl .nil) hsp) (fun v s' q => ?_) fun _ _ y => y
  obtain ⟨y, H', I', ry, ⟨i, rfl, h0, h1⟩, q2⟩ := q
  obtain ⟨tk, rfl⟩ := ry
  exact ⟨⟨h0, h1⟩, .int i, H', I'.tok _, ⟨_, rfl⟩, q2⟩
/-- what an own __len__ must answer -/
def lenR (r : R) (ρ : Env) : O D := match r with
  | .ok (.int i) μ => if 0 ≤ i ∧ i < 9223372036854775808 then .ok (.int i) ρ μ else .no
  | .ex c ns vs μ => .ex c ns vs ρ μ
  | _ => .no
theorem spc_len {G : Fn} {ρ : Env} {μ : Sto} {C : List Addr} {os : Os} {σ : L2.St} {H : Hp} {v : V} {d : D} {Q : VK} (R : Rl Φ X ρ μ C os σ H) (q : Rep (rc Φ X C os H) v d) (z : PostE Φ X C os σ H (lenR (G [d] μ) ρ) Q) :
    spD X.K X.mg G [v] H (fun v H' => (∃ i : Int, v = .int i ∧ 0 ≤ i ∧ i < 2 ^ 63) ∧ Q v H') (WE Φ.W σ) := by
  have i := CIn.of R (.one q)
  refine ⟨[d], μ, AA Φ C os, C, i, ?_⟩
  cases e : G [d] μ with
  | no => rw [e] at z; exact z
  | ow d μ' => rw [e] at z; exact z.elim
  | ex c ns es μ' =>
    rw [e] at z
    intro Cc dx H' C' o hm he
    obtain ⟨R', S', S2⟩ := R.called (i := 0) o
    exact z Cc dx H' C' _ R' S' hm (he.stq S2)
  | ok d μ' =>
    rw [e] at z
    cases d with
    | int n =>
      simp only [lenR] at z
      split at z
      · rename_i hn
        intro v H' C' o q'
        obtain ⟨R', S', S2⟩ := R.called (i := 0) o
        cases q'
        exact ⟨⟨n, rfl, hn.1, by have := hn.2; omega⟩, z _ H' C' _ R' S' (.int n)⟩
      · exact z.elim
    | _ => exact z.elim
/-- a built-in of one value: of an instance by its own method, of data by h -/
def ownM (T : ST) (out : R → Env → O D) (h : D → Option D) (f : Mo D) : Mo D := bnd f fun d ρ μ => match insOf d μ with
  | some (c, _, _) => (match T.lookup c with
    | some G => out (G [d] μ) ρ
    | none => .no)
  | none => lift (h d) ρ μ
theorem CallS.or {f : Value} {r : L2.St → List V → Hp → VK → Prop} {r' : List V → Hp → VK → Prop} (h : CallS X f r) (h' : CallR X f r') : CallS X f (fun σ xs H Q => r σ xs H Q ∨ r' xs H Q) := fun pins s σ H xs us Q I rv z => by
  rcases z with z | z
  · exact h pins s σ H xs us Q I rv z
  · exact h' pins s σ H xs us Q I rv z
theorem run_own {T : ST} {out : R → Env → O D} {A : V → Prop} {r : List V → Hp → VK → Prop} {h : D → Option D} (hD : Cal1 X r h)
    (hO : ∀ {G : Fn} {ρ : Env} {μ : Sto} {C : List Addr} {os : Os} {σ : L2.St} {H : Hp} {v : V} {d : D} {Q : VK}, Rl Φ X ρ μ C os σ H → Rep (rc Φ X C os H) v d → PostE Φ X C os σ H (out (G [d] μ) ρ) Q → spD X.K X.mg G [v] H (fun v H' => A v ∧ Q v H') (WE Φ.W σ))
    {σ : L2.St} {H : Hp} {Q : VK} (z : cE Φ X (ownM T out h f) σ H Q) : tCS (fun σ xs H Q => rOwn X Φ.W T A σ xs H Q ∨ r xs H Q) (tCons (cB Φ X f) tNil) σ H Q := by
  obtain ⟨ρ, μ, C, os, R, z⟩ := z
  refine ⟨ρ, μ, C, os, R, cB_bnd z fun d ρ1 μ1 v H1 C1 os1 R1 S1 q1 z1 => ?_⟩
  show _ ∨ _
  cases e0 : insOf d μ1 with
  | none =>
    simp only [e0] at z1
    obtain ⟨d', e, k⟩ := lift_ok R1 z1
    exact .inr (hD (rc Φ X C1 os1 H1) v d d' Q rfl rfl R1.fr q1 e k)
  | some r =>
    obtain ⟨c, ns, vs⟩ := r
    simp only [e0] at z1
    cases e1 : T.lookup c with
    | none => simp only [e1] at z1; exact z1.elim
    | some G =>
      simp only [e1] at z1
      have q := insOf_repW R1 q1 e0
      obtain ⟨a, rfl, b⟩ := ins_at R1 q e0
      obtain ⟨Cc, dx, fs, h1, h2, h3, h4⟩ := b
      exact .inl ⟨c, G, Cc, a, dx, fs, e1, h2, rfl, h1, hO R1 q z1⟩
theorem de_own {T : ST} {out : R → Env → O D} {A : V → Prop} {r : List V → Hp → VK → Prop} {h : D → Option D} {e : Expr} {x : Str} {id : String} (hS : CallS X (.builtin id) (rOwn X Φ.W T A)) (hc : CallR X (.builtin id) r) (hD : Cal1 X r h)
    (hO : ∀ {G : Fn} {ρ : Env} {μ : Sto} {C : List Addr} {os : Os} {σ : L2.St} {H : Hp} {v : V} {d : D} {Q : VK}, Rl Φ X ρ μ C os σ H → Rep (rc Φ X C os H) v d → PostE Φ X C os σ H (out (G [d] μ) ρ) Q → spD X.K X.mg G [v] H (fun v H' => A v ∧ Q v H') (WE Φ.W σ))
    (hm : X.mg x = none) (hv : bootBuiltins x = some (.builtin id)) (ha : DB Φ X e f) (hg : Gl X x) (hx : x ≠ "__name__") (hdb : (x == ("__debug__" : Str)) = false)
    (he : starEach (e :: []) X.env = (false, eval e X.env) :: starEach [] X.env) (hpl : (backTo pos (starEach [] X.env)).any (·.1) = false) : DE Φ X (.Call (.Name x p) [e] [] pos) (ownM T out h f) :=
  PE.imp (pe_callBS (hS.or hc) hg hm hv (pa_cons ha pa_nil he) hx hdb he hpl) fun σ H Q z => run_own hD hO z
theorem de_lenO {k j : Nat} {T : ST} {e : Expr} (S : SpcT X.prog X.w X.K X.mg X.base "__len__" k T) (cc : Cc Φ X j) (hm : X.mg "len" = none) (ha : DB Φ X e f) (hj : k + 1 ≤ j := by decide) (hg : Gl X "len" := by rfl) (he : starEach (e :: []) X.env = (false, eval e X.env) :: starEach [] X.env := by rfl)
    (hpl : (backTo pos (starEach [] X.env)).any (·.1) = false := by rfl) : DE Φ X (.Call (.Name "len" p) [e] [] pos) (ownM T lenR lenD f) :=
  de_own (own_len S cc hj) (call_len.or call_lenD) cd_len (fun R q z => spc_len R q z) hm PySem.boot_len ha hg (by decide) (by decide) he hpl
end
end L2.DL

/-! DL32: repr of data whose text is short enough; of own instances. -/
namespace L2.DL
open PySem PySem.Spec PyProof.Rows
def reprW (d : D) : Option D := match toR d with
  | some p => if p.showable && decide (p.shown.length ≤ lineN) && decide (p.depth ≤ 60) then some (.str p.shown) else none
  | none => none
section
variable {X : Cx}
def rReprW (X : Cx) : List V → Hp → VK → Prop := fun xs H Q => ∃ (r : RC) (x : V) (d : D) (p : PyData), xs = [x] ∧ r.K = X.K ∧ r.H = H ∧ RepW r x d ∧ toR d = some p ∧ p.showable = true ∧ p.shown.length ≤ sizeLine ∧ p.depth ≤ 60 ∧ Q (.str p.shown) H
theorem call_reprW (hg : X.A.guards = some []) (hu : hasUnits X) : CallR X (.builtin "repr") (rReprW X) := by
  intro pins s σ H xs us Q I r h
  obtain ⟨q, x, d, p, rfl, h1, h2, h3, h4, h5, hz, h8, k⟩ := h
  obtain ⟨u, rfl, rv⟩ := vals1 r
  obtain ⟨as, hr, hm⟩ := rep_reads I h1 h2 h3 rv h4
  have hu : X.A.units + 64 < cLine := hu
  cases hr with
  | none => exact PySem.P.repr_of_none ⟨.str _, H, I.tok _, ⟨_, rfl⟩, k⟩
  | bool b => exact PySem.P.repr_of_bool ⟨.str _, H, I.tok _, ⟨_, rfl⟩, k⟩
  | int i t => exact PySem.P.repr_of_int (by simpa [PyData.showable] using h5) ⟨.str _, H, I.tok _, ⟨_, rfl⟩, k⟩
  | str x t => exact PySem.P.repr_of_str ⟨.str _, H, I.tok _, ⟨_, rfl⟩, k⟩ (by simpa only [PyData.shown] using hz)
  | list a1 a2 a3 a4 => exact repr_of_reads' (.list a1 a2 a3 a4) h5 hm hg (by omega) (fun _ _ e => e) (fun h' u tk hk => ⟨.str _, H, I.kept (t' := tk) hk, ⟨_, rfl⟩, k⟩) hz
  | tuple a1 a2 a3 a4 => exact repr_of_reads' (.tuple a1 a2 a3 a4) h5 hm hg (by omega) (fun _ _ e => e) (fun h' u tk hk => ⟨.str _, H, I.kept (t' := tk) hk, ⟨_, rfl⟩, k⟩) hz
  | dict a1 a2 a3 a4 a5 => exact repr_of_reads' (.dict a1 a2 a3 a4 a5) h5 hm hg (by omega) (fun _ _ e => e) (fun h' u tk hk => ⟨.str _, H, I.kept (t' := tk) hk, ⟨_, rfl⟩, k⟩) hz
theorem cd_reprW : Cal1 X (rReprW X) reprW := by
  intro q x d1 d Q hK _ _ h1 e k
  unfold reprW at e
  cases e2 : toR d1 with
  | none => simp only [e2] at e; cases e
  | some p =>
    simp only [e2] at e
    split at e
    · rename_i hc
      simp only [Bool.and_eq_true, decide_eq_true_eq] at hc
      cases e
      exact ⟨q, x, d1, p, rfl, hK, rfl, h1, e2, hc.1.1, by rw [line_eq]; exact hc.1.2, hc.2, k _ _ (Grow.refl _) (.str _)⟩
    · cases e
theorem reprW_fits {d : D} {p : PyData} (h : toR d = some p) (h1 : p.showable = true) (h2 : p.leavesShort 64 = true) (h3 : p.weight ≤ 200000) (h4 : p.depth ≤ 60) : reprW d = some (.str p.shown) := by
  have z := PyData.shown_le 64 (by decide) p h2
  have z2 : p.shown.length ≤ lineN := by
    refine Nat.le_trans z ?_
    show _ ≤ 16777216
    omega
  unfold reprW
  rw [h]
  simp only [h1, decide_eq_true z2, decide_eq_true h4, Bool.and_self, if_true]
variable {Φ : Ctx} {f : Mo D} {p pos : Pos}
theorem de_reprO {k j : Nat} {T : ST} {e : Expr} (S : SpcT X.prog X.w X.K X.mg X.base "__repr__" k T) (hgd : X.A.guards = some []) (cc : Cc Φ X j) (hm : X.mg "repr" = none) (ha : DB Φ X e f) (hj : k + 1 ≤ j := by decide) (hg : Gl X "repr" := by rfl) (he : starEach (e :: []) X.env = (false, eval e X.env) :: starEach [] X.env := by rfl)
    (hpl : (backTo pos (starEach [] X.env)).any (·.1) = false := by rfl) : DE Φ X (.Call (.Name "repr" p) [e] [] pos) (ownM T strR reprW f) :=
  de_own (own_repr S cc hj) (call_reprW hgd cc.rm.units) cd_reprW (fun R q z => spc_str R q z) hm (by decide +kernel) ha hg (by decide) (by decide) he hpl
end
end L2.DL

/-! DL33: isinstance of built-in and own classes. -/
namespace L2.DL
open PySem PySem.Spec PyProof.Rows
inductive Ty where
  | b (s : String) | o (c : Str)
deriving DecidableEq
def TyV (mg : Str → Option Value) : Ty → Value → Prop
  | .b s, u => s ∈ tysD ∧ u = .type s
  | .o c, u => ∃ C, mg c = some (.ref C) ∧ u = .ref C
/-- the kinship that the text's classes have -/
abbrev KT := List ((Ty × Ty) × Bool)
def KtOk (K : PySem.W.Frag) (mg : Str → Option Value) (T : KT) : Prop := ∀ t s b, T.lookup (t, s) = some b → ∀ u v, TyV mg t u → TyV mg s v → PySem.W.kitOne K u v = some b
/-- what isinstance asks of an own class of which instances are shown to it -/
def OcOk (K : PySem.W.Frag) (mg : Str → Option Value) (cs : List Str) : Prop := ∀ c ∈ cs, ∀ C, mg c = some (.ref C) → Cls K C ∧ PySem.W.findIn K (.ref C) "__class__" = some (some (.builtin "object.__class__")) ∧
  PySem.W.specialIn K (.builtin "object.__class__") "__get__" = some (some (.builtin "getset_descriptor.__get__")) ∧ PySem.W.takesIn K (.builtin "object.__class__") = some true ∧ PySem.W.mroIn K C (.type "object") = some true
def tyI (cs : List Str) (d : D) (μ : Sto) : Option Ty := match d with
  | .cell n => (match μ[n]? with
    | some (.lst _) => some (.b "list")
    | some (.dct _ _) => some (.b "dict")
    | some (.ins c _ _) => if c ∈ cs then some (.o c) else none
    | some (.err _ _ _) => none
    | none => none)
  | .ins c _ _ => if c ∈ cs then some (.o c) else none
  | d => (tyN d).map .b
def isK (T : KT) : Ty → Ty → Option Bool
  | .b s, .b t => some (isT s t)
  | t, s => T.lookup (t, s)
def isAny (T : KT) (t : Ty) : List Ty → Option Bool
  | [] => some false
  | s :: ss => match isK T t s with
    | some true => some true
    | some false => isAny T t ss
    | none => none
def isiM (T : KT) (cs : List Str) (Ts : List Ty) (f : Mo D) : Mo D := bnd f fun d ρ μ => match tyI cs d μ with
  | some t => lift ((isAny T t Ts).map D.bl) ρ μ
  | none => .no
/-- an expression that names a class -/
structure TyE (X : Cx) (e : Expr) (t : Ty) : Prop where
  ex : ∃ v u, PE X e (tC v) ∧ ClsV v u ∧ TyV X.mg t u
section
variable {Φ : Ctx} {X : Cx} {e e2 e3 : Expr} {f : Mo D} {p p2 p4 pos : Pos} {x : Str}
theorem tye_b {s : String} (hm : X.mg x = none) (hv : bootBuiltins x = some (.type s) := by decide +kernel) (hs : s ∈ tysD := by decide) (hg : Gl X x := by rfl) (hn : x ≠ "__name__" := by decide) (hd : (x == ("__debug__" : Str)) = false := by decide) : TyE X (.Name x p) (.b s) :=
  ⟨.ty s, .type s, pe_bltn (v := .ty s) hg hm hv rfl hn hd, .ty s, hs, rfl⟩
theorem tye_o (hm : ∃ C, X.mg x = some (.ref C)) (hg : Gl X x := by rfl) (hd : (x == ("__debug__" : Str)) = false := by decide) : TyE X (.Name x p) (.o x) := by
  obtain ⟨C, hm⟩ := hm
  exact ⟨.ref C, .ref C, pe_glob (v := .ref C) hg hm rfl hd, .own C, C, hm, rfl⟩
theorem ty_at {cs : List Str} {ρ : Env} {μ : Sto} {C : List Addr} {os : Os} {σ : L2.St} {H : Hp} {v : V} {d : D} {t : Ty} (hO : OcOk X.K X.mg cs) (R : Rl Φ X ρ μ C os σ H) (q : Rep (rc Φ X C os H) v d) (e : tyI cs d μ = some t) : ∃ u, TyX X.K H v u ∧ TyV X.mg t u := by
  have ins : ∀ {a : Addr} {c : Str} {ns : List Str} {ds : List D}, v = .ref a → BdR (rc Φ X C os H) a c ns ds → (if c ∈ cs then some (Ty.o c) else none) = some t → ∃ u, TyX X.K H v u ∧ TyV X.mg t u := by
    rintro a c ns ds rfl ⟨Cc, dx, fs, h1, h2, h3, h4⟩ e
    split at e
    · rename_i hc
      cases e
      obtain ⟨z1, z2, z3, z4, z5⟩ := hO c hc Cc h2
      exact ⟨.ref Cc, .base (.ins h1 z1 z2 z3 z4 z5), Cc, h2, rfl⟩
    · cases e
  have dat : (tyN d).map Ty.b = some t → ∃ u, TyX X.K H v u ∧ TyV X.mg t u := fun e => by
    obtain ⟨s, e1, rfl⟩ := Option.map_eq_some_iff.mp e
    exact ⟨.type s, RepW.ty (q := rc Φ X C os H) (.inl q) e1, tyN_mem e1, rfl⟩
  cases d with
  | cell n =>
    cases q with
    | cell h =>
      have e : (match μ[n]? with
        | some (.lst _) => some (Ty.b "list")
        | some (.dct _ _) => some (.b "dict")
        | some (.ins c _ _) => if c ∈ cs then some (.o c) else none
        | some (.err _ _ _) => none
        | none => none) = some t := e
      split at e
      · rename_i hc
        cases e
        obtain ⟨vs, h1, h2⟩ := R.sto.2 n _ _ h hc
        exact ⟨.type "list", .base (.lst h1), by decide, rfl⟩
      · rename_i hc
        cases e
        obtain ⟨kvs, h1, h2, h3⟩ := R.sto.2 n _ _ h hc
        exact ⟨.type "dict", .base (.dK h1), by decide, rfl⟩
      · rename_i hc
        exact ins rfl (R.sto.2 n _ _ h hc) e
      · cases e
      · cases e
  | ins c ns ds =>
    cases q with
    | ins h n g e2 qs => exact ins rfl ⟨_, _, _, h, g, e2, qs⟩ e
  | non => exact dat e
  | bl b => exact dat e
  | int i => exact dat e
  | str s => exact dat e
  | tup xs => exact dat e
  | lst xs => exact dat e
  | frz xs => exact dat e
  | dct ks vs => exact dat e
theorem isK_ok {T : KT} (hT : KtOk X.K X.mg T) {t s : Ty} {b : Bool} {u v : Value} (e : isK T t s = some b) (h1 : TyV X.mg t u) (h2 : TyV X.mg s v) : PySem.W.kitOne X.K u v = some b := by
  cases t with
  | b t =>
    cases s with
    | b s =>
      obtain ⟨m1, rfl⟩ := h1
      obtain ⟨m2, rfl⟩ := h2
      cases e
      exact kit_is m1 m2
    | o c => exact hT _ _ _ e _ _ h1 h2
  | o c => cases s <;> exact hT _ _ _ e _ _ h1 h2
theorem isAny_ok {T : KT} (hT : KtOk X.K X.mg T) {t : Ty} {u : Value} (h1 : TyV X.mg t u) : ∀ {ss : List Ty} {vs : List Value} {b : Bool}, Paired (TyV X.mg) ss vs → isAny T t ss = some b → PySem.W.kitAny X.K u vs = some b := by
  intro ss vs b h
  induction h generalizing b with
  | nil => intro e; cases e; rfl
  | @cons s v ss vs h2 _ ih =>
    intro e
    unfold isAny at e
    split at e
    · rename_i q
      cases e
      exact kitAny_cons (isK_ok hT q h1 h2) (fun z => by cases z) (fun _ => rfl)
    · rename_i q
      exact kitAny_cons (isK_ok hT q h1 h2) (fun _ => ih e) (fun z => by cases z)
    · cases e
theorem isAny_one {T : KT} {t s : Ty} {b : Bool} (e : isAny T t [s] = some b) : isK T t s = some b := by
  unfold isAny at e
  split at e
  · rename_i q; cases e; exact q
  · rename_i q; cases e; exact q
  · cases e
variable {T : KT} {cs : List Str} {t1 t2 : Ty}
theorem de_isI (hT : KtOk X.K X.mg T) (hO : OcOk X.K X.mg cs) (hm : X.mg "isinstance" = none) (ha : DE Φ X e f) (h : TyE X e2 t1) (hg : Gl X "isinstance" := by rfl) (hv : bootBuiltins "isinstance" = some (.builtin "isinstance") := by decide +kernel)
    (h1 : starEach [e, e2] X.env = (false, eval e X.env) :: starEach [e2] X.env := by rfl) (h2 : starEach [e2] X.env = (false, eval e2 X.env) :: starEach [] X.env := by rfl) (hpl : (backTo pos (starEach [e2] X.env)).any (·.1) = false := by rfl) :
    DE Φ X (.Call (.Name "isinstance" p) [e, e2] [] pos) (isiM T cs [t1] f) := by
  obtain ⟨v, u, pv, cv, tv⟩ := h.ex
  refine PE.imp (pe_callB call_isi hg hm hv (pa_cons ha (pa_cons pv pa_nil h2) h1) (by decide) (by decide) h1 hpl) fun σ H Q ⟨ρ, μ, C, os, R, z⟩ => ⟨ρ, μ, C, os, R, PostE.bnd z fun d ρ1 μ1 x H1 C1 os1 R1 S1 q1 z1 => ?_⟩
  cases e0 : tyI cs d μ1 with
  | none => simp only [e0] at z1; exact z1.elim
  | some t =>
    simp only [e0] at z1
    obtain ⟨d2, e1, k⟩ := lift_ok R1 z1
    obtain ⟨b, e3, rfl⟩ := Option.map_eq_some_iff.mp e1
    obtain ⟨w, w1, w2⟩ := ty_at hO R1 q1 e0
    exact ⟨x, v, w, u, b, rfl, cv, w1, isK_ok hT (isAny_one e3) w2 tv, k _ _ (Grow.refl _) (.bl b)⟩
theorem de_isI2 {n : Nat} (hT : KtOk X.K X.mg T) (hO : OcOk X.K X.mg cs) (hm : X.mg "isinstance" = none) (ha : DE Φ X e f) (h : TyE X e2 t1) (h' : TyE X e3 t2) (hg : Gl X "isinstance" := by rfl) (hv : bootBuiltins "isinstance" = some (.builtin "isinstance") := by decide +kernel)
    (h1 : starEach [e, .Tuple [e2, e3] n p4] X.env = (false, eval e X.env) :: starEach [.Tuple [e2, e3] n p4] X.env := by rfl) (h2 : starEach [.Tuple [e2, e3] n p4] X.env = (false, eval (.Tuple [e2, e3] n p4) X.env) :: starEach [] X.env := by rfl)
    (h3 : starEach [e2, e3] X.env = (false, eval e2 X.env) :: starEach [e3] X.env := by rfl) (h4 : starEach [e3] X.env = (false, eval e3 X.env) :: starEach [] X.env := by rfl)
    (hpl : (backTo pos (starEach [.Tuple [e2, e3] n p4] X.env)).any (·.1) = false := by rfl) :
    DE Φ X (.Call (.Name "isinstance" p) [e, .Tuple [e2, e3] n p4] [] pos) (isiM T cs [t1, t2] f) := by
  obtain ⟨v, u, pv, cv, tv⟩ := h.ex
  obtain ⟨v', u', pv', cv', tv'⟩ := h'.ex
  refine PE.imp (pe_callB call_isiT hg hm hv (pa_cons ha (pa_cons (pe_tup (pa_cons pv (pa_cons pv' pa_nil h4) h3)) pa_nil h2) h1) (by decide) (by decide) h1 hpl) fun σ H Q ⟨ρ, μ, C, os, R, z⟩ => ⟨ρ, μ, C, os, R, PostE.bnd z fun d ρ1 μ1 x H1 C1 os1 R1 S1 q1 z1 => ?_⟩
  cases e0 : tyI cs d μ1 with
  | none => simp only [e0] at z1; exact z1.elim
  | some t =>
    simp only [e0] at z1
    obtain ⟨d2, e1, k⟩ := lift_ok R1 z1
    obtain ⟨b, e3, rfl⟩ := Option.map_eq_some_iff.mp e1
    refine ⟨by show 2 ≤ sizeLine; decide, fun tp n => ?_⟩
    have g := Grow.upd (o := .tup [v, v']) n
    obtain ⟨w, w1, w2⟩ := ty_at hO (R1.grow g) (q1.step (stp_grow g)) e0
    exact ⟨x, tp, [v, v'], w, [u, u'], b, rfl, upd_same, .cons cv (.cons cv' .nil), w1, isAny_ok hT w2 (.cons tv (.cons tv' .nil)) e3, k _ _ g (.bl b)⟩
end
end L2.DL

/-! DL34: what the printed texts of classes lean on: how parameters are bound, methods, tables. -/
namespace L2.DL
open PySem PySem.Spec PyProof.Rows
/-- the parameters get: the first j positional values (self), then the items at ix of the other values, the keywords' values, the defaults -/
abbrev pk (j : Nat) {α : Type} (ix : List Nat) (us ws ds : List α) : List α := us.take j ++ pick ix (us.drop j ++ (ws ++ ds))
theorem pk_vals {j : Nat} {ix : List Nat} {vs zs dv : List V} {us ws ds : List Value} (r : Vals vs us) (rz : Vals zs ws) (rd : Vals dv ds) : Vals (pk j ix vs zs dv) (pk j ix us ws ds) :=
  (r.take j).append (pick_vals ((r.drop j).append (rz.append rd)) ix)
section
variable {K : PySem.W.Frag} {fd : FuncData} {ps ks : List Str} {n j : Nat} {ix : List Nat} {x qual : Str} {params : Arguments} {body : List Stmt} {scope : Scope} {kws : List (Str × V)} {f : Addr}
theorem kbn_0 (h : ∀ us ws : List Value, us.length = n → ws.length = ks.length → bindArgs fd ⟨us, ks.zip ws⟩ = pure (ps.zip (pk j ix us ws []))) : KBn K fd ps n ks (fun us ws => pk j ix us ws []) (fun vs zs => pk j ix vs zs []) :=
  ⟨fun s us ws _ h1 h2 => .of_eq (h us ws h1 h2), fun r rz => pk_vals r rz .nil⟩
theorem kbn_kw (F : FunD K x qual params body scope [] kws f fd) (ms : List (Str × V)) (hk : kws ≠ []) (hms : ∀ q ∈ ms, q ∈ kws)
    (h : ∀ (D : Addr) (doc pm : Value) (an : Option Addr) (cdv ct : Value) (us mv ws : List Value), us.length = n → mv.length = ms.length → ws.length = ks.length →
      KwChain D ((ms.map (·.1)).zip mv) (bindArgs (PySem.W.fnOf x qual params body scope .none (.ref D) doc pm an cdv ct) ⟨us, ks.zip ws⟩) (ps.zip (pk j ix us ws mv))) :
    ∃ g, KBn K fd ps n ks g (fun vs zs => pk j ix vs zs (ms.map (·.2))) := by
  obtain ⟨mv, h⟩ := FunD.kbinds0 F n ks ms (fun us mv ws => pk j ix us ws mv) hk hms (fun r1 r2 r3 => pk_vals r1 r3 r2) h
  exact ⟨_, h⟩
/-- a default's value -/
inductive Dv : V → D → Prop
  | non : Dv .non .non
  | bl (b : Bool) : Dv (.bl b) (.bl b)
  | int (i : Int) : Dv (.int i) (.int i)
  | str (s : Str) : Dv (.str s) (.str s)
inductive Dvs : List V → List D → Prop
  | nil : Dvs [] []
  | cons {v : V} {d : D} {vs : List V} {ds : List D} (h : Dv v d) (t : Dvs vs ds) : Dvs (v :: vs) (d :: ds)
theorem Dv.rep {v : V} {d : D} (h : Dv v d) (r : RC) : Rep r v d := by
  cases h with
  | non => exact .non
  | bl b => exact .bl b
  | int i => exact .int i
  | str s => exact .str s
theorem Dvs.reps : ∀ {vs : List V} {ds : List D}, Dvs vs ds → ∀ r : RC, Reps r vs ds
  | _, _, .nil, _ => .nil
  | _, _, .cons h t, r => .cons (h.rep r) (Dvs.reps t r)
variable {P : Program} {w : World} {mg : Str → Option Value} {base : Heap} {c m : Str} {k : Nat}
theorem cln_mk {C : Addr} {G : FnI} {g : List Value → List Value → List Value} {dvs : List V} {dds : List D} (hm : mg c = some (.ref C)) (M : Mk K C f) (F : FnOk P w K mg base (L2.CX P w) k f fd ps (spN K mg c G)) (hb : KBn K fd ps (n + 1) ks g (fun vs zs => pk 1 ix vs zs dvs)) (hd : Dvs dvs dds) : Cln P w K mg base c k G n ks ix dds :=
  ⟨C, f, fd, ps, dvs, g, hm, M, F, hb, hd.reps⟩
theorem mtd_mk {C : Addr} {G : Fn} {g : List Value → List Value → List Value} {dvs : List V} {dds : List D} (hm : mg c = some (.ref C)) (cl : Cls K C) (M : Meth K C m f) (F : FnOk P w K mg base (L2.CX P w) k f fd ps (spD K mg G)) (hb : KBn K fd ps (n + 1) ks g (fun vs zs => pk 1 ix vs zs dvs)) (hd : Dvs dvs dds) : Mtd P w K mg base c m k G n ks ix dds :=
  ⟨C, f, fd, ps, dvs, g, hm, cl, M, F, hb, hd.reps⟩
theorem spc_mk {C : Addr} {G : Fn} (hm : mg c = some (.ref C)) (M : Meth K C m f) (F : FnOk P w K mg base (L2.CX P w) k f fd ps (spD K mg G)) (hb : Binds K fd ps []) : Spc P w K mg base c m k G := ⟨C, f, fd, ps, hm, M.at_, M.fn, F, hb⟩
/-! tables, entry by entry -/
theorem ft_nil : FtOk K mg [] := fun _ _ e => by cases e
theorem ft_cons {C : Addr} {fs : List Str} {T : FT} (hm : mg c = some (.ref C)) (cl : Cls K C) (h : ∀ f ∈ fs, NoAttr K C f) (t : FtOk K mg T) : FtOk K mg ((c, fs) :: T) := fun c' fs' e Cc hc => by
  rw [List.lookup_cons] at e
  split at e
  · rename_i q
    cases e
    have : c' = c := by simpa using q
    subst this
    cases hm.symm.trans hc
    exact ⟨cl, h⟩
  · exact t c' fs' e Cc hc
theorem oc_nil : OcOk K mg [] := fun _ h => by cases h
theorem oc_cons {C : Addr} {cs : List Str} (hm : mg c = some (.ref C)) (cl : Cls K C) (h1 : PySem.W.findIn K (.ref C) "__class__" = some (some (.builtin "object.__class__"))) (h2 : PySem.W.specialIn K (.builtin "object.__class__") "__get__" = some (some (.builtin "getset_descriptor.__get__")))
    (h3 : PySem.W.takesIn K (.builtin "object.__class__") = some true) (h4 : PySem.W.mroIn K C (.type "object") = some true) (t : OcOk K mg cs) : OcOk K mg (c :: cs) := fun c' h Cc hc => by
  rcases List.mem_cons.mp h with rfl | h
  · cases hm.symm.trans hc
    exact ⟨cl, h1, h2, h3, h4⟩
  · exact t c' h Cc hc
theorem kt_nil : KtOk K mg [] := fun _ _ _ e => by cases e
theorem tyv_inj {t : Ty} {u v : Value} (h1 : TyV mg t u) (h2 : TyV mg t v) : u = v := by
  cases t with
  | b s => rw [h1.2, h2.2]
  | o c =>
    obtain ⟨C, e1, rfl⟩ := h1
    obtain ⟨C', e2, rfl⟩ := h2
    cases e1.symm.trans e2
    rfl
theorem kt_cons {t s : Ty} {u v : Value} {b : Bool} {T : KT} (h1 : TyV mg t u) (h2 : TyV mg s v) (h : PySem.W.kitOne K u v = some b) (r : KtOk K mg T) : KtOk K mg (((t, s), b) :: T) := fun t' s' b' e u' v' h1' h2' => by
  rw [List.lookup_cons] at e
  split at e
  · rename_i q
    cases e
    have q : (t', s') = (t, s) := by simpa using q
    cases q
    rw [← tyv_inj h1 h1', ← tyv_inj h2 h2']
    exact h
  · exact r t' s' b' e u' v' h1' h2'
theorem tyv_b {s : String} (h : s ∈ tysD := by decide) : TyV mg (.b s) (.type s) := ⟨h, rfl⟩
theorem tyv_o {C : Addr} (h : mg c = some (.ref C)) : TyV mg (.o c) (.ref C) := ⟨C, h, rfl⟩
end
end L2.DL
namespace L2.DL
open PySem PySem.Spec PyProof.Rows
theorem kit_b {K : PySem.W.Frag} {C : Addr} {T : String} {b : Bool} (h : PySem.W.subIn K (.ref C) (.type T) = some b) (hm : PySem.W.kitMeta T = true := by decide +kernel) : PySem.W.kitOne K (.ref C) (.type T) = some b := by
  unfold PySem.W.kitOne
  rw [if_neg (by simp)]
  show (if PySem.W.kitMeta T = true then _ else _) = _
  rw [if_pos hm, h]
theorem kit_o {K : PySem.W.Frag} {D : Addr} {u : Value} {b : Bool} (h : PySem.W.subIn K u (.ref D) = some b) (hc : PySem.W.isClsIn K D = true) (ht : PySem.W.typeIn K (.ref D) = some (.type "type")) (hs : PySem.W.subIn K (.ref D) (.ref D) = some true) : PySem.W.kitOne K u (.ref D) = some b := by
  unfold PySem.W.kitOne
  by_cases q : (u == Value.ref D) = true
  · rw [if_pos q]
    have e : u = .ref D := beq_iff_eq.mp q
    subst e
    rw [hs] at h
    exact h
  · rw [if_neg q]
    show (if ((PySem.W.clsIn K D).isSome && PySem.W.typeIn K (.ref D) == some (.type "type")) = true then _ else _) = _
    have hc : (PySem.W.clsIn K D).isSome = true := hc
    rw [if_pos (by rw [hc, ht] <;> simp), h]
end L2.DL

/-! DL35: a, b = e, e' of two names. -/
namespace L2.DL
open PySem PySem.Spec PyProof.Rows
def parM3 (i j l : Nat) (fa : Mo (List D)) : Mo Fl := bnd fa fun ds => match ds with
  | [x, y, z] => bnd (put i (.sh x)) fun _ => bnd (put j (.sh y)) fun _ => put l (.sh z)
  | _ => no
def parM (i j : Nat) (fa : Mo (List D)) : Mo Fl := bnd fa fun ds => match ds with
  | [x, y] => bnd (put i (.sh x)) fun _ => put j (.sh y)
  | _ => no
section
variable {Φ : Ctx} {X : Cx} {a b : Expr} {fa : Mo (List D)} {px py pt pos pt2 : Pos} {kt k2 : Nat} {x y : Str}
theorem parM_ap {i j : Nat} {ρ : Env} {μ : Sto} : parM i j fa ρ μ = bo (fa ρ μ) fun ds => match ds with
  | [x, y] => bnd (put i (.sh x)) fun _ => put j (.sh y)
  | _ => no := bnd_ap
theorem ds_par {i j k : Nat} (cn : Cn Φ X k) (ha : DA Φ X [a, b] fa) (hi : X.N[i]? = some x := by rfl) (hj : X.N[j]? = some y := by rfl) (hij : i ≠ j := by decide) (hx : X.env.scope.names.lookup x = some .local := by rfl) (hy : X.env.scope.names.lookup y = some .local := by rfl)
    (hw : swappedStores [.Tuple [.Name x px, .Name y py] kt pt] (.Tuple [a, b] k2 pt2) X.env = pure (some [x, y]) := by rfl) (hs : swapsWithSole [.Tuple [.Name x px, .Name y py] kt pt] (.Tuple [a, b] k2 pt2) pos.line X.env = pure false := by rfl) :
    DS Φ X (.Assign [.Tuple [.Name x px, .Name y py] kt pt] (.Tuple [a, b] k2 pt2) pos) (parM i j fa) := PS.imp (ps_par cn.calm cn.nd hi hj hij hx hy ha hw hs) fun D σ H ⟨ρ, μ, C, os, R, z⟩ => ⟨ρ, μ, C, os, R, by
  unfold parM bnd at z
  cases e : fa ρ μ with
  | no => simp only [e] at z; exact z
  | ex c ns ds ρ1 μ1 => simp only [e] at z; exact fun Cc dx H' C' os' R S g e => z Cc dx σ H' C' os' R S g e
  | ok ds ρ1 μ1 =>
    simp only [e] at z
    intro vs H1 C1 os1 R1 S1 q1
    match ds, q1, z with
    | [d1, d2], .cons (v := v1) h1 (.cons (v := v2) h2 .nil), z =>
      exact ⟨v1, v2, rfl, z _ _ C1 os1 ((R1.setv (t := .sh d1) h1).setv (t := .sh d2) h2) S1⟩
    | [], _, z => exact z.elim
    | [_], _, z => exact z.elim
    | _ :: _ :: _ :: _, _, z => exact z.elim⟩
theorem parM3_ap {i j l : Nat} {ρ : Env} {μ : Sto} : parM3 i j l fa ρ μ = bo (fa ρ μ) fun ds => match ds with
  | [x, y, z] => bnd (put i (.sh x)) fun _ => bnd (put j (.sh y)) fun _ => put l (.sh z)
  | _ => no := bnd_ap
theorem ds_par3 {c : Expr} {z : Str} {pz : Pos} {i j l k : Nat} (cn : Cn Φ X k) (ha : DA Φ X [a, b, c] fa) (hi : X.N[i]? = some x := by rfl) (hj : X.N[j]? = some y := by rfl) (hl : X.N[l]? = some z := by rfl) (hij : i ≠ j := by decide) (hil : i ≠ l := by decide) (hjl : j ≠ l := by decide)
    (hx : X.env.scope.names.lookup x = some .local := by rfl) (hy : X.env.scope.names.lookup y = some .local := by rfl) (hz : X.env.scope.names.lookup z = some .local := by rfl)
    (hw : swappedStores [.Tuple [.Name x px, .Name y py, .Name z pz] kt pt] (.Tuple [a, b, c] k2 pt2) X.env = pure (some [x, y, z]) := by rfl) (hs : swapsWithSole [.Tuple [.Name x px, .Name y py, .Name z pz] kt pt] (.Tuple [a, b, c] k2 pt2) pos.line X.env = pure false := by rfl) :
    DS Φ X (.Assign [.Tuple [.Name x px, .Name y py, .Name z pz] kt pt] (.Tuple [a, b, c] k2 pt2) pos) (parM3 i j l fa) := PS.imp (ps_par3 cn.calm cn.nd hi hj hl hij hil hjl hx hy hz ha hw hs) fun D σ H ⟨ρ, μ, C, os, R, z⟩ => ⟨ρ, μ, C, os, R, by
  unfold parM3 bnd at z
  cases e : fa ρ μ with
  | no => simp only [e] at z; exact z
  | ex c ns ds ρ1 μ1 => simp only [e] at z; exact fun Cc dx H' C' os' R S g e => z Cc dx σ H' C' os' R S g e
  | ok ds ρ1 μ1 =>
    simp only [e] at z
    intro vs H1 C1 os1 R1 S1 q1
    match ds, q1, z with
    | [d1, d2, d3], .cons (v := v1) h1 (.cons (v := v2) h2 (.cons (v := v3) h3 .nil)), z =>
      exact ⟨v1, v2, v3, rfl, z _ _ C1 os1 (((R1.setv (t := .sh d1) h1).setv (t := .sh d2) h2).setv (t := .sh d3) h3) S1⟩
    | [], _, z => exact z.elim
    | [_], _, z => exact z.elim
    | [_, _], _, z => exact z.elim
    | _ :: _ :: _ :: _ :: _, _, z => exact z.elim⟩
end
end L2.DL

/-! DL36: repr of data in which dicts may stand at any depth; of own instances. -/
namespace L2.DL
open PySem PySem.Spec PyProof.Rows
/-- the dict of the modules stands -/
def SysM (h : Heap) : Prop := ∃ o es ep, h.get? sysModules = some o ∧ o.data = .dict es ep
mutual
def toN : D → Option PyData
  | .non => some .none | .bl b => some (.bool b) | .int i => some (.int i) | .str s => some (.str s)
  | .tup xs => (toNs xs).map .tuple | .lst xs => (toNs xs).map .list | .frz xs => (toNs xs).map .list
  | .dct ks vs => (toNs vs).map fun ps => .dict ((ks.map keyP).zip ps)
  | .ins _ _ _ => none | .cell _ => none
def toNs : List D → Option (List PyData)
  | [] => some []
  | d :: ds => match toN d, toNs ds with
    | some p, some ps => some (p :: ps)
    | _, _ => none
end
theorem toNs_cons {d : D} {ds : List D} {qs : List PyData} (e : toNs (d :: ds) = some qs) : ∃ p ps, toN d = some p ∧ toNs ds = some ps ∧ qs = p :: ps := by
  unfold toNs at e
  split at e
  · rename_i p ps h1 h2
    cases e
    exact ⟨p, ps, h1, h2, rfl⟩
  · cases e
theorem toNs_len : ∀ {ds : List D} {ps : List PyData}, toNs ds = some ps → ps.length = ds.length
  | [], _, e => by cases e; rfl
  | d :: ds, qs, e => by
    obtain ⟨p, ps, h1, h2, rfl⟩ := toNs_cons e
    rw [List.length_cons, List.length_cons, toNs_len h2]
section
variable {X : Cx} {pins : List (Addr × Obj)} {σ : L2.St} {H : Hp} {s : Shared}
theorem sysm_H (S : SysM X.base) (I : Inv X pins σ H s) : H sysModules = none := by
  obtain ⟨o, es, ep, e, d⟩ := S
  exact (I.env0.bs _ _ e).2
theorem sysm_list (S : SysM X.base) (I : Inv X pins σ H s) {a : Addr} {o : Obj} {vs : Array Value} {n : Nat} (e : s.heap.get? a = some o) (d : o.data = .seq vs n) : a ≠ sysModules := by
  intro z
  obtain ⟨o', es, ep, e', d'⟩ := S
  have q := (I.env0.bs _ _ e').1
  rw [z, q] at e
  cases e
  rw [d'] at d
  cases d
theorem pairs_zip {h : Heap} {P : Program} {w : World} : ∀ {es : List DictEntry} {vs : List (Key × Value)} {kvs : List (Key × V)}, Pairs (mixKind P w) es vs → KV kvs vs → ReadsAll h (es.map (·.key)) ((kvs.map (·.1)).map keyP) [] ∧ Vals (kvs.map (·.2)) (es.map (·.val)) := by
  intro es vs kvs hp
  induction hp generalizing kvs with
  | nil =>
    intro hk
    cases hk
    exact ⟨.nil, .nil⟩
  | @cons e kv es vs h1 h2 _ ih =>
    intro hk
    cases hk with
    | @cons p _ kvs _ hkv hrest =>
      obtain ⟨z1, z2⟩ := ih hrest
      obtain ⟨e1, rv⟩ := hkv
      have h1 : keyIs kv.1 e.key = true := h1
      rw [← e1] at h1
      rw [← h2] at rv
      exact ⟨ReadsAll.cons (as := []) (bs := []) (key_reads h1) z1, .cons rv z2⟩
mutual
theorem rep_n {r : RC} (S : SysM X.base) (I : Inv X pins σ H s) (hK : r.K = X.K) (hH : r.H = H) : ∀ {d : D} {v : V} {u : Value} {p : PyData}, Rep r v d → RelV v u → toN d = some p → ∃ as, Reads s.heap u p as ∧ sysModules ∉ as
  | .non, v, u, p, q, rv, e => by cases e; cases q; cases rv; exact ⟨[], .none, by simp⟩
  | .bl b, v, u, p, q, rv, e => by cases e; cases q; cases rv; exact ⟨[], .bool b, by simp⟩
  | .int i, v, u, p, q, rv, e => by cases e; cases q; obtain ⟨t, rfl⟩ := rv; exact ⟨[], .int i t, by simp⟩
  | .str x, v, u, p, q, rv, e => by cases e; cases q; obtain ⟨t, rfl⟩ := rv; exact ⟨[], .str x t, by simp⟩
  | .tup xs, v, u, p, q, rv, e => by
    obtain ⟨ps, e1, rfl⟩ := Option.map_eq_some_iff.mp (show (toNs xs).map PyData.tuple = some p from e)
    cases q with
    | tup h qs =>
      cases rv
      obtain ⟨its, rv, ⟨o, ho, hc, n, hd⟩, _⟩ := I.tuple (hK ▸ hH ▸ h.sq)
      obtain ⟨as, hr, hm⟩ := reps_n S I hK hH qs rv e1
      exact ⟨as, .tuple ho hc hd hr, hm⟩
  | .lst xs, v, u, p, q, rv, e => by
    obtain ⟨ps, e1, rfl⟩ := Option.map_eq_some_iff.mp (show (toNs xs).map PyData.list = some p from e)
    cases q with
    | lst h n qs =>
      cases rv
      obtain ⟨its, rv, ⟨o, n, ho, hc, _, hd⟩, _⟩ := I.list (.of (hH ▸ h))
      obtain ⟨as, hr, hm⟩ := reps_n S I hK hH qs rv e1
      exact ⟨_, .list ho hc hd hr, fun z => (List.mem_cons.mp z).elim (fun z => sysm_list S I ho hd z.symm) hm⟩
  | .frz xs, v, u, p, q, rv, e => by
    obtain ⟨ps, e1, rfl⟩ := Option.map_eq_some_iff.mp (show (toNs xs).map PyData.list = some p from e)
    cases q with
    | frz h qs =>
      cases rv
      obtain ⟨its, rv, ⟨o, n, ho, hc, _, hd⟩, _⟩ := I.list (hK ▸ hH ▸ h.sq)
      obtain ⟨as, hr, hm⟩ := reps_n S I hK hH qs rv e1
      exact ⟨_, .list ho hc hd hr, fun z => (List.mem_cons.mp z).elim (fun z => sysm_list S I ho hd z.symm) hm⟩
  | .dct ks vs, v, u, p, q, rv, e => by
    obtain ⟨ps, e1, rfl⟩ := Option.map_eq_some_iff.mp (show (toNs vs).map (fun ps => PyData.dict ((ks.map keyP).zip ps)) = some p from e)
    cases q with
    | @dct a kvs _ _ h n e2 qs =>
      cases rv
      obtain ⟨_, hs, ws, hkv, o, es, ep, ho, hx, hd, _, hp, _⟩ : ObjOk X.prog X.w H s.heap a (.dK kvs) := I.hok a _ (hH ▸ h)
      obtain ⟨z1, z2⟩ := pairs_zip (h := s.heap) hp hkv
      obtain ⟨as, hr, hm⟩ := reps_n S I hK hH qs z2 e1
      have lk : (ks.map keyP).length = ps.length := by
        rw [List.length_map, toNs_len e1, ← qs.length, ← e2, List.length_map, List.length_map]
      refine ⟨a :: [] ++ as, .dict ho hx.1 hd ?_ ?_, fun z => ?_⟩
      · rw [List.map_fst_zip (Nat.le_of_eq lk), ← e2]
        exact z1
      · rw [List.map_snd_zip (Nat.le_of_eq lk.symm)]
        exact hr
      · rcases List.mem_append.mp z with z | z
        · rw [List.mem_singleton.mp z] at hs
          simp at hs
        · exact hm z
  | .ins _ _ _, _, _, _, _, _, e => by cases (show (none : Option PyData) = some _ from e)
  | .cell _, _, _, _, _, _, e => by cases (show (none : Option PyData) = some _ from e)
theorem reps_n {r : RC} (S : SysM X.base) (I : Inv X pins σ H s) (hK : r.K = X.K) (hH : r.H = H) : ∀ {ds : List D} {vs : List V} {us : List Value} {ps : List PyData}, Reps r vs ds → Vals vs us → toNs ds = some ps → ∃ as, ReadsAll s.heap us ps as ∧ sysModules ∉ as
  | [], vs, us, ps, q, rv, e => by cases e; cases q; cases rv; exact ⟨[], .nil, by simp⟩
  | d :: ds, vs, us, qs, q, rv, e => by
    obtain ⟨p, ps, h1, h2, rfl⟩ := toNs_cons e
    cases q with
    | cons q1 q2 =>
      cases rv with
      | cons r1 r2 =>
        obtain ⟨as, a1, a2⟩ := rep_n S I hK hH q1 r1 h1
        obtain ⟨bs, b1, b2⟩ := reps_n S I hK hH q2 r2 h2
        exact ⟨as ++ bs, .cons a1 b1, fun z => (List.mem_append.mp z).elim a2 b2⟩
end
def reprN (d : D) : Option D := match toN d with
  | some p => if p.showable && decide (p.shown.length ≤ lineN) && decide (p.depth ≤ 60) then some (.str p.shown) else none
  | none => none
def rReprN (X : Cx) : List V → Hp → VK → Prop := fun xs H Q => ∃ (r : RC) (x : V) (d : D) (p : PyData), xs = [x] ∧ r.K = X.K ∧ r.H = H ∧ Rep r x d ∧ toN d = some p ∧ p.showable = true ∧ p.shown.length ≤ sizeLine ∧ p.depth ≤ 60 ∧ Q (.str p.shown) H
theorem call_reprN (S : SysM X.base) (hg : X.A.guards = some []) (hu : hasUnits X) : CallR X (.builtin "repr") (rReprN X) := by
  intro pins s σ H xs us Q I r h
  obtain ⟨q, x, d, p, rfl, h1, h2, h3, h4, h5, hz, h8, k⟩ := h
  obtain ⟨u, rfl, rv⟩ := vals1 r
  obtain ⟨as, hr, hm0⟩ := rep_n S I h1 h2 h3 rv h4
  have hm : p.hasDict = true → sysModules ∉ as := fun _ => hm0
  have hu : X.A.units + 64 < cLine := hu
  cases hr with
  | none => exact PySem.P.repr_of_none ⟨.str _, H, I.tok _, ⟨_, rfl⟩, k⟩
  | bool b => exact PySem.P.repr_of_bool ⟨.str _, H, I.tok _, ⟨_, rfl⟩, k⟩
  | int i t => exact PySem.P.repr_of_int (by simpa [PyData.showable] using h5) ⟨.str _, H, I.tok _, ⟨_, rfl⟩, k⟩
  | str x t => exact PySem.P.repr_of_str ⟨.str _, H, I.tok _, ⟨_, rfl⟩, k⟩ (by simpa only [PyData.shown] using hz)
  | list a1 a2 a3 a4 => exact repr_of_reads' (.list a1 a2 a3 a4) h5 hm hg (by omega) (fun _ _ e => e) (fun h' u tk hk => ⟨.str _, H, I.kept (t' := tk) hk, ⟨_, rfl⟩, k⟩) hz
  | tuple a1 a2 a3 a4 => exact repr_of_reads' (.tuple a1 a2 a3 a4) h5 hm hg (by omega) (fun _ _ e => e) (fun h' u tk hk => ⟨.str _, H, I.kept (t' := tk) hk, ⟨_, rfl⟩, k⟩) hz
  | dict a1 a2 a3 a4 a5 => exact repr_of_reads' (.dict a1 a2 a3 a4 a5) h5 hm hg (by omega) (fun _ _ e => e) (fun h' u tk hk => ⟨.str _, H, I.kept (t' := tk) hk, ⟨_, rfl⟩, k⟩) hz
variable {Φ : Ctx} {f : Mo D} {p pos : Pos}
theorem de_reprN {k j : Nat} {T : ST} {e : Expr} (S : SpcT X.prog X.w X.K X.mg X.base "__repr__" k T) (SM : SysM X.base) (hgd : X.A.guards = some []) (cc : Cc Φ X j) (hm : X.mg "repr" = none) (ha : DE Φ X e f) (hj : k + 1 ≤ j := by decide) (hg : Gl X "repr" := by rfl) (hv : bootBuiltins "repr" = some (.builtin "repr") := by decide +kernel) (he : starEach (e :: []) X.env = (false, eval e X.env) :: starEach [] X.env := by rfl)
    (hpl : (backTo pos (starEach [] X.env)).any (·.1) = false := by rfl) : DE Φ X (.Call (.Name "repr" p) [e] [] pos) (ownM T strR reprN f) :=
  PE.imp (pe_callBS ((own_repr S cc hj).or (call_reprN SM hgd cc.rm.units)) hg hm hv (pa_cons ha pa_nil he) (by decide) (by decide) he hpl) fun σ H Q ⟨ρ, μ, C, os, R, z⟩ => ⟨ρ, μ, C, os, R, PostE.bnd z fun d ρ1 μ1 v H1 C1 os1 R1 S1 q1 z1 => by
    show _ ∨ _
    cases e0 : insOf d μ1 with
    | none =>
      simp only [e0] at z1
      obtain ⟨d', e, k⟩ := lift_ok R1 z1
      unfold reprN at e
      cases e2 : toN d with
      | none => simp only [e2] at e; cases e
      | some p =>
        simp only [e2] at e
        split at e
        · rename_i hc
          simp only [Bool.and_eq_true, decide_eq_true_eq] at hc
          cases e
          exact .inr ⟨rc Φ X C1 os1 H1, v, d, p, rfl, rfl, rfl, q1, e2, hc.1.1, by rw [line_eq]; exact hc.1.2, hc.2, k _ _ (Grow.refl _) (.str _)⟩
        · cases e
    | some r =>
      obtain ⟨c, ns, vs⟩ := r
      simp only [e0] at z1
      cases e1 : T.lookup c with
      | none => simp only [e1] at z1; exact z1.elim
      | some G =>
        simp only [e1] at z1
        obtain ⟨a, rfl, b⟩ := ins_at R1 q1 e0
        obtain ⟨Cc, dx, fs, h1, h2, h3, h4⟩ := b
        exact .inl ⟨c, G, Cc, a, dx, fs, e1, h2, rfl, h1, spc_str R1 q1 z1⟩⟩
end
theorem reprN_fits {d : D} {p : PyData} (h : toN d = some p) (h1 : p.showable = true) (h2 : p.leavesShort 64 = true) (h3 : p.weight ≤ 200000) (h4 : p.depth ≤ 60) : reprN d = some (.str p.shown) := by
  have z := PyData.shown_le 64 (by decide) p h2
  have z2 : p.shown.length ≤ lineN := by
    refine Nat.le_trans z ?_
    show _ ≤ 16777216
    omega
  unfold reprN
  rw [h]
  simp only [h1, decide_eq_true z2, decide_eq_true h4, Bool.and_self, if_true]
/-- the law's def on a script -/
theorem law_atM {P : Program} {w : World} {K : PySem.W.Frag} {mg mb : Str → Option Value} {fa a : Addr} {fd : FuncData} {x : Str} {G : Fn} {s₁ : Shared} {vs : List Value} {ns : List Int}
    (KX : K.In s₁.heap) (hns : s₁.heap.Ns mainGlobals mg) (hb : s₁.heap.Ns builtinsNs mb) (hbb : ∀ x : Str, x ≠ "__name__" → mb x = bootBuiltins x) (lim : s₁.heap.NoLimit) (hg : s₁.gens = #[])
    (ha : s₁.heap.get? a = some { cls := .type "list", data := .seq vs.toArray }) (hi : IntsAre vs ns) (hl : ns.length ≤ sizeLine)
    (hsm : SysM s₁.heap) (F : ∀ base : Heap, K.In base → base.Ns mainGlobals mg → SysM base → RunAt P w K mg base callerA fa fd [x] (spD K mg G)) (bnds : ∀ (s : Shared) (u : Value), BindsTo s fd ⟨[u], []⟩ [(x, u)])
    (ans : ∃ μ, G [.frz (ns.map D.int)] [] = .ok (.bl true) μ) :
    codeAny (model P w) callerA (.call (.ref fa) ⟨[.ref a], []⟩) (fun r s' => r = .ok (.ret (.bool true)) ∧ OldK s₁.heap s'.heap ∧ s'.os = s₁.os ∧ AllBare s'.gens) s₁ := by
  have rv := vals_ints hi
  have go : ∀ H : Hp, (∀ b, H b = none ∨ (b = a ∧ H b = some (.frz { cls := .type "list", data := .seq vs.toArray } (.lst (ns.map V.int))))) → SqL K H a (ns.map V.int) → HOk P w H s₁.heap → (H a ≠ none → K.lookup a = none) →
      codeAny (model P w) callerA (.call (.ref fa) ⟨[.ref a], []⟩) (fun r s' => r = .ok (.ret (.bool true)) ∧ OldK s₁.heap s'.heap ∧ s'.os = s₁.os ∧ AllBare s'.gens) s₁ := by
    intro H only hS hok hK
    have isA : ∀ {b o}, H b = some o → b = a := fun {b o} e => by
      rcases only b with z | z
      · rw [z] at e; cases e
      · exact z.1
    have keep : ∀ {b o}, s₁.heap.get? b = some o → H b = none → (hidT s₁.heap H).get? b = some o := fun e n => hidT_get e n
    have seqA : ∀ {b o}, s₁.heap.get? b = some o → H b ≠ none → o = { cls := .type "list", data := .seq vs.toArray } := fun {b o} e n => by
      cases q : H b with
      | none => exact (n q).elim
      | some u =>
        rw [isA q, ha] at e
        exact (Option.some.inj e).symm
    have hidK : K.In (hidT s₁.heap H) := fun b o e => keep (KX b o e) (Classical.byContradiction fun n => by
      cases q : H b with
      | none => exact n q
      | some u =>
        have eb := isA q
        rw [eb] at e n
        rw [hK n] at e; cases e)
    have hidN : ∀ {b : Addr} {m : Str → Option Value}, s₁.heap.Ns b m → (hidT s₁.heap H).Ns b m := fun {b m} ⟨o, es, ep, e, d, r⟩ => ⟨o, es, ep, keep e (Classical.byContradiction fun n => by
      rw [seqA e n] at d
      cases d), d, r⟩
    have M : Mod K mg (hidT s₁.heap H) := ⟨hidK, hidN hns, ⟨mb, hidN hb, hbb⟩, let ⟨mc, h1, h2⟩ := lim; ⟨mc, hidN h1, h2⟩⟩
    have e0 : Env0 P w K mg (hidT s₁.heap H) callerA [] s₁ H := ⟨rfl, M, fun b o e => of_hidT e, Nat.le_of_eq (hidT_size _ _), trivial, fun b hb => (by cases hb), hok, .of_eq hg⟩
    have sp : spD K mg G [.ref a] H (fun v _ => v = .bl true) fun _ _ _ => False := by
      obtain ⟨μ, e⟩ := ans
      refine ⟨[.frz (ns.map D.int)], [], fun _ => False, [], ⟨.cons (.frz ?_ (ints_repD ns)) .nil, ⟨rfl, fun n a c h => (by cases h)⟩, List.nodup_nil, fun a h => (by cases h), fun a h => h.elim⟩, ?_⟩
      · rcases hS with h | h
        · exact .inl ⟨fun z => z, h⟩
        · exact .inr (.inr h)
      · rw [e]
        intro v H' C' _ q
        cases q
        rfl
    refine codeAny_mono (F _ hidK (hidN hns) (let ⟨o, es, ep, e, d⟩ := hsm; ⟨o, es, ep, keep e (Classical.byContradiction fun n => by
      rw [seqA e n] at d
      cases d), d⟩) [] s₁ H ⟨[.ref a], []⟩ [.ref a] [.ref a] _ _ e0 (bnds s₁ (.ref a)) (.cons rfl .nil) sp) fun r s' h => ?_
    cases r with
    | error e =>
      obtain ⟨_, _, _, _, _, _, _, _, _, _, _, _, z⟩ := h
      exact z.elim
    | ok fl =>
      cases fl with
      | next => exact h.elim
      | brk => exact h.elim
      | cont => exact h.elim
      | ret u =>
        obtain ⟨v, H', os, bare, un, hok', r', q⟩ := h
        cases (show v = .bl true from q)
        cases (show u = Value.bool true from r')
        refine ⟨rfl, OldK.of_keep fun b o e => ?_, os, bare⟩
        rcases only b with n | ⟨eb, n⟩
        · exact un.keep b o e n (by intro z; cases z) (by simp)
        · obtain ⟨e1, _⟩ := hok b _ n
          obtain ⟨e2, _⟩ := hok' b _ (un.frzs b _ _ n)
          rw [e] at e1; cases e1
          exact e2
  cases hk : K.lookup a with
  | some o =>
    have e := KX a o hk
    rw [ha] at e
    cases e
    exact go (fun _ => none) (fun _ => .inl rfl) (.inr ⟨_, vs.toArray, _, hk, rfl, rfl, rfl, by rw [List.size_toArray, hi.length]; exact hl, by simpa using rv⟩) (fun b u z => nomatch (show (none : Option HO) = some u from z)) fun z => (z rfl).elim
  | none =>
    refine go (fun b => if b = a then some (.frz { cls := .type "list", data := .seq vs.toArray } (.lst (ns.map V.int))) else none) (fun b => ?_) (.inl (.inr ⟨_, if_pos rfl⟩)) (fun b u z => ?_) fun _ => hk
    · by_cases h : b = a
      · exact .inr ⟨h, if_pos h⟩
      · exact .inl (if_neg h)
    · by_cases h : b = a
      · have z := (if_pos h).symm.trans z
        cases z
        subst h
        exact ⟨ha, by rw [List.length_map]; exact hl, vs, _, rv, ha⟩
      · have z := (if_neg h).symm.trans z
        cases z
/-- the goal behind the head -/
theorem walk_M {l : PySem.W.OpenLaw} {n : Nat} {q : Program} {loose : List Str} {XP : (Str → Option Value) → Heap → Prop} {YP : World → Heap → Prop} {d : DefRec} {K : Params → PySem.W.Frag} {G : Fn} {x : Str} (hn : l.most = some n) (hn2 : n ≤ sizeLine) (hdf : d.params.defaults = []) (hin : importsNone q = true)
    (hY : ∀ (w : World) (h : Heap), YP w h → (K w.params).In h)
    (F : ∀ (w : World) (mg : Str → Option Value) (fa : Addr) (h : Heap), (K w.params).In h → h.Ns mainGlobals mg → mg d.name = some (.ref fa) →
      ∃ fd : FuncData, (∀ (s : Shared) (u : Value), BindsTo s fd ⟨[u], []⟩ [(x, u)]) ∧ ∀ base : Heap, (K w.params).In base → base.Ns mainGlobals mg → SysM base → RunAt l.prog w (K w.params) mg base callerA fa fd [x] (spD (K w.params) mg G))
    (ans : ∀ ns : List Int, ns.length ≤ n → ∃ μ, G [.frz (ns.map D.int)] [] = .ok (.bl true) μ) : PySem.W.WalkO q loose XP YP l.row.toRowW d [] (fun f vs => PySem.call f vs) := by
  refine Att.attach_call hn hdf fun w s₀ s₁ mg mb fa o pm cd doc a vs ns G' Y ho hd hcd hmg hobj hints hlen hg => ?_
  have KX := hY w _ Y
  obtain ⟨fd, hb, hF⟩ := F w mg fa _ KX G'.T.g hmg
  exact law_atM KX G'.T.g G'.T.b G'.T.builtins G'.T.nolimit hg hobj hints (Nat.le_trans hlen hn2) (let ⟨_, ⟨o, es, ep, e, d, _⟩, _⟩ := (G'.T.seer hin).mods; ⟨o, es, ep, e, d⟩) hF hb (ans ns hlen)
end L2.DL

/-! DL38: new lists by + and by comprehensions that a name owns; a, b = e, a new list; sorted(set(xs)). -/
namespace L2.DL
open PySem PySem.Spec PyProof.Rows
section
variable {Φ : Ctx} {X : Cx} {a b c e : Expr} {f g : Mo D} {pos : Pos}
/-! ### + -/
theorem PostF.bndE {i : Nat} {C : List Addr} {os : Os} {σ : St} {H : Hp} {f : Mo D} {g : D → Mo D} {ρ : Env} {μ : Sto} {Q : VK} {Q1 : VK} (h : PostF Φ X i C os σ H (bnd f g ρ μ) Q)
    (k : ∀ d ρ1 μ1 v H1 C1 os1, Rl Φ X ρ1 μ1 C1 os1 σ H1 → Stp (rc Φ X C os H) (rc Φ X C1 os1 H1) → Rep (rc Φ X C1 os1 H1) v d → PostF Φ X i C1 os1 σ H1 (g d ρ1 μ1) Q → Q1 v H1) : PostE Φ X C os σ H (f ρ μ) Q1 := by
  unfold bnd at h
  cases e : f ρ μ with
  | no => rw [e] at h; exact h
  | ex c ns ds ρ1 μ1 => rw [e] at h; exact h
  | ok d ρ1 μ1 =>
    rw [e] at h
    intro v H1 C1 os1 R S q
    have h : PostF Φ X i C os σ H (g d ρ1 μ1) Q := h
    refine k d ρ1 μ1 v H1 C1 os1 R S q ?_
    cases e2 : g d ρ1 μ1 with
    | no => rw [e2] at h; exact h
    | ex c ns ds ρ2 μ2 => rw [e2] at h; exact fun Cc dx H' C' os' R' T g e => h Cc dx H' C' os' R' (S.trans T) g e
    | ok d2 ρ2 μ2 => rw [e2] at h; exact fun a H' C' os' R' T w => h a H' C' os' R' (S.trans T) w
theorem PostF.bndB {i : Nat} {C : List Addr} {os : Os} {σ : St} {H : Hp} {f : Mo D} {g : D → Mo D} {ρ : Env} {μ : Sto} {Q : VK} {Q1 : VK} (h : PostF Φ X i C os σ H (bnd f g ρ μ) Q)
    (k : ∀ d ρ1 μ1 v H1 C1 os1, Rl Φ X ρ1 μ1 C1 os1 σ H1 → Stp (rc Φ X C os H) (rc Φ X C1 os1 H1) → RepW (rc Φ X C1 os1 H1) v d → PostF Φ X i C1 os1 σ H1 (g d ρ1 μ1) Q → Q1 v H1) : PostB Φ X C os σ H (f ρ μ) Q1 := by
  unfold bnd at h
  cases e : f ρ μ with
  | no => rw [e] at h; exact h
  | ex c ns ds ρ1 μ1 => rw [e] at h; exact h
  | ok d ρ1 μ1 =>
    rw [e] at h
    intro v H1 C1 os1 R S q
    have h : PostF Φ X i C os σ H (g d ρ1 μ1) Q := h
    refine k d ρ1 μ1 v H1 C1 os1 R S q ?_
    cases e2 : g d ρ1 μ1 with
    | no => rw [e2] at h; exact h
    | ex c ns ds ρ2 μ2 => rw [e2] at h; exact fun Cc dx H' C' os' R' T g e => h Cc dx H' C' os' R' (S.trans T) g e
    | ok d2 ρ2 μ2 => rw [e2] at h; exact fun a H' C' os' R' T w => h a H' C' os' R' (S.trans T) w
theorem run2F {i : Nat} {r : R2} {h : D → D → Option D} (hD : OpF X r h) {σ : L2.St} {H : Hp} {Q : VK} (z : cF Φ X i (op2 h f g) σ H Q) : tOp r (cE Φ X f) (cB Φ X g) σ H Q := by
  obtain ⟨ρ, μ, C, os, R, z⟩ := z
  refine ⟨ρ, μ, C, os, R, PostF.bndE z fun d1 ρ1 μ1 x H1 C1 os1 R1 S1 q1 z1 => ⟨ρ1, μ1, C1, os1, R1, PostF.bndB z1 fun d2 ρ2 μ2 y H2 C2 os2 R2 S2 q2 z2 => ?_⟩⟩
  obtain ⟨d, e, k⟩ := lift_okF R2 z2
  exact hD (rc Φ X C2 os2 H2) x y d1 d2 d Q rfl rfl R2.fr (.inl (q1.step S2)) q2 e k
theorem df_add {i : Nat} (ha : DE Φ X a f) (hb : DB Φ X b g) : DF Φ X i (.BinOp a .Add b pos) (op2 addL f g) := PE.imp (pe_op op_cat ha hb) fun _ _ _ z => run2F of_addL z
/-! ### a, b = e, a new list -/
def parF (i j : Nat) (f g : Mo D) : Mo Fl := bnd f fun x => bnd g fun d => bnd (put i (.sh x)) fun _ => put j (.ow d)
theorem parF_ap {i j : Nat} {ρ : Env} {μ : Sto} : parF i j f g ρ μ = bo (f ρ μ) fun x => bnd g fun d => bnd (put i (.sh x)) fun _ => put j (.ow d) := bnd_ap
theorem ds_parF {x y : Str} {px py pt pt2 : Pos} {kt k2 : Nat} {i j k : Nat} (cn : Cn Φ X k) (ha : DE Φ X a f) (hb : DF Φ X j b g) (hi : X.N[i]? = some x := by rfl) (hj : X.N[j]? = some y := by rfl) (hij : i ≠ j := by decide)
    (hx : X.env.scope.names.lookup x = some .local := by rfl) (hy : X.env.scope.names.lookup y = some .local := by rfl)
    (hw : swappedStores [.Tuple [.Name x px, .Name y py] kt pt] (.Tuple [a, b] k2 pt2) X.env = pure (some [x, y]) := by rfl) (hs : swapsWithSole [.Tuple [.Name x px, .Name y py] kt pt] (.Tuple [a, b] k2 pt2) pos.line X.env = pure false := by rfl)
    (s1 : starEach [a, b] X.env = (false, eval a X.env) :: starEach [b] X.env := by rfl) (s2 : starEach [b] X.env = (false, eval b X.env) :: starEach [] X.env := by rfl) :
    DS Φ X (.Assign [.Tuple [.Name x px, .Name y py] kt pt] (.Tuple [a, b] k2 pt2) pos) (parF i j f g) := PS.imp (ps_par cn.calm cn.nd hi hj hij hx hy (pa_cons ha (pa_cons hb pa_nil s2) s1) hw hs) fun D σ H ⟨ρ, μ, C, os, R, z⟩ => by
  refine ⟨ρ, μ, C, os, R, ?_⟩
  unfold parF bnd at z
  cases e : f ρ μ with
  | no => simp only [e] at z; exact z
  | ex c ns ds ρ1 μ1 => simp only [e] at z; exact fun Cc dx H' C' os' R S g e => z Cc dx σ H' C' os' R S g e
  | ok d1 ρ1 μ1 =>
    simp only [e] at z
    intro v H1 C1 os1 R1 S1 q1
    refine ⟨ρ1, μ1, C1, os1, R1, ?_⟩
    cases e2 : g ρ1 μ1 with
    | no => simp only [e2] at z; exact z
    | ex c ns ds ρ2 μ2 => simp only [e2] at z; exact fun Cc dx H' C' os' R S g e => z Cc dx σ H' C' os' R (S1.trans S) g e
    | ok d2 ρ2 μ2 =>
      simp only [e2] at z
      exact fun p H2 C2 os2 R2 S2 w => ⟨v, .ref p, rfl, z _ _ C2 _ ((R2.setv (t := .sh d1) (q1.step S2)).setv (t := .ow d2) ⟨p, rfl, List.mem_cons_self, w⟩) (S1.trans S2)⟩
end
end L2.DL

/-! DL39: a comprehension's list that a name owns; sorted(set(xs)). -/
namespace L2.DL
open PySem PySem.Spec PyProof.Rows
section
variable {Φ : Ctx} {X : Cx} {a b c e : Expr} {f g : Mo D} {pos : Pos}
/-- a thing under way becomes a name's -/
theorem Rl.ren {ρ : Env} {μ : Sto} {C : List Addr} {os : Os} {σ : L2.St} {H : Hp} {p : Addr} {i : Nat} (R : Rl Φ X ρ μ C os σ H) (hm : (none, p) ∈ os) :
    Rl Φ X ρ μ C ((some i, p) :: noA p os) σ H ∧ Stq (rc Φ X C os H) (rc Φ X C ((some i, p) :: noA p os) H) := by
  have keep : ∀ {j : Nat} {b : Addr}, (some j, b) ∈ os → (some j, b) ∈ noA p os := fun {j b} z => mem_noA.mpr ⟨z, fun e => by
    cases R.own (some j) none p (e ▸ z) hm⟩
  have S : Stq (rc Φ X C os H) (rc Φ X C ((some i, p) :: noA p os) H) := ⟨rfl, rfl, fun b z => by
    rcases z with z | z | ⟨j, z⟩
    · exact .inl (.inl z)
    · exact .inl (.inr (.inl z))
    · rcases List.mem_cons.mp z with e | z
      · cases e
        exact .inl (.inr (.inr ⟨_, hm⟩))
      · exact .inl (.inr (.inr ⟨j, (mem_noA.mp z).1⟩)), ⟨[], by simp [rcK]⟩, fun b o z _ => z⟩
  have own : ∀ {a : Addr} {d : D}, OwnR (rc Φ X C os H) a d → OwnR (rc Φ X C ((some i, p) :: noA p os) H) a d := fun {a d} h => by
    cases d with
    | lst ds => obtain ⟨vs, e, q⟩ := h; exact ⟨vs, e, q.stq S⟩
    | dct ks ds => obtain ⟨kvs, e, e2, q⟩ := h; exact ⟨kvs, e, e2, q.stq S⟩
    | _ => exact h.elim
  have bd : ∀ {a : Addr} {c : Str} {ns : List Str} {ds : List D}, BdR (rc Φ X C os H) a c ns ds → BdR (rc Φ X C ((some i, p) :: noA p os) H) a c ns ds := fun ⟨Cc, dx, fs, h, m, e, q⟩ => ⟨Cc, dx, fs, h, m, e, q.stq S⟩
  refine ⟨⟨R.len, fun j t h => ?_, ⟨R.sto.1, fun n b c h1 h2 => ?_⟩, fun j k b z1 z2 => ?_, fun j b z => ?_, R.pre, R.cfr, R.cnd, R.clv, R.frm, R.alv⟩, S⟩
  · obtain ⟨v, h1, h2⟩ := R.env j t h
    refine ⟨v, h1, ?_⟩
    cases t with
    | sh d => exact Rep.stq S h2
    | ow d => obtain ⟨b, e1, e2, e3⟩ := h2; exact ⟨b, e1, List.mem_cons_of_mem _ (keep e2), own e3⟩
    | bd c ns ds => obtain ⟨b, e1, e2, e3⟩ := h2; exact ⟨b, e1, List.mem_cons_of_mem _ (keep e2), bd e3⟩
    | eh c ns ds => obtain ⟨b, dx, e1, e2, fs, e3, e4, e5, e6⟩ := h2; exact ⟨b, dx, e1, e2, fs, e3, S.na e3 e4, e5, e6.stq S⟩
  · have h := R.sto.2 n b c h1 h2
    cases c with
    | lst ds => obtain ⟨vs, e, q⟩ := h; exact ⟨vs, e, q.stq S⟩
    | dct ks ds => obtain ⟨kvs, e, e2, q⟩ := h; exact ⟨kvs, e, e2, q.stq S⟩
    | ins c ns ds => exact bd h
    | err c ns ds => exact ErR.stq S (fun o e => e) h
  · rcases List.mem_cons.mp z1 with e1 | z1 <;> rcases List.mem_cons.mp z2 with e2 | z2
    · cases e1; cases e2; rfl
    · cases e1; exact ((mem_noA.mp z2).2 rfl).elim
    · cases e2; exact ((mem_noA.mp z1).2 rfl).elim
    · exact R.own j k b (mem_noA.mp z1).1 (mem_noA.mp z2).1
  · rcases List.mem_cons.mp z with e | z
    · cases e; exact R.fre none p hm
    · exact R.fre j b (mem_noA.mp z).1
theorem lc_outF {i : Nat} {own : List Nat} {σ : L2.St} {H1 H : Hp} {C1 C : List Addr} {os1 os : Os} {ρ1 ρ : Env} {μ1 μ : Sto} {p : Addr} {accV : List V} {vs : List D} (R1 : Rl Φ X ρ1 μ1 C1 os1 σ H1) (hp : H1 p = none) (R : Rl Φ X ρ μ C os (wipe σ own) H) (hm : (none, p) ∈ os)
    (hH : H p = some (.lst accV)) (qa : Reps (rc Φ X C os H) accV vs) (S : Stp (rc Φ X C1 os1 H1) (rc Φ X C os H)) :
    Rl Φ X (resD ρ1 ρ own) μ C ((some i, p) :: noA p os) σ H ∧ Stp (rc Φ X C1 os1 H1) (rc Φ X C ((some i, p) :: noA p os) H) ∧ OwnR (rc Φ X C ((some i, p) :: noA p os) H) p (.lst vs) := by
  obtain ⟨R2, S2⟩ := R.ren (i := i) hm
  have S3 : Stp (rc Φ X C1 os1 H1) (rc Φ X C ((some i, p) :: noA p os) H) := ⟨rfl, rfl, fun b z => by
    rcases z with z | z | ⟨j, z⟩
    · exact S.a b (.inl z)
    · exact S.a b (.inr (.inl z))
    · rcases List.mem_cons.mp z with e | z
      · cases e; exact S.a p (.inr (.inr ⟨_, hm⟩))
      · exact S.a b (.inr (.inr ⟨j, (mem_noA.mp z).1⟩)), S.c, S.h, S.l, fun b z => List.mem_cons_of_mem _ (mem_noA.mpr ⟨S.m b z, fun e => by
      obtain ⟨_, _, _, u, e2⟩ := R1.fre none b z
      rw [e, hp] at e2; cases e2⟩), S.n⟩
  exact ⟨R1.unwipe S3 R2, S3, accV, hH, qa.stq S2⟩
theorem PostF.from {i : Nat} {C C1 : List Addr} {os os1 : Os} {σ : St} {H H1 : Hp} {o : O D} {Q : VK} (S : Stp (rc Φ X C os H) (rc Φ X C1 os1 H1)) (h : PostF Φ X i C os σ H o Q) : PostF Φ X i C1 os1 σ H1 o Q := by
  cases o with
  | ok d ρ' μ' => exact fun a H' C' os' R T q => h a H' C' os' R (S.trans T) q
  | ex c ns ds ρ' μ' => exact fun Cc dx H' C' os' R T g e => h Cc dx H' C' os' R (S.trans T) g e
  | no => exact h
theorem lcIF {i : Nat} {U : Vr} {own : List Nat} {fi : Mo (List D)} {gt : D → Mo Unit} {ft : Mo Bool} {fe : Mo D} {σ : L2.St} {H : Hp} {Q : VK} (z : cF Φ X i (lcM own fi gt ft fe) σ H Q) : tLc (cI U Φ X fi) (cGp U Φ.nx X own gt) (cT Φ.nx X ft) (cE Φ.nx X fe) own σ H Q := by
  obtain ⟨ρ, μ, C, os, R, z⟩ := z
  refine ⟨ρ, μ, C, os, R, ?_⟩
  unfold lcM bnd at z
  cases e : fi ρ μ with
  | no => rw [e] at z; exact z.elim
  | ex c ns ds ρ1 μ1 => rw [e] at z; exact z
  | ok ds ρ1 μ1 =>
    rw [e] at z
    intro J H1 C1 os1 R1 S1 hJ p hp
    have z : PostF Φ X i C os σ H (lcAll own gt ft fe ds ρ1 μ1) Q := z
    have z := PostF.from S1 z
    refine lc_run (U := U) (Qd := fun H => Q (.ref p) H) rfl rfl rfl R1 hJ hp ?_
    unfold lcAll at z
    cases e2 : lcGo own gt ft fe ds [] (wipD ρ1 own) μ1 with
    | no => rw [e2] at z; exact z
    | ex c ns es ρ2 μ2 => rw [e2] at z; exact z
    | ok vs ρ2 μ2 =>
      rw [e2] at z
      intro accV H2 C2 os2 R2 hm hH qa S
      obtain ⟨R3, S3, q3⟩ := lc_outF (i := i) R1 hp R2 hm hH qa S
      exact z _ _ _ _ R3 S3 q3
theorem df_lc {i : Nat} {U : Vr} {tg iter : Expr} {ifs : List Expr} {scope : Scope} {own : List (Str × Nat)} {fi : Mo (List D)} {gt : D → Mo Unit} {ft : Mo Bool} {fe : Mo D} {vs : List Nat} {n : Nat} (cn : Cn Φ X n) (ok : BlkOk X.N X.env.scope scope own) (hvs : own.map (·.2) = vs) (hi : DI U Φ X tg iter fi)
    (hg : ∀ (s : Shared) (H : Hp) (C : Addr) (cl : List (Str × Addr)) (fp : List Addr), DGp U Φ.nx (X.blk s H scope (compEnvC scope cl C X.env) fp) vs tg gt) (ht : ∀ (s : Shared) (H : Hp) (C : Addr) (cl : List (Str × Addr)) (fp : List Addr), DTs Φ.nx (X.blk s H scope (compEnvC scope cl C X.env) fp) ifs ft)
    (he : ∀ (s : Shared) (H : Hp) (C : Addr) (cl : List (Str × Addr)) (fp : List Addr), DE Φ.nx (X.blk s H scope (compEnvC scope cl C X.env) fp) e fe) (hs : ∀ x, foldedSetIterable iter X.env x = pure x := by intro _; rfl) :
    DF Φ X i (.ListComp e [⟨tg, iter, ifs, 0⟩] scope pos) (lcM vs fi gt ft fe) := by
  subst hvs
  exact PE.imp (pe_lc (g := cGp U Φ.nx X (own.map fun y : Str × Nat => y.2) gt) (tt := cT Φ.nx X ft) (te := cE Φ.nx X fe) cn.calm cn.nd hi ok hg ht he hs) fun σ H Q z => lcIF z
end
end L2.DL

/-! DL41: a list times a number; <<, >>, &, |. -/
namespace L2.DL
open PySem PySem.Spec PyProof.Rows
def repM {α : Type} (n : Nat) (xs : List α) : List α := (List.replicate n xs).flatten
theorem Reps.repM {r : RC} {vs : List V} {ds : List D} (h : Reps r vs ds) : ∀ n : Nat, Reps r (DL.repM n vs) (DL.repM n ds)
  | 0 => .nil
  | n + 1 => by
    show Reps r ((List.replicate (n + 1) vs).flatten) ((List.replicate (n + 1) ds).flatten)
    rw [List.replicate_succ, List.replicate_succ, List.flatten_cons, List.flatten_cons]
    exact h.append (h.repM n)
def mulL : D → D → Option D
  | .lst a, .int k => if a.length * k.toNat ≤ lineN ∧ 0 ≤ k ∧ k ≤ 1000000 then some (.lst (repM k.toNat a)) else none
  | _, _ => none
def mulX : D → D → Option D := fun x y => (mulD x y).or (mulL x y)
def shlD := iiC powC fun i j => i * 2 ^ j.toNat
def shrD := iiC (fun _ j => decide (0 ≤ j)) fun i j => i / 2 ^ j.toNat
def andD := ii fun i j => Builtin.bitAnd i j
def orD := ii fun i j => Builtin.bitOr i j
section
variable {Φ : Ctx} {X : Cx} {a b : Expr} {f g : Mo D} {pos : Pos}
theorem of_mulL : OpF X rRep mulL := by
  intro q x y d1 d2 d Q _ _ _ h1 h2 e k
  cases d1 <;> cases d2 <;> first
    | (simp only [mulL] at e
       split at e
       · rename_i hl
         cases e
         obtain ⟨a, vs, rfl, ha, qa⟩ := h1.lst
         refine ⟨a, _, vs, rfl, h2.int, ha, by omega, by omega, by rw [qa.length, line_eq]; exact hl.1, fun p n => k p _ n ⟨_, rfl, qa.repM _⟩⟩
       · cases e)
    | cases e
theorem de_mulX (ha : DE Φ X a f) (hb : DB Φ X b g) : DE Φ X (.BinOp a .Mult b pos) (op2 mulX f g) := de_op (op_mulW.or op_rep) (od_mul.or of_mulL.d) ha hb
theorem df_mul {i : Nat} (ha : DE Φ X a f) (hb : DB Φ X b g) : DF Φ X i (.BinOp a .Mult b pos) (op2 mulL f g) := PE.imp (pe_op op_rep ha hb) fun _ _ _ z => run2F of_mulL z
theorem pow_c {i j : Int} (h : powC i j = true) : CPow i j := by
  unfold powC at h
  rw [Bool.and_eq_true, Bool.and_eq_true, decide_eq_true_iff, decide_eq_true_iff, decide_eq_true_iff] at h
  exact ⟨h.1.1, h.1.2, h.2⟩
theorem de_shl (ha : DE Φ X a f) (hb : DB Φ X b g) : DE Φ X (.BinOp a .LShift b pos) (op2 shlD f g) := de_op op_shl (od_iC fun i j h => pow_c h) ha hb
theorem de_shr (ha : DE Φ X a f) (hb : DB Φ X b g) : DE Φ X (.BinOp a .RShift b pos) (op2 shrD f g) := de_op op_shr (od_iC fun i j h => of_decide_eq_true h) ha hb
theorem de_band (ha : DE Φ X a f) (hb : DB Φ X b g) : DE Φ X (.BinOp a .BitAnd b pos) (op2 andD f g) := de_op op_and od_i0 ha hb
theorem de_bor (ha : DE Φ X a f) (hb : DB Φ X b g) : DE Φ X (.BinOp a .BitOr b pos) (op2 orD f g) := de_op op_or od_i0 ha hb
end
end L2.DL

/-! DL42: a name's own list goes over to another one. -/
namespace L2.DL
open PySem PySem.Spec PyProof.Rows
def takM (i : Nat) : Mo D := fun ρ μ => match ρ[i]? with
  | some (some (.ow d)) => .ok d (ρ.set i none) μ
  | _ => .no
section
variable {Φ : Ctx} {X : Cx} {pos : Pos}
theorem Rl.tak {ρ : Env} {μ : Sto} {C : List Addr} {os : Os} {σ : L2.St} {H : Hp} {p : Addr} {i j : Nat} (R : Rl Φ X ρ μ C os σ H) (hm : (some i, p) ∈ os) :
    Rl Φ X (ρ.set i none) μ C ((some j, p) :: noA p os) σ H ∧ Stp (rc Φ X C os H) (rc Φ X C ((some j, p) :: noA p os) H) := by
  have one : ∀ {k : Option Nat}, (k, p) ∈ os → k = some i := fun z => R.own _ _ p z hm
  have keep : ∀ {k : Nat} {b : Addr}, k ≠ i → (some k, b) ∈ os → (some k, b) ∈ noA p os := fun {k b} n z => mem_noA.mpr ⟨z, fun e => by
    cases one (e ▸ z)
    exact n rfl⟩
  have A : ∀ b, AA Φ C ((some j, p) :: noA p os) b → AA Φ C os b := fun b z => by
    rcases z with z | z | ⟨k, z⟩
    · exact .inl z
    · exact .inr (.inl z)
    · rcases List.mem_cons.mp z with e | z
      · cases e
        exact .inr (.inr ⟨_, hm⟩)
      · exact .inr (.inr ⟨k, (mem_noA.mp z).1⟩)
  have T : Stp (rc Φ X C os H) (rc Φ X C ((some j, p) :: noA p os) H) := ⟨rfl, rfl, fun b z => .inl (A b z), ⟨[], by simp [rcK]⟩, fun b o z _ => z, fun b o z => ⟨o, z⟩, fun b z => List.mem_cons_of_mem _ (mem_noA.mpr ⟨z, fun e => by cases one (e ▸ z)⟩), fun b o z _ => z⟩
  have S := T.q
  have own : ∀ {a : Addr} {d : D}, OwnR (rc Φ X C os H) a d → OwnR (rc Φ X C ((some j, p) :: noA p os) H) a d := fun {a d} h => by
    cases d with
    | lst ds => obtain ⟨vs, e, q⟩ := h; exact ⟨vs, e, q.stq S⟩
    | dct ks ds => obtain ⟨kvs, e, e2, q⟩ := h; exact ⟨kvs, e, e2, q.stq S⟩
    | _ => exact h.elim
  have bd : ∀ {a : Addr} {c : Str} {ns : List Str} {ds : List D}, BdR (rc Φ X C os H) a c ns ds → BdR (rc Φ X C ((some j, p) :: noA p os) H) a c ns ds := fun ⟨Cc, dx, fs, h, m, e, q⟩ => ⟨Cc, dx, fs, h, m, e, q.stq S⟩
  refine ⟨⟨by rw [List.length_set]; exact R.len, fun k t h => ?_, ⟨R.sto.1, fun n b c h1 h2 => ?_⟩, fun k l b z1 z2 => ?_, fun k b z => ?_, R.pre, R.cfr, R.cnd, R.clv, R.frm, R.alv⟩, T⟩
  · by_cases hk : k = i
    · subst hk
      by_cases hl : k < ρ.length
      · rw [List.getElem?_set_self hl] at h
        cases h
      · rw [List.getElem?_eq_none (by rw [List.length_set]; omega)] at h
        cases h
    · rw [List.getElem?_set_ne (fun e => hk e.symm)] at h
      obtain ⟨v, h1, h2⟩ := R.env k t h
      refine ⟨v, h1, ?_⟩
      cases t with
      | sh d => exact Rep.stq S h2
      | ow d => obtain ⟨b, e1, e2, e3⟩ := h2; exact ⟨b, e1, List.mem_cons_of_mem _ (keep hk e2), own e3⟩
      | bd c ns ds => obtain ⟨b, e1, e2, e3⟩ := h2; exact ⟨b, e1, List.mem_cons_of_mem _ (keep hk e2), bd e3⟩
      | eh c ns ds => obtain ⟨b, dx, e1, e2, fs, e3, e4, e5, e6⟩ := h2; exact ⟨b, dx, e1, e2, fs, e3, S.na e3 e4, e5, e6.stq S⟩
  · have h := R.sto.2 n b c h1 h2
    cases c with
    | lst ds => obtain ⟨vs, e, q⟩ := h; exact ⟨vs, e, q.stq S⟩
    | dct ks ds => obtain ⟨kvs, e, e2, q⟩ := h; exact ⟨kvs, e, e2, q.stq S⟩
    | ins c ns ds => exact bd h
    | err c ns ds => exact ErR.stq S (fun o e => e) h
  · rcases List.mem_cons.mp z1 with e1 | z1 <;> rcases List.mem_cons.mp z2 with e2 | z2
    · cases e1; cases e2; rfl
    · cases e1; exact ((mem_noA.mp z2).2 rfl).elim
    · cases e2; exact ((mem_noA.mp z1).2 rfl).elim
    · exact R.own k l b (mem_noA.mp z1).1 (mem_noA.mp z2).1
  · rcases List.mem_cons.mp z with e | z
    · cases e; exact R.fre _ p hm
    · exact R.fre k b (mem_noA.mp z).1
theorem df_tak {i j : Nat} {x : Str} (hN : X.N[i]? = some x := by rfl) (hv : Vis X.env.scope x := by first | exact Or.inl rfl | exact Or.inr (Or.inl rfl) | exact Or.inr (Or.inr rfl)) (hd : (x == ("__debug__" : Str)) = false := by decide)
    (hcd : (x == ("__classdict__" : Str)) = false := by decide) : DF Φ X j (.Name x pos) (takM i) := PE.imp (pe_var hN hv hd hcd) fun σ H Q ⟨ρ, μ, C, os, R, q⟩ => by
  unfold takM at q
  cases e : ρ[i]? with
  | none => rw [e] at q; exact q.elim
  | some o =>
    cases o with
    | none => rw [e] at q; exact q.elim
    | some t =>
      cases t with
      | ow d =>
        rw [e] at q
        obtain ⟨v, h1, a, rfl, hm, h2⟩ := R.env i _ e
        obtain ⟨R', S⟩ := R.tak (j := j) hm
        refine ⟨_, h1, q a H C _ R' S ?_⟩
        cases d with
        | lst ds => obtain ⟨vs, e, z⟩ := h2; exact ⟨vs, e, z.step S⟩
        | dct ks ds => obtain ⟨kvs, e, e2, z⟩ := h2; exact ⟨kvs, e, e2, z.step S⟩
        | _ => exact h2.elim
      | _ => rw [e] at q; exact q.elim
theorem takM_ap {i : Nat} {ρ : Env} {μ : Sto} : takM i ρ μ = match ρ[i]? with
  | some (some (.ow d)) => .ok d (ρ.set i none) μ
  | _ => .no := rfl
end
end L2.DL

/-! DL43: x + e, x a name (read in passing). -/
namespace L2.DL
open PySem PySem.Spec PyProof.Rows
section
variable {Φ : Ctx} {X : Cx} {b : Expr} {g : Mo D} {pos p : Pos}
theorem de_addv {i : Nat} {x : Str} (hb : DE Φ X b g) (hN : X.N[i]? = some x := by rfl) (hv : Vis X.env.scope x := by first | exact Or.inl rfl | exact Or.inr (Or.inl rfl) | exact Or.inr (Or.inr rfl)) (hd : (x == ("__debug__" : Str)) = false := by decide)
    (hcd : (x == ("__classdict__" : Str)) = false := by decide) : DE Φ X (.BinOp (.Name x p) .Add b pos) (op2v addD i g) :=
  PE.imp (pe_op (op_add.or (op_add_str.or (op_cat.or op_catX))) (pe_var hN hv hd hcd) hb) fun _ _ _ z => run2v (od_addI.or (od_addS.or (of_addL.d.or od_addT))) z
end
end L2.DL

/-! DL44: a name gets a comprehension's list. -/
namespace L2.DL
open PySem PySem.Spec PyProof.Rows
section
variable {Φ : Ctx} {X : Cx} {e : Expr} {pos : Pos}
theorem ds_setLc {i : Nat} {y : Str} {py spos : Pos} {U : Vr} {tg iter : Expr} {ifs : List Expr} {scope : Scope} {own : List (Str × Nat)} {fi : Mo (List D)} {gt : D → Mo Unit} {ft : Mo Bool} {fe : Mo D} {vs : List Nat} {n : Nat} (cn : Cn Φ X n) (ok : BlkOk X.N X.env.scope scope own) (hvs : own.map (·.2) = vs) (hi : DI U Φ X tg iter fi)
    (hg : ∀ (s : Shared) (H : Hp) (C : Addr) (cl : List (Str × Addr)) (fp : List Addr), DGp U Φ.nx (X.blk s H scope (compEnvC scope cl C X.env) fp) vs tg gt) (ht : ∀ (s : Shared) (H : Hp) (C : Addr) (cl : List (Str × Addr)) (fp : List Addr), DTs Φ.nx (X.blk s H scope (compEnvC scope cl C X.env) fp) ifs ft)
    (he : ∀ (s : Shared) (H : Hp) (C : Addr) (cl : List (Str × Addr)) (fp : List Addr), DE Φ.nx (X.blk s H scope (compEnvC scope cl C X.env) fp) e fe) (hy : X.N[i]? = some y := by rfl) (hyl : X.env.scope.names.lookup y = some .local := by rfl)
    (hsw : swapsWith (.ListComp e [⟨tg, iter, ifs, 0⟩] scope pos) (some (.Name y py)) spos.line X.env = pure true := by rfl) (hs : ∀ x, foldedSetIterable iter X.env x = pure x := by intro _; rfl) :
    DS Φ X (.Assign [.Name y py] (.ListComp e [⟨tg, iter, ifs, 0⟩] scope pos) spos) (setM i (lcM vs fi gt ft fe)) := by
  subst hvs
  exact PS.imp (ps_setLc (g := cGp U Φ.nx X (own.map fun y : Str × Nat => y.2) gt) (tt := cT Φ.nx X ft) (te := cE Φ.nx X fe) cn.calm cn.nd hy hyl hsw hi ok hg ht he hs) fun D σ H ⟨ρ, μ, C, os, R, z⟩ =>
    lcI ⟨ρ, μ, C, os, R, PostS.bndE z fun d ρ1 μ1 v H1 C1 os1 R1 S1 q1 z1 => z1 _ _ C1 os1 (R1.setv (t := .sh d) q1) (Stp.refl _)⟩
theorem ds_setLcF {i : Nat} {y : Str} {py spos : Pos} {U : Vr} {tg iter : Expr} {ifs : List Expr} {scope : Scope} {own : List (Str × Nat)} {fi : Mo (List D)} {gt : D → Mo Unit} {ft : Mo Bool} {fe : Mo D} {vs : List Nat} {n : Nat} (cn : Cn Φ X n) (ok : BlkOk X.N X.env.scope scope own) (hvs : own.map (·.2) = vs) (hi : DI U Φ X tg iter fi)
    (hg : ∀ (s : Shared) (H : Hp) (C : Addr) (cl : List (Str × Addr)) (fp : List Addr), DGp U Φ.nx (X.blk s H scope (compEnvC scope cl C X.env) fp) vs tg gt) (ht : ∀ (s : Shared) (H : Hp) (C : Addr) (cl : List (Str × Addr)) (fp : List Addr), DTs Φ.nx (X.blk s H scope (compEnvC scope cl C X.env) fp) ifs ft)
    (he : ∀ (s : Shared) (H : Hp) (C : Addr) (cl : List (Str × Addr)) (fp : List Addr), DE Φ.nx (X.blk s H scope (compEnvC scope cl C X.env) fp) e fe) (hy : X.N[i]? = some y := by rfl) (hyl : X.env.scope.names.lookup y = some .local := by rfl)
    (hsw : swapsWith (.ListComp e [⟨tg, iter, ifs, 0⟩] scope pos) (some (.Name y py)) spos.line X.env = pure true := by rfl) (hs : ∀ x, foldedSetIterable iter X.env x = pure x := by intro _; rfl) :
    DS Φ X (.Assign [.Name y py] (.ListComp e [⟨tg, iter, ifs, 0⟩] scope pos) spos) (setF i (lcM vs fi gt ft fe)) := by
  subst hvs
  exact PS.imp (ps_setLc (g := cGp U Φ.nx X (own.map fun y : Str × Nat => y.2) gt) (tt := cT Φ.nx X ft) (te := cE Φ.nx X fe) cn.calm cn.nd hy hyl hsw hi ok hg ht he hs) fun D σ H ⟨ρ, μ, C, os, R, z⟩ =>
    lcIF (i := i) ⟨ρ, μ, C, os, R, by
      unfold setF bnd at z
      cases e : lcM (own.map fun y : Str × Nat => y.2) fi gt ft fe ρ μ with
      | no => rw [e] at z; exact z
      | ex c ns ds ρ1 μ1 => rw [e] at z; exact fun Cc dx H' C' os' R S g e => z Cc dx σ H' C' os' R S g e
      | ok d ρ1 μ1 =>
        rw [e] at z
        exact fun a H1 C1 os1 R1 S1 w => z _ _ C1 _ (R1.setv (t := .ow d) ⟨a, rfl, List.mem_cons_self, w⟩) S1⟩
end
end L2.DL

/-! PL1: what a mirror leads to, backward: Wp; loops and comprehensions by what holds at each turn. -/
namespace L2.DL
open PySem PySem.Spec
def Wp {α : Type} (o : O α) (Q : α → Env → Sto → Prop) : Prop := match o with
  | .ok a ρ μ => Q a ρ μ
  | _ => False
/-- a def's answer that is a value -/
def Rw (r : R) (Q : D → Sto → Prop) : Prop := match r with
  | .ok d μ => Q d μ
  | _ => False
section
variable {α β : Type} {ρ : Env} {μ : Sto} {a : α}
theorem Wp_ok {Q : α → Env → Sto → Prop} : Wp (.ok a ρ μ) Q = Q a ρ μ := rfl
theorem Wp.mono {o : O α} {Q Q' : α → Env → Sto → Prop} (h : Wp o Q) (i : ∀ a ρ μ, Q a ρ μ → Q' a ρ μ) : Wp o Q' := by
  cases o with
  | ok a ρ μ => exact i _ _ _ h
  | _ => exact h.elim
theorem Wp.ex {o : O α} {Q : α → Env → Sto → Prop} (h : Wp o Q) : ∃ a ρ μ, o = .ok a ρ μ ∧ Q a ρ μ := by
  cases o with
  | ok a ρ μ => exact ⟨a, ρ, μ, rfl, h⟩
  | _ => exact h.elim
theorem Wp_bo {o : O α} {g : α → Mo β} {Q : β → Env → Sto → Prop} (h : Wp o fun a ρ μ => Wp (g a ρ μ) Q) : Wp (bo o g) Q := by
  cases o with
  | ok a ρ μ => exact h
  | _ => exact h.elim
/-- behind a statement -/
def nxt (g : Mo Fl) (Q : Fl → Env → Sto → Prop) : Fl → Env → Sto → Prop
  | .nx => fun ρ μ => Wp (g ρ μ) Q
  | fl => Q fl
theorem Wp_sq {o : O Fl} {g : Mo Fl} {Q : Fl → Env → Sto → Prop} (h : Wp o (nxt g Q)) : Wp (sq o g) Q := by
  cases o with
  | ok fl ρ μ => cases fl <;> exact h
  | _ => exact h.elim
theorem nxt_nx {g : Mo Fl} {Q : Fl → Env → Sto → Prop} : nxt g Q .nx ρ μ = Wp (g ρ μ) Q := rfl
theorem nxt_rt {g : Mo Fl} {Q : Fl → Env → Sto → Prop} {d : D} : nxt g Q (.rt d) ρ μ = Q (.rt d) ρ μ := rfl
theorem nxt_bk {g : Mo Fl} {Q : Fl → Env → Sto → Prop} : nxt g Q .bk ρ μ = Q .bk ρ μ := rfl
theorem nxt_ct {g : Mo Fl} {Q : Fl → Env → Sto → Prop} : nxt g Q .ct ρ μ = Q .ct ρ μ := rfl
/-- behind a turn -/
def trn (J : Env → Sto → Prop) (Q : Fl → Env → Sto → Prop) : Fl → Env → Sto → Prop
  | .nx => J
  | .ct => J
  | .bk => Q .nx
  | fl => Q fl
theorem trn_nx {J : Env → Sto → Prop} {Q : Fl → Env → Sto → Prop} : trn J Q .nx ρ μ = J ρ μ := rfl
theorem trn_ct {J : Env → Sto → Prop} {Q : Fl → Env → Sto → Prop} : trn J Q .ct ρ μ = J ρ μ := rfl
theorem trn_bk {J : Env → Sto → Prop} {Q : Fl → Env → Sto → Prop} : trn J Q .bk ρ μ = Q .nx ρ μ := rfl
theorem trn_rt {J : Env → Sto → Prop} {Q : Fl → Env → Sto → Prop} {d : D} : trn J Q (.rt d) ρ μ = Q (.rt d) ρ μ := rfl
theorem Wp_for {gt : D → Mo Unit} {body : Mo Fl} {Q : Fl → Env → Sto → Prop} : ∀ {ds : List D} {ρ : Env} {μ : Sto} (I : Nat → Env → Sto → Prop), I 0 ρ μ →
    (∀ (i : Nat) (d : D) (ρ : Env) (μ : Sto), ds[i]? = some d → I i ρ μ → Wp (bo (gt d ρ μ) fun _ => body) (trn (I (i + 1)) Q)) → (∀ ρ μ, I ds.length ρ μ → Q .nx ρ μ) → Wp (forL gt body ds ρ μ) Q
  | [], ρ, μ, I, h0, _, hf => hf ρ μ h0
  | d :: ds, ρ, μ, I, h0, hs, hf => by
    have h1 := hs 0 d ρ μ rfl h0
    rw [forL_cons]
    have key : ∀ (o : O Unit), Wp (bo o fun _ => body) (trn (I 1) Q) → Wp (bo o fun _ ρ μ => fo (body ρ μ) gt body ds) Q := fun o h => by
      cases o with
      | ok u ρ1 μ1 =>
        have h : Wp (body ρ1 μ1) (trn (I 1) Q) := h
        show Wp (fo (body ρ1 μ1) gt body ds) Q
        have ih : ∀ ρ μ, I 1 ρ μ → Wp (forL gt body ds ρ μ) Q := fun ρ μ h => Wp_for (fun i => I (i + 1)) h (fun i d ρ μ e z => hs (i + 1) d ρ μ (by rw [List.getElem?_cons_succ]; exact e) z) (fun ρ μ z => hf ρ μ (by rw [List.length_cons]; exact z))
        cases e : body ρ1 μ1 with
        | ok fl ρ2 μ2 =>
          rw [e] at h
          cases fl with
          | nx => exact ih _ _ h
          | ct => exact ih _ _ h
          | bk => exact h
          | rt d => exact h
          | ro d => exact h
        | ex c ns vs ρ2 μ2 => rw [e] at h; exact h.elim
        | no => rw [e] at h; exact h.elim
      | ex c ns vs ρ1 μ1 => exact h.elim
      | no => exact h.elim
    exact key _ h1
theorem Rw.ex {r : R} {Q : D → Sto → Prop} (h : Rw r Q) : ∃ d μ, r = .ok d μ ∧ Q d μ := by
  cases r with
  | ok d μ => exact ⟨d, μ, rfl, h⟩
  | _ => exact h.elim
/-- behind a def's body -/
def ends (Q : D → Sto → Prop) : Fl → Env → Sto → Prop
  | .nx => fun _ μ => Q .non μ
  | .rt d => fun _ μ => Q d μ
  | _ => fun _ _ => False
theorem ends_nx {Q : D → Sto → Prop} : ends Q .nx ρ μ = Q .non μ := rfl
theorem ends_rt {Q : D → Sto → Prop} {d : D} : ends Q (.rt d) ρ μ = Q d μ := rfl
theorem Rw_ri {o : O Fl} {Q : D → Sto → Prop} (h : Wp o (ends Q)) : Rw (ri o) Q := by
  cases o with
  | ok fl ρ μ => cases fl <;> exact h
  | _ => exact h.elim
theorem Rw_run {p n : Nat} {g : Mo Fl} {ds : List D} {Q : D → Sto → Prop} (hl : ds.length = p) (h : Wp (g (ds.map (fun d => some (Ent.sh d)) ++ List.replicate (n - ds.length) none) μ) (ends Q)) : Rw (runD p n g ds μ) Q := by
  rw [runD_ap hl]
  exact Rw_ri h
/-- a comprehension, turn by turn -/
theorem Wp_lcGo {own : List Nat} {gt : D → Mo Unit} {ft : Mo Bool} {fe : Mo D} {Q : List D → Env → Sto → Prop} : ∀ {ds acc : List D} {ρ : Env} {μ : Sto} (I : Nat → List D → Env → Sto → Prop), I 0 acc ρ μ → acc.length + ds.length < lineN →
    (∀ (i : Nat) (d : D) (acc : List D) (ρ : Env) (μ : Sto), ds[i]? = some d → I i acc ρ μ → Wp (bo (gt d ρ μ) fun _ => ft) fun b ρ2 μ2 => if b then Wp (fe ρ2 μ2) fun v ρ3 μ3 => I (i + 1) (acc ++ [v]) (wipD ρ3 own) μ3 else I (i + 1) acc (wipD ρ2 own) μ2) →
    (∀ acc ρ μ, I ds.length acc ρ μ → Q acc ρ μ) → Wp (lcGo own gt ft fe ds acc ρ μ) Q
  | [], acc, ρ, μ, I, h0, _, _, hf => hf acc ρ μ h0
  | d :: ds, acc, ρ, μ, I, h0, hl, hs, hf => by
    rw [List.length_cons] at hl
    have h1 := hs 0 d acc ρ μ rfl h0
    unfold lcGo
    have ih : ∀ acc' ρ μ, acc'.length ≤ acc.length + 1 → I 1 acc' ρ μ → Wp (lcGo own gt ft fe ds acc' ρ μ) Q := fun acc' ρ μ hk h => Wp_lcGo (fun i => I (i + 1)) h (by omega) (fun i d acc ρ μ e z => hs (i + 1) d acc ρ μ (by rw [List.getElem?_cons_succ]; exact e) z) (fun acc ρ μ z => hf acc ρ μ (by rw [List.length_cons]; exact z))
    cases e1 : gt d ρ μ with
    | ex c ns vs ρ1 μ1 => rw [e1] at h1; exact h1.elim
    | no => rw [e1] at h1; exact h1.elim
    | ok u ρ1 μ1 =>
      rw [e1] at h1
      have h1 : Wp (ft ρ1 μ1) _ := h1
      simp only
      cases e2 : ft ρ1 μ1 with
      | ex c ns vs ρ1 μ1 => rw [e2] at h1; exact h1.elim
      | no => rw [e2] at h1; exact h1.elim
      | ok b ρ2 μ2 =>
        rw [e2] at h1
        cases b with
        | false => exact ih _ _ _ (by omega) h1
        | true =>
          have h1 : Wp (fe ρ2 μ2) _ := h1
          simp only
          cases e3 : fe ρ2 μ2 with
          | ex c ns vs ρ1 μ1 => rw [e3] at h1; exact h1.elim
          | no => rw [e3] at h1; exact h1.elim
          | ok v ρ3 μ3 =>
            rw [e3] at h1
            simp only
            rw [if_pos (by omega)]
            exact ih _ _ _ (by rw [List.length_append, List.length_singleton] <;> omega) h1
/-- items one by one: kept those of t, made into f; nothing else changes -/
theorem lcGo_map {own : List Nat} {gt : D → Mo Unit} {ft : Mo Bool} {fe : Mo D} (t : D → Bool) (f : D → D) (ρ0 : Env) (μ : Sto) : ∀ (ds acc : List D), acc.length + ds.length < lineN →
    (∀ d ∈ ds, ∃ ρ1, gt d ρ0 μ = .ok () ρ1 μ ∧ ∃ ρ2, ft ρ1 μ = .ok (t d) ρ2 μ ∧ if t d then ∃ ρ3, fe ρ2 μ = .ok (f d) ρ3 μ ∧ wipD ρ3 own = ρ0 else wipD ρ2 own = ρ0) →
    lcGo own gt ft fe ds acc ρ0 μ = .ok (acc ++ (ds.filter t).map f) ρ0 μ
  | [], acc, _, _ => by
    show O.ok acc ρ0 μ = _
    rw [List.filter_nil, List.map_nil, List.append_nil]
  | d :: ds, acc, hl, h => by
    rw [List.length_cons] at hl
    obtain ⟨ρ1, e1, ρ2, e2, h3⟩ := h d List.mem_cons_self
    have hr : ∀ d ∈ ds, _ := fun d hd => h d (List.mem_cons_of_mem _ hd)
    unfold lcGo
    simp only [e1, e2]
    cases ht : t d with
    | false =>
      rw [ht] at h3
      have h3 : wipD ρ2 own = ρ0 := h3
      simp only
      rw [h3, lcGo_map t f ρ0 μ ds acc (by omega) hr, List.filter_cons_of_neg (by rw [ht]; decide)]
    | true =>
      rw [ht] at h3
      obtain ⟨ρ3, e3, e4⟩ := h3
      simp only [e3]
      rw [if_pos (by omega), e4, lcGo_map t f ρ0 μ ds (acc ++ [f d]) (by rw [List.length_append, List.length_singleton]; omega) hr, List.filter_cons_of_pos (by rw [ht]), List.map_cons, List.append_assoc]
      rfl
end
end L2.DL

/-! PL2: the later combinators reckoned; operators on values. -/
namespace L2.DL
open PySem PySem.Spec
section
variable {α β : Type} {ρ : Env} {μ : Sto} {f g : Mo D} {fa fk : Mo (List D)} {d : D} {i n m : Nat}
theorem isiM_ap {T : KT} {cs : List Str} {Ts : List Ty} : isiM T cs Ts f ρ μ = bo (f ρ μ) fun d ρ μ => match tyI cs d μ with
  | some t => lift ((isAny T t Ts).map D.bl) ρ μ
  | none => .no := bnd_ap
theorem kwD_ap {ix : List Nat} {dds : List D} : kwD n m ix dds fa fk ρ μ = bo (fa ρ μ) fun ds => bnd fk fun es => if ds.length = n ∧ es.length = m then ret (pick ix (ds ++ (es ++ dds))) else no := bnd_ap
def ni (r : RI) (c : Str) (ρ : Env) : O D := match r with
  | .ok ns vs μ' => .ok (.ins c ns vs) ρ μ'
  | .ex c ns vs μ' => .ex c ns vs ρ μ'
  | .no => .no
theorem newM_ap {c : Str} {G : FnI} : newM c G fa ρ μ = bo (fa ρ μ) fun ds ρ μ => ni (G ds μ) c ρ := by
  unfold newM
  rw [bnd_ap]
  rfl
theorem ni_ok {ns : List Str} {vs : List D} {c : Str} : ni (.ok ns vs μ) c ρ = .ok (.ins c ns vs) ρ μ := rfl
theorem ni_ex {ns : List Str} {vs : List D} {c c' : Str} : ni (.ex c' ns vs μ) c ρ = .ex c' ns vs ρ μ := rfl
theorem mthM_ap {c m : Str} {G : Fn} : mthM c m G f fa ρ μ = bo (f ρ μ) fun d ρ μ => match insOf d μ with
  | some (c', ns, _) => if c' = c ∧ m ∉ ns then calM G (bnd fa fun ds => ret (d :: ds)) ρ μ else .no
  | none => .no := bnd_ap
theorem ownM_ap {T : ST} {out : R → Env → O D} {h : D → Option D} : ownM T out h f ρ μ = bo (f ρ μ) fun d ρ μ => match insOf d μ with
  | some (c, _, _) => (match T.lookup c with
    | some G => out (G [d] μ) ρ
    | none => .no)
  | none => lift (h d) ρ μ := bnd_ap
theorem fldM_ap {T : FT} {x : Str} : fldM T x g ρ μ = bo (g ρ μ) fun d ρ μ => match insOf d μ with
  | some (c, ns, vs) => lift (fldOf T x c ns vs) ρ μ
  | none => .no := bnd_ap
theorem fldV_ap {T : FT} {x : Str} : fldV T x i ρ μ = match ρ[i]? with
  | some (some (.bd c ns vs)) => lift (fldOf T x c ns vs) ρ μ
  | some (some (.sh d)) => (match insOf d μ with
    | some (c, ns, vs) => lift (fldOf T x c ns vs) ρ μ
    | none => .no)
  | _ => .no := rfl
theorem satM_ap {T : FT} {x : Str} : satM T x i g ρ μ = bo (g ρ μ) fun d ρ μ => match ρ[i]? with
  | some (some (.bd c ns vs)) => if setOk T c x ns = true then .ok .nx (ρ.set i (some (.bd c (putD x d ns vs).1 (putD x d ns vs).2))) μ else .no
  | some (some (.sh (.cell n))) => (match μ[n]? with
    | some (.ins c ns vs) => if setOk T c x ns = true then .ok .nx ρ (μ.set n (.ins c (putD x d ns vs).1 (putD x d ns vs).2)) else .no
    | _ => .no)
  | _ => .no := bnd_ap
theorem asgM_ap {gt : D → Mo Unit} : asgM f gt ρ μ = bo (f ρ μ) fun d => bnd (gt d) fun _ => ret .nx := bnd_ap
theorem tupR3_ap : tupR3 fa ρ μ = bo (fa ρ μ) fun ds => lift ((rg3 ds).map D.tup) := bnd_ap
theorem jM_nil {acc : Str} : jM [] acc ρ μ = .ok (.str acc) ρ μ := rfl
theorem jM_cons {fs : List (Mo D)} {acc : Str} : jM (f :: fs) acc ρ μ = bo (f ρ μ) fun d => match d with
    | .str s => if (acc ++ s).length ≤ lineN then jM fs (acc ++ s) else no
    | _ => no := bnd_ap
theorem tgT2 {gs : List D → Mo Unit} {x y : D} : tgT 2 gs (.tup [x, y]) = gs [x, y] := rfl
theorem tgT3 {gs : List D → Mo Unit} {x y z : D} : tgT 3 gs (.tup [x, y, z]) = gs [x, y, z] := rfl
theorem tgCons_ap {gt : D → Mo Unit} {gs : List D → Mo Unit} {ds : List D} : tgCons gt gs (d :: ds) ρ μ = bo (gt d ρ μ) fun _ => gs ds := bnd_ap
theorem tgNil_ap : tgNil [] ρ μ = .ok () ρ μ := rfl
/-- a def's answer, where it is known -/
theorem ri_d {d : D} {e : Env} : ri (.ok (.rt d) e μ) = .ok d μ := rfl
end
/-! ### what data is -/
theorem seqA_l (ds : List D) : (seqD (.lst ds)).or (chrs (.lst ds)) = some ds := rfl
theorem seqA_t (ds : List D) : (seqD (.tup ds)).or (chrs (.tup ds)) = some ds := rfl
theorem seqA_f (ds : List D) : (seqD (.frz ds)).or (chrs (.frz ds)) = some ds := rfl
theorem seqA_s (s : Str) : (seqD (.str s)).or (chrs (.str s)) = some (s.cps.toList.map fun c => D.str ⟨#[c]⟩) := rfl
theorem mkT_ok {ds : List D} (h : ds.length ≤ 1000000) : mkT ds = some (.tup ds) := if_pos (Nat.le_trans h (by decide))
theorem mkL_ok {ds : List D} (h : ds.length ≤ 1000000) : mkL ds = some (.lst ds) := if_pos (Nat.le_trans h (by decide))
theorem add_ll {s t : List D} (h : s.length + t.length ≤ 1000000) : addD (.lst s) (.lst t) = some (.lst (s ++ t)) := by
  rw [addD_lst, if_pos (Nat.le_trans h (by decide))]
theorem add_tt {s t : List D} (h : s.length + t.length ≤ 1000000) : addD (.tup s) (.tup t) = some (.tup (s ++ t)) := by
  rw [addD_tup, if_pos (Nat.le_trans h (by decide))]
theorem add_ss {s t : Str} (h : s.length + t.length ≤ 1000000) : addD (.str s) (.str t) = some (.str (s ++ t)) := by
  rw [addD_str, if_pos (Nat.le_trans h (by decide))]
theorem any_int (k : Int) : ∀ ns : List Int, ((ns.map D.int).any fun d => eqF d (.int k)) = decide (k ∈ ns)
  | [] => by simp
  | n :: ns => by
    have ih := any_int k ns
    rw [List.map_cons, List.any_cons, ih]
    by_cases h : n = k
    · subst h
      simp [eqF]
    · have e : eqF (D.int n) (D.int k) = false := by
        show (n == k) = false
        simpa using h
      rw [e, Bool.false_or]
      have : (k ∈ n :: ns) ↔ k ∈ ns := by
        rw [List.mem_cons]
        exact ⟨fun z => z.elim (fun z => (h z.symm).elim) id, .inr⟩
      simp only [this]
theorem flat_ints (ns : List Int) : (ns.map D.int).all flatD = true := by
  rw [List.all_map, List.all_eq_true]
  exact fun _ _ => rfl
theorem in_ints (k : Int) (ns : List Int) : inD (.int k) (.tup (ns.map D.int)) = some (.bl (decide (k ∈ ns))) := by
  show (inL false (.int k) (ns.map D.int)).or _ = _
  have e : inL false (.int k) (ns.map D.int) = some (.bl (decide (k ∈ ns))) := by
    unfold inL
    rw [if_pos (by rw [flat_ints] <;> rfl), any_int]
    rfl
  rw [e] <;> rfl
theorem nin_ints (k : Int) (ns : List Int) : ninD (.int k) (.tup (ns.map D.int)) = some (.bl (!decide (k ∈ ns))) := by
  show (inL true (.int k) (ns.map D.int)).or _ = _
  have e : inL true (.int k) (ns.map D.int) = some (.bl (!decide (k ∈ ns))) := by
    unfold inL
    rw [if_pos (by rw [flat_ints] <;> rfl), any_int]
    rfl
  rw [e] <;> rfl
theorem in_intsL (k : Int) (ns : List Int) : inD (.int k) (.lst (ns.map D.int)) = some (.bl (decide (k ∈ ns))) := in_ints k ns
theorem nin_intsL (k : Int) (ns : List Int) : ninD (.int k) (.lst (ns.map D.int)) = some (.bl (!decide (k ∈ ns))) := nin_ints k ns
/-! ### sorted -/
theorem srt_l (ns : List Int) : sortedD (.lst (ns.map D.int)) = some (.lst ((srtI ns).map D.int)) := by
  show (intsOf (ns.map D.int)).map _ = _
  rw [intsOf_map] <;> rfl
end L2.DL

/-! PL3: comprehensions of one name, item by item; signs of texts. -/
namespace L2.DL
open PySem PySem.Spec
section
variable {γ : Type} {ρ : Env} {μ : Sto} {i : Nat} {ft : Mo Bool} {fe : Mo D}
theorem lcGo_one (g : γ → D) (t : γ → Bool) (f : γ → D) (ρ0 : Env) : ∀ (xs : List γ) (acc : List D), acc.length + xs.length < lineN →
    (∀ x ∈ xs, ft (ρ0.set i (some (.sh (g x)))) μ = .ok (t x) (ρ0.set i (some (.sh (g x)))) μ ∧ (t x = true → fe (ρ0.set i (some (.sh (g x)))) μ = .ok (f x) (ρ0.set i (some (.sh (g x)))) μ)) →
    lcGo [i] (tgN i) ft fe (xs.map g) acc (ρ0.set i none) μ = .ok (acc ++ (xs.filter t).map f) (ρ0.set i none) μ
  | [], acc, _, _ => by
    show O.ok acc _ μ = _
    rw [List.filter_nil, List.map_nil, List.append_nil]
  | x :: xs, acc, hl, h => by
    rw [List.length_cons] at hl
    obtain ⟨e2, e3⟩ := h x List.mem_cons_self
    have hr : ∀ x ∈ xs, _ := fun x hx => h x (List.mem_cons_of_mem _ hx)
    rw [List.map_cons]
    unfold lcGo
    have e1 : tgN i (g x) (ρ0.set i none) μ = .ok () (ρ0.set i (some (.sh (g x)))) μ := by rw [tgN_ap, List.set_set]
    have e5 : wipD (ρ0.set i (some (.sh (g x)))) [i] = ρ0.set i none := by show (ρ0.set i _).set i none = _; rw [List.set_set]
    simp only [e1, e2]
    cases ht : t x with
    | false =>
      simp only
      rw [e5, lcGo_one g t f ρ0 xs acc (by omega) hr, List.filter_cons_of_neg (by rw [ht]; decide)]
    | true =>
      simp only [e3 ht]
      rw [if_pos (by omega), e5, lcGo_one g t f ρ0 xs (acc ++ [f x]) (by rw [List.length_append, List.length_singleton]; omega) hr, List.filter_cons_of_pos (by rw [ht]), List.map_cons, List.append_assoc]
      rfl
theorem lc1 (g : γ → D) (t : γ → Bool) (f : γ → D) (xs : List γ) (hl : xs.length < lineN)
    (h : ∀ x ∈ xs, ft (ρ.set i (some (.sh (g x)))) μ = .ok (t x) (ρ.set i (some (.sh (g x)))) μ ∧ (t x = true → fe (ρ.set i (some (.sh (g x)))) μ = .ok (f x) (ρ.set i (some (.sh (g x)))) μ)) :
    lcAll [i] (tgN i) ft fe (xs.map g) ρ μ = .ok (.lst ((xs.filter t).map f)) (ρ.set i (shO ρ[i]?)) μ := by
  unfold lcAll
  have e0 : wipD ρ [i] = ρ.set i none := rfl
  rw [e0, lcGo_one g t f ρ xs [] (by rw [List.length_nil]; omega) h]
  show O.ok (D.lst ([] ++ _)) ((ρ.set i none).set i _) μ = _
  rw [List.set_set, List.nil_append]
/-- all items kept -/
theorem lcT (g : γ → D) (f : γ → D) (xs : List γ) (hl : xs.length < lineN) (h : ∀ x ∈ xs, fe (ρ.set i (some (.sh (g x)))) μ = .ok (f x) (ρ.set i (some (.sh (g x)))) μ) :
    lcAll [i] (tgN i) (ret true) fe (xs.map g) ρ μ = .ok (.lst (xs.map f)) (ρ.set i (shO ρ[i]?)) μ := by
  have e := lc1 (ρ := ρ) (μ := μ) (i := i) (ft := ret true) (fe := fe) g (fun _ => true) f xs hl (fun x hx => ⟨rfl, fun _ => h x hx⟩)
  rw [e, List.filter_eq_self.mpr (fun _ _ => rfl)]
end
/-! signs -/
theorem leA_c (a b : Nat) : leA (.str ⟨#[a]⟩) (.str ⟨#[b]⟩) = some (.bl (decide (a ≤ b))) := by
  show some (D.bl (!decide ([b] < [a]))) = _
  congr 2
  by_cases h : a ≤ b
  · rw [decide_eq_true h, decide_eq_false (by rw [List.cons_lt_cons_iff]; rintro (z | ⟨_, z⟩); omega; cases z)] <;> rfl
  · rw [decide_eq_false h, decide_eq_true (by rw [List.cons_lt_cons_iff]; exact .inl (by omega))] <;> rfl
theorem in_c (c : Nat) (z : Str) : inD (.str ⟨#[c]⟩) (.str z) = some (.bl (decide (c ∈ z.cps.toList))) := congrArg (fun b => some (D.bl b)) (PySem.StrLaws.found_one z c)
theorem nin_c (c : Nat) (z : Str) : ninD (.str ⟨#[c]⟩) (.str z) = some (.bl (!decide (c ∈ z.cps.toList))) := congrArg (fun b => some (D.bl (!b))) (PySem.StrLaws.found_one z c)
theorem all_bls {γ : Type} (f : γ → Bool) (xs : List γ) : allD (.lst (xs.map fun x => .bl (f x))) = some (.bl (xs.all f)) := by
  have h : ∀ xs : List γ, blsOf (xs.map fun x => D.bl (f x)) = some (xs.map f) := fun xs => by
    induction xs with
    | nil => rfl
    | cons x xs ih =>
      show (blsOf (xs.map fun x => D.bl (f x))).map (f x :: ·) = _
      rw [ih] <;> rfl
  show (blsOf _).map _ = _
  rw [h]
  show some (D.bl _) = _
  rw [List.all_map] <;> rfl
theorem len_s {s : Str} (h : s.length ≤ lineN) : lenD (.str s) = some (.int s.length) := if_pos h
theorem ix_s {s : Str} {c : Nat} {cs : List Nat} (h : s.length ≤ lineN) (e : s.cps.toList = c :: cs) : ixD (.str s) (.int 0) = some (.str ⟨#[c]⟩) := by
  show (if s.length ≤ lineN then (L2.atI s.cps.toList 0).map _ else none) = _
  rw [if_pos h, e]
  have q : L2.atI (c :: cs) 0 = some c := by
    unfold L2.atI L2.ixN
    rw [if_pos (Int.le_refl 0), if_pos (by rw [List.length_cons]; omega)]
    rfl
  rw [q] <;> rfl
theorem len_cps (s : Str) : s.cps.toList.length = s.length := by rw [Array.length_toList]; rfl
theorem eq_empty (s : Str) : eqQ (.str s) (.str "") = some (.bl (decide (s = ""))) := rfl
theorem str_nil {s : Str} : s = "" ↔ s.cps.toList = [] := by
  constructor
  · intro h; rw [h] <;> rfl
  · intro h
    obtain ⟨⟨l⟩⟩ := s
    have h : l = [] := h
    subst h
    rfl
end L2.DL

/-! PL4: == of flat lists and tuples with empty ones. -/
namespace L2.DL
open PySem PySem.Spec
def flatOk : D → Bool
  | .non | .bl _ | .int _ => true
  | .str s => PyData.strOk s
  | _ => false
theorem flat_dat : ∀ ds : List D, ds.all flatOk = true → areData ds = true ∧ PyData.canLayAll0 (toPs ds) = true ∧ PyData.depthAll (toPs ds) = 0
  | [], _ => ⟨rfl, rfl, rfl⟩
  | d :: ds, h => by
    rw [List.all_cons, Bool.and_eq_true] at h
    obtain ⟨h1, h2, h3⟩ := flat_dat ds h.2
    have e1 : areData (d :: ds) = (isData d && areData ds) := rfl
    have e2 : PyData.canLayAll0 (toPs (d :: ds)) = (PyData.canLay0 (toP d) && PyData.canLayAll0 (toPs ds)) := rfl
    have e3 : PyData.depthAll (toPs (d :: ds)) = max (PyData.depth (toP d)) (PyData.depthAll (toPs ds)) := rfl
    rw [e1, e2, e3, h1, h2, h3]
    cases d with
    | non => exact ⟨rfl, rfl, rfl⟩
    | bl b => exact ⟨rfl, rfl, rfl⟩
    | int i => exact ⟨rfl, rfl, rfl⟩
    | str s => exact ⟨rfl, by rw [Bool.and_true]; exact h.1, rfl⟩
    | _ => cases h.1
theorem shaped_l {ds : List D} (h : ds.all flatOk = true) : SeqAt.shaped (toP (.lst ds)) = true := by
  obtain ⟨_, h2, h3⟩ := flat_dat ds h
  show (PyData.canLayAll0 (toPs ds) && decide (PyData.depthAll (toPs ds) + 1 ≤ 64)) = true
  rw [h2, h3] <;> rfl
theorem shaped_t {ds : List D} (h : ds.all flatOk = true) : SeqAt.shaped (toP (.tup ds)) = true := by
  obtain ⟨_, h2, h3⟩ := flat_dat ds h
  show (PyData.canLayAll0 (toPs ds) && decide (PyData.depthAll (toPs ds) + 1 ≤ 64)) = true
  rw [h2, h3] <;> rfl
theorem dataEq_ln {ds : List D} (h : ds.all flatOk = true) : dataEq (.lst ds) (.lst []) = some ds.isEmpty := by
  have h1 : isData (.lst ds) = true := (flat_dat ds h).1
  unfold dataEq
  rw [h1, shaped_l h, show isData (.lst []) = true from rfl, show SeqAt.shaped (toP (.lst [])) = true from rfl]
  show some (PyData.eqvAll (toPs ds) []) = _
  cases ds <;> rfl
theorem dataEq_tn {ds : List D} (h : ds.all flatOk = true) : dataEq (.tup ds) (.tup []) = some ds.isEmpty := by
  have h1 : isData (.tup ds) = true := (flat_dat ds h).1
  unfold dataEq
  rw [h1, shaped_t h, show isData (.tup []) = true from rfl, show SeqAt.shaped (toP (.tup [])) = true from rfl]
  show some (PyData.eqvAll (toPs ds) []) = _
  cases ds <;> rfl
theorem eq_ln {ds : List D} (h : ds.all flatOk = true) : eqQ (.lst ds) (.lst []) = some (.bl ds.isEmpty) := by
  show ((none : Option D).or ((dataEq _ _).map D.bl)).or _ = _
  rw [dataEq_ln h] <;> rfl
theorem eq_tn {ds : List D} (h : ds.all flatOk = true) : eqQ (.tup ds) (.tup []) = some (.bl ds.isEmpty) := by
  show ((none : Option D).or ((dataEq _ _).map D.bl)).or _ = _
  rw [dataEq_tn h] <;> rfl
theorem ne_ln {ds : List D} (h : ds.all flatOk = true) : neD (.lst ds) (.lst []) = some (.bl (!ds.isEmpty)) := by
  show ((none : Option D).or ((dataEq _ _).map fun b => D.bl (!b))) = _
  rw [dataEq_ln h] <;> rfl
theorem ne_tn {ds : List D} (h : ds.all flatOk = true) : neD (.tup ds) (.tup []) = some (.bl (!ds.isEmpty)) := by
  show ((none : Option D).or ((dataEq _ _).map fun b => D.bl (!b))) = _
  rw [dataEq_tn h] <;> rfl
theorem flat_int (ns : List Int) : (ns.map D.int).all flatOk = true := by
  rw [List.all_map, List.all_eq_true]
  exact fun _ _ => rfl
theorem flat_sgn {cs : List Nat} (h : ∀ c ∈ cs, c < 0x110000) : (cs.map fun c => D.str ⟨#[c]⟩).all flatOk = true := by
  rw [List.all_map, List.all_eq_true]
  intro c hc
  show PyData.strOk ⟨#[c]⟩ = true
  have := h c hc
  simp [PyData.strOk, this]
theorem strOk_mem {s : Str} (h : PyData.strOk s = true) : ∀ c ∈ s.cps.toList, c < 0x110000 := by
  intro c hc
  unfold PyData.strOk at h
  rw [Array.all_eq_true_iff_forall_mem] at h
  simpa using h c (Array.mem_toList_iff.mp hc)
end L2.DL

/-! PL5: an own __init__, reckoned. -/
namespace L2.DL
open PySem PySem.Spec
def rin (c : Str) (o : O Fl) : RI := match o with
  | .ok .nx ρ' μ' => (match (ρ'[0]? : Option (Option Ent)) with
    | some (some (.bd c' ns vs)) => if c' = c then .ok ns vs μ' else .no
    | _ => .no)
  | .ok _ _ _ => .no
  | .ex c ns vs _ μ' => .ex c ns vs μ'
  | .no => .no
theorem runI_ap {c : Str} {p n : Nat} {g : Mo Fl} {ds : List D} {μ : Sto} (hl : ds.length + 1 = p) : runI c p n g ds μ = rin c (g (some (Ent.bd c [] []) :: (ds.map (fun d => some (Ent.sh d)) ++ List.replicate (n - (ds.length + 1)) none)) μ) := by
  unfold runI
  rw [if_pos hl]
  rfl
theorem rin_nx {c : Str} {ns : List Str} {vs : List D} {ρ : Env} {μ : Sto} : rin c (.ok .nx (some (.bd c ns vs) :: ρ) μ) = .ok ns vs μ := if_pos rfl
theorem rin_ex {c c' : Str} {ns : List Str} {vs : List D} {ρ : Env} {μ : Sto} : rin c (.ex c' ns vs ρ μ) = .ex c' ns vs μ := rfl
end L2.DL

/-! DL45: errors as values: C(e, .., k = v, ..) of an own error class. -/
namespace L2.DLX
open PySem Builtin Builtin.ObjectAttr
open Sem (wp)
section
variable {M : Model} {A : Around} {E : Value → Shared → Prop} {h : Heap} {g : Array GenState} {d : Drawn} {t : Nat} {os : OsState}
variable {nm q : Str} {C N : Addr} {bs bm bmB : List Value} {hdct : Bool} {sn : List Str} {sub : List Value} {ab : Bool} {col : Option Bool} {dd : Option Addr} {k0 k1 k2 k3 k5 : Option Value} {B newId initId : String}
theorem star_kw (f sh full short : String) (r : Manifest.Receiver) (n : Nat) (ks : List Str) : Bind.check ⟨.any, f, sh, r, [⟨"args", .varPos, false⟩, ⟨"kwargs", .varKw, false⟩]⟩ full short n ks = pure () := by
  simp [Bind.check, Bind.checkCount, Bind.isPositional]
theorem check_newK (F : ExcBaseFacts B newId initId bmB) (hT : ∀ X : String, bm.contains (.type X) = bmB.contains (.type X)) {rest : List Value} {kw : List (Str × Value)} {Q : Unit → Shared → Prop}
    (hC : h.get? C = some (excClassObj nm q C N bs bm hdct sn sub ab col dd k0 k1 k2 k3 k5 newId)) (hq : Q () ⟨h, g, d, t, os⟩) : wpAny M A (checkBuiltinCall newId ⟨.ref C :: rest, kw⟩) Q E ⟨h, g, d, t, os⟩ := by
  have hcont : (Value.ref C :: bm).contains (.type B) = true := by rw [List.contains_cons, hT, F.hasB, Bool.or_true]
  have hstar := F.noStar
  simp only [checkBuiltinCall, F.newKind, F.newSplit, F.newRow]
  repeat (first | refine wpAny_loadPart_at hC ?_ | (refine wpAny_isSubtype_exc hC ?_; rw [hcont]) | refine wpAny_staticBase_exc hC ?_ | refine wpAny_madeBy_exc hC ?_ | simp only [bne_self_eq_false, Bool.false_eq_true, if_false] | wp_step)
  exact hq
end
section
variable {prog : Program} {w : World} {A : Around} {E : Value → Shared → Prop} {R : Result → Shared → Prop} {h : Heap} {g : Array GenState} {d : Drawn} {t : Nat} {os : OsState}
variable {nm q : Str} {C N : Addr} {bs bm bmB : List Value} {hdct : Bool} {sn : List Str} {sub : List Value} {ab : Bool} {col : Option Bool} {dd : Option Addr} {k0 k1 k2 k3 k5 : Option Value} {B newId initId : String}
theorem new_ownK (F : ExcBaseFacts B newId initId bmB) (hT : ∀ X : String, bm.contains (.type X) = bmB.contains (.type X)) {rest : List Value} {kw : List (Str × Value)}
    (hC : h.get? C = some (excClassObj nm q C N bs bm hdct sn sub ab col dd k0 k1 k2 k3 k5 newId))
    (hq : R (.ok (.ret (.ref (h.objs.size + 1)))) ⟨(h.push (PySem.W.kdv_tup rest)).push (HandSPX.excO C h.objs.size), g, d, t, os⟩) (hrest : rest.length ≤ sizeLine) :
    codeAny (model prog w) A (.builtin newId ⟨.ref C :: rest, kw⟩) R ⟨h, g, d, t, os⟩ := by
  have hends := F.ends
  have hcB : (Value.ref C :: bm).contains (.type B) = true := by rw [List.contains_cons, hT, F.hasB, Bool.or_true]
  have hcA : (Value.ref C :: bm).contains (.type "AttributeError") = false := by rw [List.contains_cons, hT, F.noAttr]; rfl
  have hcN : (Value.ref C :: bm).contains (.type "NameError") = false := by rw [List.contains_cons, hT, F.noName]; rfl
  refine codeAny_builtinAt F.entry ?_
  unfold Builtin.«BaseException.__new__»
  refine wpAt_bind ?_
  show wpAt _ _ _ (stack >>= _) _ _ _
  refine wpAt_bind (wpAt_stack fun p below => wpAt_of_wpAny ?_)
  wp_walk
  refine wpAt_of_wpAny ?_
  rw [F.owner]
  repeat (first | with_reducible refine wpAny_madeHere_exc F.canon hC ?_ | with_reducible refine wpAny_loadPart_at hC ?_ | (with_reducible refine wpAny_isSubtype_exc hC ?_; first | rw [hcB] | rw [hcA] | rw [hcN]) | wp_step)
  show R _ _
  rw [Heap.size_push]
  exact hq
theorem type_call_ownK (F : ExcBaseFacts B newId initId bmB) (hT : ∀ X : String, bm.contains (.type X) = bmB.contains (.type X)) {rest : List Value} {kw : List (Str × Value)} {fI : Addr} {Q : Fin → Shared → Prop}
    (hC : h.get? C = some (excClassObj nm q C N bs bm hdct sn sub ab col dd k0 k1 k2 k3 k5 newId))
    (hi : PySem.W.Looks (model prog w) h (typeLookup (.ref C) "__init__") (some (.ref fI))) (hb : ∀ self, PySem.W.Looks (model prog w) h (bindSpecial (.ref fI) self) (.ref fI, [self])) (hrest : rest.length ≤ sizeLine)
    (hq : codeAny (model prog w) A (.call (.ref fI) ⟨.ref (h.objs.size + 1) :: rest, kw⟩)
      (fun r s' => match r with | .ok (.ret v) => v = .none ∧ Q (.done (.ret (.ref (h.objs.size + 1)))) s' | .ok _ => False | .error e => E e s')
      ⟨(h.push (PySem.W.kdv_tup rest)).push (HandSPX.excO C h.objs.size), g, d, t, os⟩) :
    wpAny (model prog w) A (Builtin.«type.__call__» ⟨.ref C :: rest, kw⟩) Q E ⟨h, g, d, t, os⟩ := by
  repeat (first | with_reducible refine wpAny_loadPart_at hC ?_ | with_reducible refine wpAny_madeBy_exc hC ?_ | wp_step)
  refine codeAny_call_builtin_code (Code.quiet_builtin _ F.quiet) (check_newK F hT hC ?_)
  refine new_ownK F hT hC ?_ hrest
  show wpAny _ _ _ _ _ _
  have k : ∀ b o, h.get? b = some o → ((h.push (PySem.W.kdv_tup rest)).push (HandSPX.excO C h.objs.size)).get? b = some o := fun b o e => Heap.get?_push_of_some _ (Heap.get?_push_of_some _ e)
  have hC₁ := k _ _ hC
  have hget : ((h.push (PySem.W.kdv_tup rest)).push (HandSPX.excO C h.objs.size)).get? (h.objs.size + 1) = some (HandSPX.excO C h.objs.size) := by heap_get
  have hcC : (Value.ref C :: bm).contains (.ref C) = true := by simp
  have i1 := hi.keeps k
  have b1 := (hb (.ref (h.objs.size + 1))).keeps k
  unfold isInstance
  repeat (first | with_reducible refine wpAny_loadPart_at hget ?_ | (with_reducible refine wpAny_isSubtype_exc hC₁ ?_; rw [hcC]) | wp_step)
  show wpAny _ _ (typeLookup (.ref C) _) _ _ _
  refine i1.at ?_
  refine wpAny_holding (wpAny_bind (b1.at ?_))
  refine wpAny_bind (wpAny_call (codeAny_mono hq fun r s' z => ?_))
  rcases r with e | (v | _ | _ | _) <;> first | exact z | exact z.elim | skip
  obtain ⟨rfl, z⟩ := z
  first
    | exact wpAny_pure (wpAny_pure z)
    | (wp_walk; exact z)
theorem check_tcK {M : Model} {rest : List Value} {kw : List (Str × Value)} {Q : Unit → Shared → Prop} (hC : h.get? C = some (excClassObj nm q C N bs bm hdct sn sub ab col dd k0 k1 k2 k3 k5 newId)) (hq : Q () ⟨h, g, d, t, os⟩) :
    wpAny M A (checkBuiltinCall "type.__call__" ⟨.ref C :: rest, kw⟩) Q E ⟨h, g, d, t, os⟩ := by
  have typ : PySem.W.Looks M h (isInstance (.ref C) (.type "type")) true := by
    unfold isInstance
    refine PySem.W.Looks.andThen ((PySem.W.Looks.ld (part := none) hC).andThen .now) (PySem.W.Looks.of_pure ?_)
    exact tc_sub
  exact PySem.W.check_slot tc_kind tc_split typ (PySem.W.tc_args _ _ _) hq
theorem call_ownK (F : ExcBaseFacts B newId initId bmB) (hT : ∀ X : String, bm.contains (.type X) = bmB.contains (.type X)) {rest : List Value} {kw : List (Str × Value)} {fI : Addr}
    (hC : h.get? C = some (excClassObj nm q C N bs bm hdct sn sub ab col dd k0 k1 k2 k3 k5 newId))
    (hi : PySem.W.Looks (model prog w) h (typeLookup (.ref C) "__init__") (some (.ref fI))) (hb : ∀ self, PySem.W.Looks (model prog w) h (bindSpecial (.ref fI) self) (.ref fI, [self])) (hrest : rest.length ≤ sizeLine)
    (hq : codeAny (model prog w) (A.under (.builtin "type.__call__" ⟨.ref C :: rest, kw⟩)) (.call (.ref fI) ⟨.ref (h.objs.size + 1) :: rest, kw⟩) (PySem.W.InitBack (h.objs.size + 1) R)
      ⟨(h.push (PySem.W.kdv_tup rest)).push (HandSPX.excO C h.objs.size), g, d, t, os⟩) :
    codeAny (model prog w) A (.call (.ref C) ⟨rest, kw⟩) R ⟨h, g, d, t, os⟩ := by
  have f1 := tc_lookup
  have f2 := tc_bind (.ref C)
  have hTy : (⟨h, g, d, t, os⟩ : Shared).TypeIs (.ref C) "type" := ⟨_, hC, rfl⟩
  refine codeAny_of_tree ?_
  show wpAny _ _ (callAny (.ref C) _) _ _ _
  repeat (any_goals (first | assumption | with_reducible refine wpAny_loadPart_at hC ?_ | wp_step))
  refine ⟨rfl, ?_⟩
  refine codeAny_call_builtin_at (Code.quiet_builtin _ (by decide +kernel)) entry_typeCall (check_tcK hC (type_call_ownK F hT hC hi hb hrest ?_))
  refine codeAny_mono hq fun r s' z => ?_
  rcases r with e | (v | _ | _ | _) <;> exact z
end
end L2.DLX
namespace L2.DL
open PySem PySem.Spec PyProof.Rows
section
variable {X : Cx} {k n : Nat} {C fI : Addr} {fd : FuncData} {ps ks : List Str} {sp : Sp} {x : Str} {p pos : Pos} {es : List Expr} {kws : List Keyword} {t tk : TA} {g : List Value → List Value → List Value} {gV : List V → List V → List V} {bm0 : List Value} {nw B ini : String}
def tMkE (C : Addr) (n m : Nat) (sp : Sp) (gV : List V → List V → List V) (t tk : TA) : TE := fun σ H Q => t σ H fun vs H1 => tk σ H1 fun zs H2 => vs.length = n ∧ zs.length = m ∧ n ≤ 1000 ∧ ∀ a, H2 a = none →
  sp (gV (.ref a :: vs) zs) (upd H2 a (exo a C none)) (fun v H3 => v = .non ∧ Q (.ref a) H3) (fun _ _ _ => False)
theorem pe_mkE (F : ExcBaseFacts B nw ini bm0) (T : ExC X.K C bm0 nw) (iC : PySem.W.findIn X.K (.ref C) "__init__" = some (some (.ref fI))) (tI : PySem.W.typeIn X.K (.ref fI) = some (.type "function"))
    (F1 : FnOk X.prog X.w X.K X.mg X.base CX0 k fI fd ps sp) (hr : Room (k + 1) X.A) (hg : Gl X x) (hm : X.mg x = some (.ref C)) (hb : KBn X.K fd ps (n + 1) ks g gV)
    (ha : PA X es t) (hkw : PK X kws tk) (hall : (backToKw pos (keywordEach kws X.env)).all (·.1.isSome) = true := by rfl) (hks : (backToKw pos (keywordEach kws X.env)).filterMap (·.1) = ks := by rfl)
    (hdb : (x == ("__debug__" : Str)) = false := by decide) (hpl : ((backTo pos (starEach es X.env)).any (·.1) || (backToKw pos (keywordEach kws X.env)).any (·.1.isNone)) = false := by rfl)
    (he : (es = [] ∧ n = 0) ∨ ∃ e r, es = e :: r ∧ starEach (e :: r) X.env = (false, eval e X.env) :: starEach r X.env := by first | exact .inl ⟨rfl, rfl⟩ | exact .inr ⟨_, _, rfl, rfl⟩) :
    PE X (.Call (.Name x p) es kws pos) (tMkE C n ks.length sp gV t tk) := by
  refine ⟨fun pins s σ H Q I h => wpAny_Call_Name_kw (ld_glob I hg hm ?_ hdb)⟩
  obtain ⟨nm, q, N, bs, bm, sn, sub, ab, col, dd, k0, k1, k2, k3, k5, hC, hbm, _, _⟩ := T.cls
  have go : ∀ {us ws : List Value} {vs zs : List V} {s2 : Shared} {H2 : Hp}, Inv X pins σ H2 s2 → Vals vs us → Vals zs ws → vs.length = n → zs.length = ks.length → n ≤ 1000 →
      (∀ a, H2 a = none → sp (gV (.ref a :: vs) zs) (upd H2 a (exo a C none)) (fun v H3 => v = .non ∧ Q (.ref a) H3) (fun _ _ _ => False)) →
      wpAny (model X.prog X.w) X.A (call (.ref C) us (ks.zip ws)) (EP X pins σ Q) X.xe s2 := by
    intro us ws vs zs s2 H2 I1 r rz l1 l2 ln q
    obtain ⟨hp, gn, dr, tk, ost⟩ := s2
    have hq := q (hp.objs.size + 1) (I1.hok.fresh (Nat.le_succ _))
    have kk : ∀ b o, hp.get? b = some o → ((hp.push (PySem.W.kdv_tup us)).push (PySem.HandSPX.excO C hp.objs.size)).get? b = some o := fun b o e => Heap.get?_push_of_some _ (Heap.get?_push_of_some _ e)
    have hget : ((hp.push (PySem.W.kdv_tup us)).push (PySem.HandSPX.excO C hp.objs.size)).get? (hp.objs.size + 1) = some (PySem.HandSPX.excO C hp.objs.size) := by heap_get
    have I2 : Inv X pins σ (upd H2 (hp.objs.size + 1) (exo (hp.objs.size + 1) C none)) ⟨(hp.push (PySem.W.kdv_tup us)).push (PySem.HandSPX.excO C hp.objs.size), gn, dr, tk, ost⟩ :=
      I1.laid (t' := tk) (a := hp.objs.size + 1) (o := exo (hp.objs.size + 1) C none) (h' := (hp.push (PySem.W.kdv_tup us)).push (PySem.HandSPX.excO C hp.objs.size)) kk (Nat.le_succ _) (exo_ok hget)
    have r1 : Vals (V.ref (hp.objs.size + 1) :: vs) (Value.ref (hp.objs.size + 1) :: us) := .cons rfl r
    have n1 : (Value.ref (hp.objs.size + 1) :: us).length = n + 1 := by rw [List.length_cons, ← r.length, l1]
    have hul : us.length ≤ sizeLine := by rw [← r.length, l1, sizeLine_eq]; omega
    have run := F1.run (X.A.under (.builtin "type.__call__" ⟨.ref C :: us, ks.zip ws⟩)) X.stack _ _ ⟨Value.ref (hp.objs.size + 1) :: us, ks.zip ws⟩ (g (Value.ref (hp.objs.size + 1) :: us) ws) _ _ _ (hr.make C us (ks.zip ws)) (I2.env0.make C us (ks.zip ws))
      (hb.to _ (Value.ref (hp.objs.size + 1) :: us) ws I2.kIn n1 (rz.length.symm.trans l2)) (hb.rel r1 rz) hq
    refine wpAny_call (L2.DLX.call_ownK F hbm (I1.kIn _ _ hC) (PySem.W.looks_findIn I1.kIn iC) (fun self => PySem.W.bind_fn I1.kIn self tI) hul (codeAny_mono run fun o s' ho => ?_))
    cases o with
    | error e => exact False.elim ho
    | ok fl =>
      cases fl with
      | ret u =>
        obtain ⟨v, H', I3, rv, ev, q3⟩ := I2.after ho
        subst ev
        exact ⟨rv, V.ref (hp.objs.size + 1), H', I3, rfl, q3⟩
      | next => exact ho.elim
      | brk => exact ho.elim
      | cont => exact ho.elim
  rcases he with ⟨rfl, hn0⟩ | ⟨e, r0, rfl, he⟩
  · refine PySem.W.callWith_KW0 (h₀ := X.base) I.ok.mod.kin T.kC hall ?_ hpl
    show wpAny (model X.prog X.w) X.A ((spliced (backTo pos (starEach [] X.env))) >>= fun _ => evalAll ((backToKw pos (keywordEach kws X.env)).map (·.2))) _ _ _
    refine wpAny_bind (thn (ha.run pos pins s σ H _ I h) fun us s1 ⟨vs, H1, I1, r, q⟩ => ?_)
    refine thn (hkw.run pos pins s1 σ H1 _ I1 q) fun ws s2 ⟨zs, H2, I2, rz, l1, l2, l3, q2⟩ => ⟨I2.kIn, ?_⟩
    rw [hks]
    have lv : vs.length = 0 := l1.trans hn0
    cases vs with
    | cons _ _ => cases lv
    | nil =>
      cases r
      exact go I2 .nil rz l1 l2 l3 q2
  · refine PySem.W.callWith_KW (h₀ := X.base) I.ok.mod.kin T.kC hall (thn (ha.run pos pins s σ H _ I h) fun us s1 ⟨vs, H1, I1, r, q⟩ => ?_) hpl he
    refine thn (hkw.run pos pins s1 σ H1 _ I1 q) fun ws s2 ⟨zs, H2, I2, rz, l1, l2, l3, q2⟩ => ⟨I2.kIn, ?_⟩
    rw [hks]
    exact go I2 r rz l1 l2 l3 q2
end
/-! ### on trees -/
def errM (c : Str) (L : List (Str × Src)) (n : Nat) (fa : Mo (List D)) : Mo D := bnd fa fun ds ρ μ => if ds.length = n then (match fldD ds L [] [] with
  | some (ns, vs) => .ok (.cell μ.length) ρ (μ ++ [.err c ns vs])
  | none => .no) else .no
/-- the module's error class c: m arguments by place, then the names ks; n parameters in all -/
structure Erv (P : Program) (w : World) (K : PySem.W.Frag) (mg : Str → Option Value) (base : Heap) (c : Str) (k n : Nat) (L : List (Str × Src)) (m : Nat) (ks : List Str) (ix : List Nat) : Prop where
  ex : ∃ (C fI : Addr) (fd : FuncData) (ps : List Str) (bm0 : List Value) (nw B ini : String) (g : List Value → List Value → List Value), mg c = some (.ref C) ∧ ExcBaseFacts B nw ini bm0 ∧ ExC K C bm0 nw ∧ PySem.W.findIn K (.ref C) "__init__" = some (some (.ref fI)) ∧
    PySem.W.typeIn K (.ref fI) = some (.type "function") ∧ FnOk P w K mg base CX0 k fI fd ps (spX C L n) ∧ KBn K fd ps (m + 1) ks g (fun vs zs => vs.take 1 ++ pick ix (vs.drop 1 ++ (zs ++ [])))
section
variable {Φ : Ctx} {X : Cx}
theorem Rl.newC {ρ : Env} {μ : Sto} {C : List Addr} {os : Os} {σ : L2.St} {H H' : Hp} {a : Addr} {c : Cell} (R : Rl Φ X ρ μ C os σ H) (hn : H a = none) (g : Grow H H') (ha : ∃ o, H' a = some o)
    (hc : Stp (rc Φ X C os H) (rc Φ X (C ++ [a]) os H') → CellR (rc Φ X (C ++ [a]) os H') a c) : Rl Φ X ρ (μ ++ [c]) (C ++ [a]) os σ H' ∧ Stp (rc Φ X C os H) (rc Φ X (C ++ [a]) os H') := by
  have lc : C.length = μ.length := R.sto.1
  have S : Stp (rc Φ X C os H) (rc Φ X (C ++ [a]) os H') := ⟨rfl, rfl, fun b z => by
    rcases z with z | z | z
    · exact .inl (.inl z)
    · rcases List.mem_append.mp z with z | z
      · exact .inl (.inr (.inl z))
      · exact .inr (by rw [List.mem_singleton.mp z]; exact hn)
    · exact .inl (.inr (.inr z)), ⟨[a], rfl⟩, fun b o z _ => g b o z, fun b o z => ⟨o, g b o z⟩, fun b z => z, fun b o z _ => g b o z⟩
  have h0 : Φ.H0 a = none := by
    cases e0 : Φ.H0 a with
    | none => rfl
    | some u =>
      have nC : a ∉ C := fun z => by
        obtain ⟨u', e'⟩ := R.clv a z
        rw [hn] at e'; cases e'
      have nM : ¬ Φ.M0 a := fun z => by
        obtain ⟨u', e'⟩ := R.alv a (.inr z)
        rw [hn] at e'; cases e'
      have e := R.frm a u e0 nC nM
      rw [hn] at e; cases e
  refine ⟨⟨R.len, fun j t q => ?_, ⟨?_, fun n b c' h1 h2 => ?_⟩, R.own, fun j b z => ?_, ?_, fun b z => ?_, ?_, fun b z => ?_, fun b u e n1 n2 => ?_, fun b z => ?_⟩, S⟩
  · obtain ⟨v, h1, h2⟩ := R.env j t q
    refine ⟨v, h1, ?_⟩
    cases t with
    | sh d' => exact Rep.step S h2
    | ow d' =>
      obtain ⟨b, e1, e2, e3⟩ := h2
      exact ⟨b, e1, e2, e3.stepH S fun o z => g b o z⟩
    | bd c ns ds =>
      obtain ⟨b, e1, e2, e3⟩ := h2
      exact ⟨b, e1, e2, BdR.stepB S (fun o z => g b o z) e3⟩
    | eh c ns ds =>
      obtain ⟨b, dx, e1, e2, e3⟩ := h2
      exact ⟨b, dx, e1, e2, e3.step S⟩
  · show (C ++ [a]).length = (μ ++ [c]).length
    rw [List.length_append, List.length_append, lc] <;> rfl
  · have h1 : (C ++ [a])[n]? = some b := h1
    by_cases hl : n < C.length
    · rw [List.getElem?_append_left hl] at h1
      rw [List.getElem?_append_left (by rw [← lc]; exact hl)] at h2
      exact (R.sto.2 n b c' h1 h2).stepH S fun o z => g b o z
    · have en : n = C.length := by
        have := (List.getElem?_eq_some_iff.mp h1).1
        rw [List.length_append, List.length_singleton] at this
        omega
      subst en
      rw [List.getElem?_append_right (Nat.le_refl _), Nat.sub_self] at h1
      rw [lc, List.getElem?_append_right (Nat.le_refl _), Nat.sub_self] at h2
      cases h1; cases h2
      exact hc S
  · obtain ⟨g1, g2, g3, u, g4⟩ := R.fre j b z
    refine ⟨g1, fun hC => ?_, g3, u, g b u g4⟩
    rcases List.mem_append.mp hC with y | y
    · exact g2 y
    · rw [List.mem_singleton.mp y, hn] at g4; cases g4
  · obtain ⟨m, e⟩ := R.pre
    exact ⟨m ++ [a], by rw [e, List.append_assoc]⟩
  · rcases List.mem_append.mp z with y | y
    · exact R.cfr b y
    · rw [List.mem_singleton.mp y]
      exact .inr h0
  · refine List.nodup_append.mpr ⟨R.cnd, by simp, fun b hb c hc e => ?_⟩
    rw [List.mem_singleton.mp hc] at e
    obtain ⟨u, e'⟩ := R.clv b hb
    rw [e, hn] at e'; cases e'
  · rcases List.mem_append.mp z with y | y
    · obtain ⟨o, e⟩ := R.clv b y
      exact ⟨o, g b o e⟩
    · rw [List.mem_singleton.mp y]
      exact ha
  · exact g b u (R.frm b u e (fun y => n1 (List.mem_append_left _ y)) n2)
  · obtain ⟨o, e⟩ := R.alv b z
    exact ⟨o, g b o e⟩
variable {x : Str} {p pos : Pos} {es : List Expr} {kws : List Keyword} {fa fk : Mo (List D)} {L : List (Str × Src)}
theorem err_at {c : Str} {n : Nat} {Ca : Addr} {ρ : Env} {μ : Sto} {C : List Addr} {os : Os} {σ : L2.St} {H : Hp} {vs : List V} {ds : List D} {Q : VK} (hm : X.mg c = some (.ref Ca)) (R : Rl Φ X ρ μ C os σ H) (q : Reps (rc Φ X C os H) vs ds)
    (z : PostE Φ X C os σ H ((fun ρ μ => if ds.length = n then (match fldD ds L [] [] with
      | some (ns, vs) => .ok (.cell μ.length) ρ (μ ++ [.err c ns vs])
      | none => .no) else .no : Mo D) ρ μ) Q) {a : Addr} (na : H a = none) :
    spX Ca L n (.ref a :: vs) (upd H a (exo a Ca none)) (fun v H3 => v = .non ∧ Q (.ref a) H3) (fun _ _ _ => False) := by
  by_cases hl : ds.length = n
  · simp only [if_pos hl] at z
    cases e2 : fldD ds L [] [] with
    | none => simp only [e2] at z; exact z.elim
    | some nv =>
      obtain ⟨ns, es'⟩ := nv
      simp only [e2] at z
      obtain ⟨ys, h1, h2, h3⟩ := fld_rep q (fs := []) e2 rfl .nil
      refine ⟨a, vs, ys, rfl, by rw [q.length, hl], h1, upd_same, fun dx hd ne => ⟨rfl, ?_⟩⟩
      have hd1 : H dx = none := by rw [upd_ne ne] at hd; exact hd
      have gr : Grow H (upd (upd (upd H a (exo a Ca none)) dx (exd dx (zzX L ys []))) a (exo a Ca (some dx))) := fun b o e => by
        rw [upd_ne (ne_of_none e na), upd_ne (ne_of_none e hd1), upd_ne (ne_of_none e na)]
        exact e
      have lc : C.length = μ.length := R.sto.1
      obtain ⟨R2, S2⟩ := R.newC (c := .err c ns es') na gr ⟨_, upd_same⟩ fun S => by
        refine ⟨Ca, dx, zzX L ys [], upd_same, by show upd (upd (upd H a (exo a Ca none)) dx (exd dx (zzX L ys []))) a (exo a Ca (some dx)) dx = _; rw [upd_ne ne, upd_same], ?_, hm, h2, h3.step S⟩
        rintro (y | y | y)
        · exact R.fresh hd1 (.inl y)
        · rcases List.mem_append.mp y with y | y
          · exact R.fresh hd1 (.inr (.inl y))
          · exact ne (List.mem_singleton.mp y)
        · exact R.fresh hd1 (.inr (.inr y))
      exact z _ _ _ _ R2 S2 (.cell (by show (C ++ [a])[μ.length]? = some a; rw [← lc, List.getElem?_append_right (Nat.le_refl _)]; simp))
  · simp only [if_neg hl] at z
    exact z.elim
theorem de_err {k j n m : Nat} {ks : List Str} {ix : List Nat} (E : Erv X.prog X.w X.K X.mg X.base x k n L m ks ix) (cc : Cc Φ X j) (ha : DA Φ X es fa) (hw : DK Φ X kws fk) (hg : Gl X x := by rfl) (hj : k + 1 ≤ j := by decide) (hm1 : m ≤ 1000 := by decide)
    (hall : (backToKw pos (keywordEach kws X.env)).all (·.1.isSome) = true := by rfl) (hks : (backToKw pos (keywordEach kws X.env)).filterMap (·.1) = ks := by rfl)
    (hdb : (x == ("__debug__" : Str)) = false := by decide) (hpl : ((backTo pos (starEach es X.env)).any (·.1) || (backToKw pos (keywordEach kws X.env)).any (·.1.isNone)) = false := by rfl)
    (he : (es = [] ∧ m = 0) ∨ ∃ e r, es = e :: r ∧ starEach (e :: r) X.env = (false, eval e X.env) :: starEach r X.env := by first | exact .inl ⟨rfl, rfl⟩ | exact .inr ⟨_, _, rfl, rfl⟩) :
    DE Φ X (.Call (.Name x p) es kws pos) (errM x L n (kwD m ks.length ix [] fa fk)) := by
  obtain ⟨C, fI, fd, ps, bm0, nw, B, ini, g, hm, F, T, iC, tI, F1, hb⟩ := E.ex
  refine PE.imp (pe_mkE F T iC tI F1 (cc.rm.mono hj) hg hm hb ha hw hall hks hdb hpl he) fun σ H Q ⟨ρ, μ, C0, os, R, z⟩ => ⟨ρ, μ, C0, os, R, ?_⟩
  unfold errM kwD bnd at z
  cases e1 : fa ρ μ with
  | no => simp only [e1] at z; exact z
  | ex c ns ds ρ1 μ1 => simp only [e1] at z; exact z
  | ok ds ρ1 μ1 =>
    simp only [e1] at z
    intro vs H1 C1 os1 R1 S1 q1
    refine ⟨ρ1, μ1, C1, os1, R1, ?_⟩
    have z := PostE.from S1 z
    cases e2 : fk ρ1 μ1 with
    | no => simp only [e2] at z; exact z
    | ex c ns ds ρ2 μ2 => simp only [e2] at z; exact z
    | ok es' ρ2 μ2 =>
      simp only [e2] at z
      intro zs H2 C2 os2 R2 S2 q2
      have z := PostE.from S2 z
      by_cases hl : ds.length = m ∧ es'.length = ks.length
      · rw [if_pos hl] at z
        have q3 := pick_reps ((q1.step S2).append (q2.append .nil)) ix
        exact ⟨by rw [q1.length]; exact hl.1, by rw [q2.length]; exact hl.2, hm1, fun a na => err_at hm R2 q3 z na⟩
      · rw [if_neg hl] at z
        exact z.elim
end
end L2.DL

/-! DL46: errors as values: their fields, isinstance, == of one with itself; raise C(). -/
namespace L2.DL
open PySem PySem.Spec PyProof.Rows
/-! ### e.f -/
def tErf (K : PySem.W.Frag) (f : Str) (te : TE) : TE := fun σ H Q => te σ H fun x H1 => ∃ (a C dx : Addr) (fs : List (Str × V)) (v : V), x = .ref a ∧ H1 a = some (exo a C (some dx)) ∧ H1 dx = some (exd dx fs) ∧ XfC K C ∧ PySem.W.findIn K (.ref C) f = some none ∧ fs.lookup f = some v ∧ Q v H1
section
variable {X : Cx} {pins : List (Addr × Obj)} {σ : L2.St} {H : Hp} {s : Shared} {a C dx : Addr} {fs : List (Str × V)} {f : Str} {e : Expr} {te : TE} {pos : Pos}
theorem err_inst (I : Inv X pins σ H s) (ea : H a = some (exo a C (some dx))) (ed : H dx = some (exd dx fs)) : ∃ (ox od : Obj) (mA : Str → Option Value), PySem.W.InstAt s.heap a ox C (some od) ∧ (∀ name, PySem.W.lookIn name od = some (mA name)) ∧ ∀ f, RelO (fs.lookup f) (mA f) := by
  obtain ⟨t1, ho⟩ := exo_at I.hok ea
  obtain ⟨mA, hns, hr⟩ := exd_at I.hok ed
  obtain ⟨od, hod, hl⟩ := lookIn_ns hns
  exact ⟨_, od, mA, ⟨ho, rfl, rfl, hod⟩, hl, hr⟩
theorem pe_erf (he : PE X e te) (hb : attributeBase e f X.env (eval e X.env) = eval e X.env := by rfl) : PE X (.Attribute e f pos) (tErf X.K f te) := by
  refine ⟨fun pins s σ H Q I h => ?_⟩
  refine attr_of hb (thn (he.run pins s σ H _ I h) fun u s1 hh => ?_)
  obtain ⟨x, H1, I1, rx, a, C, dx, fs, v, ex, ea, ed, T, hno, l, q⟩ := hh
  subst ex
  obtain rfl : u = Value.ref a := rx
  obtain ⟨ox, od, mA, J, hl, hr⟩ := err_inst I1 ea ed
  obtain ⟨u, hu, ru⟩ := RelO.some_of (v := v) (o := mA f) (by rw [← l]; exact hr f)
  exact HandSPX.exc_get I1.kIn J T.ga T.gg T.exC (PySem.W.findObj_own T.hdC hno rfl (by rw [hl, hu])) (handed_of ru) ⟨v, H1, I1.tok _, ru, q⟩
end
def errOf (d : D) (μ : Sto) : Option (Str × List Str × List D) := match d with
  | .cell n => (match μ[n]? with
    | some (.err c ns vs) => some (c, ns, vs)
    | _ => none)
  | _ => none
def erfV (cs fs : List Str) (f : Str) (i : Nat) : Mo D := fun ρ μ => match ρ[i]? with
  | some (some (.sh d)) => (match errOf d μ with
    | some (c, ns, vs) => if c ∈ cs ∧ f ∈ fs then lift ((ns.zip vs).lookup f) ρ μ else .no
    | none => .no)
  | _ => .no
section
variable {Φ : Ctx} {X : Cx}
theorem errOf_at {ρ : Env} {μ : Sto} {C : List Addr} {os : Os} {σ : L2.St} {H : Hp} {v : V} {d : D} {c : Str} {ns : List Str} {vs : List D} (R : Rl Φ X ρ μ C os σ H) (q : Rep (rc Φ X C os H) v d) (e : errOf d μ = some (c, ns, vs)) :
    ∃ a, v = .ref a ∧ ErR (rc Φ X C os H) a c ns vs := by
  cases q with
  | @cell a n h =>
    have e : (match μ[n]? with
      | some (.err c ns vs) => some (c, ns, vs)
      | _ => none) = some (c, ns, vs) := e
    split at e
    · rename_i c' ns' vs' hm
      cases e
      exact ⟨a, rfl, R.sto.2 n a _ h hm⟩
    · cases e
  | _ => cases e
theorem de_erf {cs fs : List Str} {i : Nat} {x f : Str} {p pos : Pos} (T : XfT X.K X.mg cs fs) (hN : X.N[i]? = some x := by rfl) (hv : Vis X.env.scope x := by first | exact Or.inl rfl | exact Or.inr (Or.inl rfl) | exact Or.inr (Or.inr rfl))
    (hd : (x == ("__debug__" : Str)) = false := by decide) (hcd : (x == ("__classdict__" : Str)) = false := by decide) (hb : attributeBase (.Name x p) f X.env (eval (.Name x p) X.env) = eval (.Name x p) X.env := by rfl) :
    DE Φ X (.Attribute (.Name x p) f pos) (erfV cs fs f i) := PE.imp (pe_erf (pe_var hN hv hd hcd) hb) fun σ H Q ⟨ρ, μ, C, os, R, z⟩ => by
  unfold erfV at z
  cases e1 : ρ[i]? with
  | none => simp only [e1] at z; exact z.elim
  | some t =>
    cases t with
    | none => simp only [e1] at z; exact z.elim
    | some t =>
      cases t with
      | sh d =>
        simp only [e1] at z
        obtain ⟨v, hv', q⟩ := R.env i _ e1
        cases e2 : errOf d μ with
        | none => simp only [e2] at z; exact z.elim
        | some r =>
          obtain ⟨c, ns, vs⟩ := r
          simp only [e2] at z
          split at z
          · rename_i hc
            obtain ⟨d', e3, k⟩ := lift_ok R z
            obtain ⟨a, rfl, Cc, dx, gs, h1, h2, h3, h4, h5, h6⟩ := errOf_at R q e2
            obtain ⟨t1, t2⟩ := T c hc.1 Cc h4
            obtain ⟨y, y1, y2⟩ := zip_look h5 h6 e3
            exact ⟨.ref a, hv', a, Cc, dx, gs, y, rfl, h1, h2, t1, t2 f hc.2, y1, k y H (Grow.refl _) y2⟩
          · exact z.elim
      | _ => simp only [e1] at z; exact z.elim
end
/-! ### isinstance -/
structure ErC (K : PySem.W.Frag) (C : Addr) : Prop where
  xf : XfC K C
  cl : (PySem.W.clsIn K C).isSome = true
  ac : PySem.W.findIn K (.ref C) "__class__" = some (some (.builtin "object.__class__"))
  gg : PySem.W.specialIn K (.builtin "object.__class__") "__get__" = some (some (.builtin "getset_descriptor.__get__"))
  tk : PySem.W.takesIn K (.builtin "object.__class__") = some true
  ob : PySem.W.mroIn K C (.type "object") = some true
  eq : PySem.W.findIn K (.ref C) "__eq__" = some (some (.builtin "object.__eq__"))
def TyZ (K : PySem.W.Frag) (H : Hp) (x : V) (t : Value) : Prop := TyX K H x t ∨ ∃ (a C dx : Addr) (fs : List (Str × V)), x = .ref a ∧ H a = some (exo a C (some dx)) ∧ H dx = some (exd dx fs) ∧ ErC K C ∧ t = .ref C
section
variable {X : Cx} {pins : List (Addr × Obj)} {σ : L2.St} {H : Hp} {s : Shared}
theorem kit_ofZ {x : V} {u t : Value} (I : Inv X pins σ H s) (rx : RelV x u) (ty : TyZ X.K H x t) : ∃ P : Heap → Prop, PySem.W.KitX X.K u t P ∧ P s.heap ∧ u ≠ .builtin "__main__.__loader__#opaque" := by
  rcases ty with ty | ⟨a, C, dx, fs, rfl, ea, ed, T, rfl⟩
  · exact kit_of I rx ty
  · cases (show u = Value.ref a from rx)
    obtain ⟨ox, od, mA, J, _, _⟩ := err_inst I ea ed
    exact ⟨_, PySem.W.kitx_exc T.cl T.xf.ga T.xf.gg T.xf.exC T.ac T.gg T.tk T.ob, J, fun z => nomatch z⟩
def rIsiZ (K : PySem.W.Frag) : List V → Hp → VK → Prop := fun xs H Q => ∃ (x c : V) (t u : Value) (b : Bool), xs = [x, c] ∧ ClsV c u ∧ TyZ K H x t ∧ PySem.W.kitOne K t u = some b ∧ Q (.bl b) H
def rIsiTZ (K : PySem.W.Frag) : List V → Hp → VK → Prop := fun xs H Q => ∃ (x : V) (tp : Addr) (cs : List V) (t : Value) (us : List Value) (b : Bool), xs = [x, .ref tp] ∧ H tp = some (.tup cs) ∧ Paired ClsV cs us ∧ TyZ K H x t ∧ PySem.W.kitAny K t us = some b ∧ Q (.bl b) H
theorem call_isiZ : CallR X (.builtin "isinstance") (rIsiZ X.K) := by
  intro pins s σ H xs us Q I r h
  obtain ⟨x, c, t, u, b, rfl, k, ty, e, q⟩ := h
  obtain ⟨u1, u2, rfl, r1, r2⟩ := vals2 r
  have e2 := k.eq r2
  subst e2
  obtain ⟨P, Z, p, hx⟩ := kit_ofZ I r1 ty
  exact PySem.W.kia_one Z I.kIn p e hx fun tk => ⟨.bl b, H, I.tok tk, rfl, q⟩
theorem call_isiTZ : CallR X (.builtin "isinstance") (rIsiTZ X.K) := by
  intro pins s σ H xs us Q I r h
  obtain ⟨x, tp, cs, t, ws, b, rfl, hT, k, ty, e, q⟩ := h
  obtain ⟨u1, u2, rfl, r1, r2⟩ := vals2 r
  cases (show u2 = Value.ref tp from r2)
  obtain ⟨P, Z, p, hx⟩ := kit_ofZ I r1 ty
  obtain ⟨_, its, rv, o, h1, h2, n, h3⟩ := (show ObjOk X.prog X.w H s.heap tp (.tup cs) from I.hok tp _ hT)
  have e3 := ClsV.all k rv
  subst e3
  obtain ⟨oc, od, dt, sl⟩ := o
  simp only at h2 h3
  subst h2 h3
  exact PySem.W.kia_tup Z I.kIn p h1 e hx fun tk => ⟨.bl b, H, I.tok tk, rfl, q⟩
end
/-- the error classes, each with all that it is -/
abbrev ET := List (Str × List Ty)
def TyW (mg : Str → Option Value) : Ty → Value → Prop
  | .b s, u => u = .type s
  | .o c, u => ∃ C, mg c = some (.ref C) ∧ u = .ref C
theorem TyV.w {mg : Str → Option Value} {t : Ty} {u : Value} (h : TyV mg t u) : TyW mg t u := by
  cases t with
  | b s => exact h.2
  | o c => exact h
def EtOk (K : PySem.W.Frag) (mg : Str → Option Value) (E : ET) (tg : List Ty) : Prop := ∀ c as, E.lookup c = some as → ∀ Cc, mg c = some (.ref Cc) → ErC K Cc ∧ ∀ t ∈ tg, ∀ v, TyW mg t v → PySem.W.kitOne K (.ref Cc) v = some (decide (t ∈ as))
def errK (E : ET) (tg : List Ty) (c : Str) (Ts : List Ty) : Option Bool := match E.lookup c with
  | some as => if Ts.all (fun t => decide (t ∈ tg)) = true then some (Ts.any fun t => decide (t ∈ as)) else none
  | none => none
def isiX (T : KT) (E : ET) (tg : List Ty) (cs : List Str) (Ts : List Ty) (f : Mo D) : Mo D := bnd f fun d ρ μ => match errOf d μ with
  | some (c, _, _) => lift ((errK E tg c Ts).map D.bl) ρ μ
  | none => match tyI cs d μ with
    | some t => lift ((isAny T t Ts).map D.bl) ρ μ
    | none => .no
def isiE (E : ET) (tg : List Ty) (t : Ty) (f : Mo D) : Mo D := bnd f fun d ρ μ => match errOf d μ with
  | some (c, _, _) => lift ((errK E tg c [t]).map D.bl) ρ μ
  | none => .no
structure TyF (X : Cx) (e : Expr) (t : Ty) : Prop where
  ex : ∃ v u, PE X e (tC v) ∧ ClsV v u ∧ TyW X.mg t u
section
variable {Φ : Ctx} {X : Cx} {e e2 e3 : Expr} {f : Mo D} {p p2 p4 pos : Pos} {x : Str} {E : ET} {tg : List Ty} {T : KT} {cs : List Str} {t1 t2 : Ty}
theorem tyf_b {s : String} (hm : X.mg x = none) (hv : bootBuiltins x = some (.type s) := by decide +kernel) (hg : Gl X x := by rfl) (hn : x ≠ "__name__" := by decide) (hd : (x == ("__debug__" : Str)) = false := by decide) : TyF X (.Name x p) (.b s) :=
  ⟨.ty s, .type s, pe_bltn (v := .ty s) hg hm hv rfl hn hd, .ty s, rfl⟩
theorem tyf_o (hm : ∃ C, X.mg x = some (.ref C)) (hg : Gl X x := by rfl) (hd : (x == ("__debug__" : Str)) = false := by decide) : TyF X (.Name x p) (.o x) := by
  obtain ⟨C, hm⟩ := hm
  exact ⟨.ref C, .ref C, pe_glob (v := .ref C) hg hm rfl hd, .own C, C, hm, rfl⟩
theorem tyz_at {ρ : Env} {μ : Sto} {C : List Addr} {os : Os} {σ : L2.St} {H : Hp} {v : V} {d : D} {c : Str} {ns : List Str} {vs : List D} {as : List Ty} (hE : EtOk X.K X.mg E tg) (R : Rl Φ X ρ μ C os σ H) (q : Rep (rc Φ X C os H) v d) (e : errOf d μ = some (c, ns, vs)) (l : E.lookup c = some as) :
    ∃ Cc, TyZ X.K H v (.ref Cc) ∧ ∀ t ∈ tg, ∀ v, TyW X.mg t v → PySem.W.kitOne X.K (.ref Cc) v = some (decide (t ∈ as)) := by
  obtain ⟨a, rfl, Cc, dx, gs, h1, h2, h3, h4, h5, h6⟩ := errOf_at R q e
  obtain ⟨z1, z2⟩ := hE c as l Cc h4
  exact ⟨Cc, .inr ⟨a, Cc, dx, gs, rfl, h1, h2, z1, rfl⟩, z2⟩
theorem errAny {K : PySem.W.Frag} {mg : Str → Option Value} {Cc : Addr} {as : List Ty} (h : ∀ t ∈ tg, ∀ v, TyW mg t v → PySem.W.kitOne K (.ref Cc) v = some (decide (t ∈ as))) : ∀ {ss : List Ty} {vs : List Value}, Paired (TyW mg) ss vs → ss.all (fun t => decide (t ∈ tg)) = true →
    PySem.W.kitAny K (.ref Cc) vs = some (ss.any fun t => decide (t ∈ as)) := by
  intro ss vs p
  induction p with
  | nil => intro _; rfl
  | @cons s v ss vs h2 _ ih =>
    intro e
    rw [List.all_cons, Bool.and_eq_true] at e
    have e1 := h s (of_decide_eq_true e.1) v h2
    rw [List.any_cons]
    refine kitAny_cons e1 (fun z => ?_) (fun z => ?_)
    · rw [z, Bool.false_or]; exact ih e.2
    · rw [z, Bool.true_or]
theorem de_isX (hT : KtOk X.K X.mg T) (hO : OcOk X.K X.mg cs) (hE : EtOk X.K X.mg E tg) (hm : X.mg "isinstance" = none) (ha : DE Φ X e f) (h : TyE X e2 t1) (hg : Gl X "isinstance" := by rfl) (hv : bootBuiltins "isinstance" = some (.builtin "isinstance") := by decide +kernel)
    (h1 : starEach [e, e2] X.env = (false, eval e X.env) :: starEach [e2] X.env := by rfl) (h2 : starEach [e2] X.env = (false, eval e2 X.env) :: starEach [] X.env := by rfl) (hpl : (backTo pos (starEach [e2] X.env)).any (·.1) = false := by rfl) :
    DE Φ X (.Call (.Name "isinstance" p) [e, e2] [] pos) (isiX T E tg cs [t1] f) := by
  obtain ⟨v, u, pv, cv, tv⟩ := h.ex
  refine PE.imp (pe_callB call_isiZ hg hm hv (pa_cons ha (pa_cons pv pa_nil h2) h1) (by decide) (by decide) h1 hpl) fun σ H Q ⟨ρ, μ, C, os, R, z⟩ => ⟨ρ, μ, C, os, R, PostE.bnd z fun d ρ1 μ1 x H1 C1 os1 R1 S1 q1 z1 => ?_⟩
  cases er : errOf d μ1 with
  | some r =>
    obtain ⟨c, ns, vs⟩ := r
    simp only [er] at z1
    obtain ⟨d2, e1, k⟩ := lift_ok R1 z1
    obtain ⟨b, e3, rfl⟩ := Option.map_eq_some_iff.mp e1
    unfold errK at e3
    cases l : E.lookup c with
    | none => simp only [l] at e3; cases e3
    | some as =>
      simp only [l] at e3
      split at e3
      · rename_i hall
        cases e3
        obtain ⟨Cc, z2, z3⟩ := tyz_at hE R1 q1 er l
        have ht : t1 ∈ tg := by simpa using hall
        exact ⟨x, v, _, u, _, rfl, cv, z2, z3 t1 ht u tv.w, k _ _ (Grow.refl _) (by simpa using (Rep.bl (decide (t1 ∈ as))))⟩
      · cases e3
  | none =>
    simp only [er] at z1
    cases e0 : tyI cs d μ1 with
    | none => simp only [e0] at z1; exact z1.elim
    | some t =>
      simp only [e0] at z1
      obtain ⟨d2, e1, k⟩ := lift_ok R1 z1
      obtain ⟨b, e3, rfl⟩ := Option.map_eq_some_iff.mp e1
      obtain ⟨w, w1, w2⟩ := ty_at hO R1 q1 e0
      exact ⟨x, v, w, u, b, rfl, cv, .inl w1, isK_ok hT (isAny_one e3) w2 tv, k _ _ (Grow.refl _) (.bl b)⟩
theorem de_isE (hE : EtOk X.K X.mg E tg) (hm : X.mg "isinstance" = none) (ha : DE Φ X e f) (h : TyF X e2 t1) (hg : Gl X "isinstance" := by rfl) (hv : bootBuiltins "isinstance" = some (.builtin "isinstance") := by decide +kernel)
    (h1 : starEach [e, e2] X.env = (false, eval e X.env) :: starEach [e2] X.env := by rfl) (h2 : starEach [e2] X.env = (false, eval e2 X.env) :: starEach [] X.env := by rfl) (hpl : (backTo pos (starEach [e2] X.env)).any (·.1) = false := by rfl) :
    DE Φ X (.Call (.Name "isinstance" p) [e, e2] [] pos) (isiE E tg t1 f) := by
  obtain ⟨v, u, pv, cv, tv⟩ := h.ex
  refine PE.imp (pe_callB call_isiZ hg hm hv (pa_cons ha (pa_cons pv pa_nil h2) h1) (by decide) (by decide) h1 hpl) fun σ H Q ⟨ρ, μ, C, os, R, z⟩ => ⟨ρ, μ, C, os, R, PostE.bnd z fun d ρ1 μ1 x H1 C1 os1 R1 S1 q1 z1 => ?_⟩
  cases er : errOf d μ1 with
  | none => simp only [er] at z1; exact z1.elim
  | some r =>
    obtain ⟨c, ns, vs⟩ := r
    simp only [er] at z1
    obtain ⟨d2, e1, k⟩ := lift_ok R1 z1
    obtain ⟨b, e3, rfl⟩ := Option.map_eq_some_iff.mp e1
    unfold errK at e3
    cases l : E.lookup c with
    | none => simp only [l] at e3; cases e3
    | some as =>
      simp only [l] at e3
      split at e3
      · rename_i hall
        cases e3
        obtain ⟨Cc, z2, z3⟩ := tyz_at hE R1 q1 er l
        have ht : t1 ∈ tg := by simpa using hall
        exact ⟨x, v, _, u, _, rfl, cv, z2, z3 t1 ht u tv, k _ _ (Grow.refl _) (by simpa using (Rep.bl (decide (t1 ∈ as))))⟩
      · cases e3
theorem de_isX2 {n : Nat} (hT : KtOk X.K X.mg T) (hO : OcOk X.K X.mg cs) (hE : EtOk X.K X.mg E tg) (hm : X.mg "isinstance" = none) (ha : DE Φ X e f) (h : TyE X e2 t1) (h' : TyE X e3 t2) (hg : Gl X "isinstance" := by rfl) (hv : bootBuiltins "isinstance" = some (.builtin "isinstance") := by decide +kernel)
    (h1 : starEach [e, .Tuple [e2, e3] n p4] X.env = (false, eval e X.env) :: starEach [.Tuple [e2, e3] n p4] X.env := by rfl) (h2 : starEach [.Tuple [e2, e3] n p4] X.env = (false, eval (.Tuple [e2, e3] n p4) X.env) :: starEach [] X.env := by rfl)
    (h3 : starEach [e2, e3] X.env = (false, eval e2 X.env) :: starEach [e3] X.env := by rfl) (h4 : starEach [e3] X.env = (false, eval e3 X.env) :: starEach [] X.env := by rfl)
    (hpl : (backTo pos (starEach [.Tuple [e2, e3] n p4] X.env)).any (·.1) = false := by rfl) :
    DE Φ X (.Call (.Name "isinstance" p) [e, .Tuple [e2, e3] n p4] [] pos) (isiX T E tg cs [t1, t2] f) := by
  obtain ⟨v, u, pv, cv, tv⟩ := h.ex
  obtain ⟨v', u', pv', cv', tv'⟩ := h'.ex
  refine PE.imp (pe_callB call_isiTZ hg hm hv (pa_cons ha (pa_cons (pe_tup (pa_cons pv (pa_cons pv' pa_nil h4) h3)) pa_nil h2) h1) (by decide) (by decide) h1 hpl) fun σ H Q ⟨ρ, μ, C, os, R, z⟩ => ⟨ρ, μ, C, os, R, PostE.bnd z fun d ρ1 μ1 x H1 C1 os1 R1 S1 q1 z1 => ?_⟩
  cases er : errOf d μ1 with
  | some r =>
    obtain ⟨c, ns, vs⟩ := r
    simp only [er] at z1
    obtain ⟨d2, e1, k⟩ := lift_ok R1 z1
    obtain ⟨b, e3, rfl⟩ := Option.map_eq_some_iff.mp e1
    unfold errK at e3
    cases l : E.lookup c with
    | none => simp only [l] at e3; cases e3
    | some as =>
      simp only [l] at e3
      split at e3
      · rename_i hall
        cases e3
        refine ⟨by show 2 ≤ sizeLine; decide, fun tp n => ?_⟩
        have g := Grow.upd (o := .tup [v, v']) n
        obtain ⟨Cc, z2, z3⟩ := tyz_at hE (R1.grow g) (q1.step (stp_grow g)) er l
        exact ⟨x, tp, [v, v'], _, [u, u'], _, rfl, upd_same, .cons cv (.cons cv' .nil), z2, errAny z3 (.cons tv.w (.cons tv'.w .nil)) hall, k _ _ g (.bl _)⟩
      · cases e3
  | none =>
    simp only [er] at z1
    cases e0 : tyI cs d μ1 with
    | none => simp only [e0] at z1; exact z1.elim
    | some t =>
      simp only [e0] at z1
      obtain ⟨d2, e1, k⟩ := lift_ok R1 z1
      obtain ⟨b, e3, rfl⟩ := Option.map_eq_some_iff.mp e1
      refine ⟨by show 2 ≤ sizeLine; decide, fun tp n => ?_⟩
      have g := Grow.upd (o := .tup [v, v']) n
      obtain ⟨w, w1, w2⟩ := ty_at hO (R1.grow g) (q1.step (stp_grow g)) e0
      exact ⟨x, tp, [v, v'], w, [u, u'], b, rfl, upd_same, .cons cv (.cons cv' .nil), .inl w1, isAny_ok hT w2 (.cons tv (.cons tv' .nil)) e3, k _ _ g (.bl b)⟩
end
/-! ### one error == itself -/
section
variable {prog : Program} {w : World} {A : Around} {E : Value → Shared → Prop} {s : Shared} {K : PySem.W.Frag} {x C : Addr} {ox : Obj} {od : Option Obj}
theorem err_self (hu : A.units < cLine) (X : K.In s.heap) (I : PySem.W.InstAt s.heap x ox C od) (he : PySem.W.findIn K (.ref C) "__eq__" = some (some (.builtin "object.__eq__"))) (hm : PySem.W.mroIn K C (.type "object") = some true) {Q : Value → Shared → Prop} (hq : Q (.bool true) s) :
    wpAny (model prog w) A (richCompare .Eq (.ref x) (.ref x)) Q E s := by
  obtain ⟨hp, g, d, t, os⟩ := s
  have L0 := I.type (M := model prog w)
  have L1 := PySem.W.looks_findIn (M := model prog w) X he
  have sub : PySem.W.Looks (model prog w) hp (isInstance (.ref x) (.type "object")) true := L0.andThen (PySem.W.looks_mroIn X hm)
  simp only [richCompare, cmpInfo_Eq, oneThing_ref]
  refine wpAny_holding (wpAny_bind (wpAny_cRoomFor hu ?_))
  refine wpAny_bind (L0.at (wpAny_bind (L0.at ?_)))
  rw [if_neg (by simp)]
  refine wpAny_bind (wpAny_pure ?_)
  rw [if_neg (by decide)]
  refine wpAny_bind ?_
  unfold tryCompare
  refine wpAny_bind ?_
  simp only [callSpecialIfBound?, bindSpecialIfBound?]
  refine wpAny_holding (wpAny_bind (wpAny_bind ?_))
  unfold specialOf
  refine wpAny_bind (L0.at (L1.at ?_))
  simp only [PySem.F.cmp_object.eq.bind]
  refine wpAny_bind (wpAny_askSetting (wpAny_ite ?_))
  have fin : ∀ {Q' : Option Value → Shared → Prop} {E' : Value → Shared → Prop}, Q' (some (.bool true)) ⟨hp, g, d, t, os⟩ → wpAny (model prog w) A (call (.builtin "object.__eq__") ([.ref x] ++ [.ref x]) >>= fun v => pure (some v)) Q' E' ⟨hp, g, d, t, os⟩ := fun hq =>
    wpAny_bind (wpAny_call (codeAny_call_builtin PySem.F.cmp_object.eq.plain PySem.F.cmpEntry_eq (PySem.W.check_slot PySem.F.cmpKind_eq PySem.F.cmpSplit_eq sub (PySem.F.cmpArgs_eq _ _) (objEq_entry_same (wpAny_pure hq)))))
  split
  · exact wpAny_bind (wpAny_pure (wpAny_pure (fin (wpAny_pure (wpAny_pure hq)))))
  · exact wpAny_tryCatch (wpAny_bind (wpAny_pure (wpAny_pure (fin (wpAny_pure (wpAny_pure hq))))))
end
end L2.DL

/-! DL47: errors as values: raise C(), x == y of two names, tables of error classes. -/
namespace L2.DL
open PySem PySem.Spec PyProof.Rows
/-! ### raise C() -/
def tMkX0 (C : Addr) (L : List (Str × Src)) : L2.St → Hp → XK → Prop := fun σ H Q => ∃ ys, L.map (fun p => p.2.arg []) = ys.map some ∧ ∀ dx, H dx = none → Q (.ref C) (some dx) (upd H dx (.xd (zzX L ys [])))
section
variable {X : Cx} {p pos : Pos} {bm0 : List Value} {nw B ini : String}
theorem pmk_x0 {x : Str} {C fI : Addr} {k : Nat} {fd : FuncData} {ps : List Str} {L : List (Str × Src)} (F : ExcBaseFacts B nw ini bm0) (T : ExC X.K C bm0 nw) (iC : PySem.W.findIn X.K (.ref C) "__init__" = some (some (.ref fI)))
    (tI : PySem.W.typeIn X.K (.ref fI) = some (.type "function")) (F1 : FnOk X.prog X.w X.K X.mg X.base CX0 k fI fd ps (spX C L 0)) (hr : Room (k + 1) X.A) (hb : Binds X.K fd ps []) (hg : Gl X x) (hm : X.mg x = some (.ref C))
    (hdb : (x == ("__debug__" : Str)) = false := by decide) (hall : (backToKw pos (keywordEach [] X.env)).all (·.1.isSome) = true := by rfl) (hks : (backToKw pos (keywordEach [] X.env)).filterMap (·.1) = [] := by rfl)
    (hpl : ((backTo pos (starEach [] X.env)).any (·.1) || (backToKw pos (keywordEach [] X.env)).any (·.1.isNone)) = false := by rfl) :
    PMk X (.Call (.Name x p) [] [] pos) (tMkX0 C L) := by
  intro pins s σ H Q I h
  obtain ⟨ys, hy, q1⟩ := h
  obtain ⟨nm, q, N, bs, bm, sn, sub, ab, col, dd, k0, k1, k2, k3, k5, hC, hbm, _, _⟩ := T.cls
  refine wpAny_Call_Name_kw (ld_glob I hg hm ?_ hdb)
  refine PySem.W.callWith_KW0 (h₀ := X.base) I.ok.mod.kin T.kC hall ?_ hpl
  show wpAny (model X.prog X.w) X.A ((spliced (backTo pos (starEach [] X.env))) >>= fun _ => evalAll ((backToKw pos (keywordEach [] X.env)).map (·.2))) _ _ _
  refine wpAny_bind (thn ((pa_nil (X := X)).run pos pins s σ H (fun vs H1 => vs = [] ∧ H1 = H) I ⟨rfl, rfl⟩) fun us s1 ⟨vs, H1, I1, r, ev, eH⟩ => ?_)
  subst ev eH
  cases r
  refine thn ((pk_nil (X := X)).run pos pins s1 σ H1 (fun vs H2 => vs = [] ∧ H2 = H1) I1 ⟨rfl, rfl⟩) fun ws s2 ⟨zs, H2, I2, rz, ez, eH⟩ => ⟨I2.kIn, ?_⟩
  subst ez eH
  cases rz
  rw [hks]
  show wpAny _ _ (call (.ref C) []) _ _ _
  obtain ⟨hp, gn, dr, tk, ost⟩ := s2
  have hn : H2 (hp.objs.size + 1) = none := I2.hok.fresh (Nat.le_succ _)
  have kk : ∀ b o, hp.get? b = some o → ((hp.push (PySem.W.kdv_tup [])).push (PySem.HandSPX.excO C hp.objs.size)).get? b = some o := fun b o e => Heap.get?_push_of_some _ (Heap.get?_push_of_some _ e)
  have hget : ((hp.push (PySem.W.kdv_tup [])).push (PySem.HandSPX.excO C hp.objs.size)).get? (hp.objs.size + 1) = some (PySem.HandSPX.excO C hp.objs.size) := by heap_get
  have I3 : Inv X pins σ (upd H2 (hp.objs.size + 1) (exo (hp.objs.size + 1) C none)) ⟨(hp.push (PySem.W.kdv_tup [])).push (PySem.HandSPX.excO C hp.objs.size), gn, dr, tk, ost⟩ :=
    I2.laid (t' := tk) (a := hp.objs.size + 1) (o := exo (hp.objs.size + 1) C none) (h' := (hp.push (PySem.W.kdv_tup [])).push (PySem.HandSPX.excO C hp.objs.size)) kk (Nat.le_succ _) (exo_ok hget)
  let c := hp.objs.size + 1
  let Q2 : VK := fun v H3 => v = .non ∧ ∃ (d : Addr) (fs : List (Str × V)), H3 c = some (exo c C (some d)) ∧ H3 d = some (exd d fs) ∧ H2 d = none ∧ Q (.ref C) (some d) (upd (del H3 c) d (.xd fs))
  have hn' : H2 c = none := hn
  have hq : spX C L 0 [V.ref c] (upd H2 c (exo c C none)) Q2 (fun _ _ _ => False) := by
    refine ⟨c, [], ys, rfl, rfl, hy, upd_same, fun dx hd ne => ⟨rfl, dx, zzX L ys [], upd_same, ?_, ?_, ?_⟩⟩
    · rw [upd_ne ne, upd_same]
    · rw [upd_ne ne] at hd; exact hd
    · rw [upd_ne ne] at hd
      have z := q1 dx hd
      have eq : upd (del (upd (upd (upd H2 c (exo c C none)) dx (exd dx (zzX L ys []))) c (exo c C (some dx))) c) dx (.xd (zzX L ys [])) = upd H2 dx (.xd (zzX L ys [])) := by
        funext b
        by_cases h1 : b = dx
        · rw [h1, upd_same, upd_same]
        · rw [upd_ne h1, upd_ne h1]
          by_cases h2 : b = c
          · rw [h2, del_same, hn']
          · rw [del_ne h2, upd_ne h2, upd_ne h1, upd_ne h2]
      rw [eq]
      exact z
  have r2 : Vals [V.ref c] [Value.ref c] := .cons rfl .nil
  have hlen : ([Value.ref c] ++ []).length = ps.length := F1.len _ _ _ _ hq
  have run := F1.run (X.A.under (.builtin "type.__call__" ⟨[.ref C], []⟩)) X.stack _ _ ⟨[Value.ref c], []⟩ [Value.ref c] _ Q2 (fun _ _ _ => False) (hr.make C [] []) (I3.env0.make C [] []) (by have z := hb ⟨(hp.push (PySem.W.kdv_tup [])).push (PySem.HandSPX.excO C hp.objs.size), gn, dr, tk, ost⟩ [Value.ref c] I3.kIn hlen; rwa [List.append_nil] at z) r2 hq
  refine wpAny_call (PySem.HandSPX.call_own F hbm (I2.kIn _ _ hC) (PySem.W.looks_findIn I2.kIn iC) (fun self => PySem.W.bind_fn I2.kIn self tI) (by decide) (codeAny_mono run fun r s' hq' => ?_))
  cases r with
  | error er => exact False.elim hq'
  | ok fl =>
    cases fl with
    | ret u =>
      obtain ⟨v, H3, os2, bare2, un2, hok2, rv, ev, d, fs, ea, ed, hd1, q2⟩ := hq'
      subst ev
      obtain ⟨h3, g2, d2, t2, os'⟩ := s'
      exact ⟨rv, mk_end (raises_own T.exC T.tyC) I2 (Nat.le_succ _) kk un2 hok2 os2 bare2 ea ed hd1 q2⟩
    | next => exact False.elim hq'
    | brk => exact False.elim hq'
    | cont => exact False.elim hq'
end
section
variable {Φ : Ctx} {X : Cx} {pos pos' p : Pos} {x : Str}
theorem ds_raise0 {k j : Nat} {L : List (Str × Src)} (E : Erx X.prog X.w X.K X.mg X.base x k 0 L) (cn : Cn Φ X j) (hg : Gl X x) (hj : k + 1 ≤ j := by decide) (hdb : (x == ("__debug__" : Str)) = false := by decide) : DS Φ X (.Raise (some (.Call (.Name x p) [] [] pos)) none pos') (raiM x L 0 anil) := by
  obtain ⟨C, fI, fd, ps, bm0, nw, B, ini, hm, F, T, iC, tI, F1, hb⟩ := E.ex
  refine PS.imp (ps_raise cn.calm cn.tk (pmk_x0 F T iC tI F1 (cn.rm.mono hj) hb hg hm hdb)) fun D σ H ⟨ρ, μ, Cs, os, R, z⟩ => ?_
  unfold raiM bnd at z
  have e1 : anil ρ μ = .ok [] ρ μ := rfl
  rw [e1] at z
  have z : PostS Φ X Cs os H (match fldD [] L [] [] with
    | some (ns, vs) => O.ex x ns vs ρ μ
    | none => O.no) D := z
  cases e2 : fldD [] L [] [] with
  | none => rw [e2] at z; exact z.elim
  | some nv =>
    obtain ⟨ns, es'⟩ := nv
    rw [e2] at z
    obtain ⟨ys, h1, h2, h3⟩ := fld_rep (r := rc Φ X Cs os H) (vs := []) .nil (fs := []) e2 rfl .nil
    refine ⟨ys, h1, fun dx hd => ?_⟩
    have gr : Grow H (upd H dx (.xd (zzX L ys []))) := Grow.upd hd
    exact z C dx σ _ Cs os (R.grow gr) (stp_grow gr) hm ⟨_, upd_same, R.fresh hd, h2, h3.step (stp_grow gr)⟩
end
/-! ### x == y -/
def rEqE (K : PySem.W.Frag) : R2 := fun x y H Q => ∃ (a C dx : Addr) (fs : List (Str × V)), x = .ref a ∧ y = .ref a ∧ H a = some (exo a C (some dx)) ∧ H dx = some (exd dx fs) ∧ ErC K C ∧ Q (.bl true) H
/-- equal leaves, or lists of equal leaves -/
def sameN : D → D → Bool
  | .lst as, .lst bs => samesS as bs
  | a, b => sameS a b
def samesN : List D → List D → Bool
  | [], [] => true
  | a :: as, b :: bs => sameN a b && samesN as bs
  | _, _ => false
def dctN : D → D → Option D
  | .dct ks vs, .dct ks' vs' => if ks = ks' ∧ ks.Nodup ∧ samesN vs vs' = true then some (.bl true) else none
  | _, _ => none
def eqM (x y : D) : Option D := (eqQ x y).or (dctN x y)
theorem leaves_eq {r : RC} {K : PySem.W.Frag} {n : Nat} : ∀ {xs ys : List V} {as bs : List D}, Reps r xs as → Reps r ys bs → samesS as bs = true → Paired (EqV K r.H (n + 1)) xs ys
  | [], [], _, _, _, _, _ => .nil
  | [], _ :: _, _, _, q1, q2, e => by cases q1; cases q2; cases e
  | _ :: _, [], _, _, q1, q2, e => by cases q1; cases q2; cases e
  | x :: xs, y :: ys, _, _, q1, q2, e => by
    cases q1 with
    | @cons _ a _ as qa qas =>
      cases q2 with
      | @cons _ b _ bs qb qbs =>
        have e : (sameS a b && samesS as bs) = true := e
        obtain ⟨e1, e2⟩ := Bool.and_eq_true_iff.mp e
        exact .cons (.inl (sameS_eq qa qb e1)) (leaves_eq qas qbs e2)
theorem sameN_eq {r : RC} {K : PySem.W.Frag} {n : Nat} {x y : V} {a b : D} (h1 : Rep r x a) (h2 : Rep r y b) (e : sameN a b = true) : EqV K r.H (n + 2) x y := by
  have leaf : sameS a b = true → EqV K r.H (n + 2) x y := fun e => .inl (sameS_eq h1 h2 e)
  cases a with
  | lst as =>
    cases b with
    | lst bs =>
      cases h1 with
      | lst g1 n1 q1 =>
        cases h2 with
        | lst g2 n2 q2 => exact .inr (.inr (.inl ⟨_, _, _, _, rfl, rfl, .of g1, .of g2, leaves_eq q1 q2 e⟩))
    | _ => exact leaf e
  | _ => exact leaf e
theorem same_dictN {r : RC} {n : Nat} {K : PySem.W.Frag} : ∀ {ks ls : List (Key × V)} {as bs : List D}, ks.map (·.1) = ls.map (·.1) → (ks.map (·.1)).Nodup → Reps r (ks.map (·.2)) as → Reps r (ls.map (·.2)) bs → samesN as bs = true →
    ks.length = ls.length ∧ ∀ p ∈ ks, ∃ u, valV ls p.1 = some u ∧ EqV K r.H (n + 2) p.2 u
  | [], [], _, _, _, _, _, _, _ => ⟨rfl, fun p hp => by cases hp⟩
  | [], _ :: _, _, _, h, _, _, _, _ => by cases h
  | _ :: _, [], _, _, h, _, _, _, _ => by cases h
  | k :: ks, l :: ls, _, _, h, hn, q1, q2, e => by
    cases q1 with
    | @cons _ a _ as qa qas =>
      cases q2 with
      | @cons _ b _ bs qb qbs =>
        simp only [List.map_cons, List.cons.injEq] at h
        have e : (sameN a b && samesN as bs) = true := e
        obtain ⟨e1, e2⟩ := Bool.and_eq_true_iff.mp e
        simp only [List.map_cons] at hn
        obtain ⟨n1, n2⟩ := List.nodup_cons.mp hn
        obtain ⟨z1, z2⟩ := same_dictN (n := n) (K := K) h.2 n2 qas qbs e2
        refine ⟨by simp [z1], fun p hp => ?_⟩
        rcases List.mem_cons.mp hp with rfl | hp
        · exact ⟨l.2, valV_pos h.1.symm, sameN_eq qa qb e1⟩
        · obtain ⟨u, hu, he⟩ := z2 p hp
          refine ⟨u, ?_, he⟩
          rw [valV_neg (fun z => n1 ?_)]
          · exact hu
          · rw [h.1, z]
            exact List.mem_map_of_mem hp
theorem od_dctN {X : Cx} : OpD X (rEqV X.K) dctN := by
  intro q x y d1 d2 d Q _ _ _ h1 h2 e k
  cases d1 with
  | dct ks vs =>
    cases d2 with
    | dct ks' vs' =>
      have e : (if ks = ks' ∧ ks.Nodup ∧ samesN vs vs' = true then some (D.bl true) else none) = some d := e
      by_cases hc : ks = ks' ∧ ks.Nodup ∧ samesN vs vs' = true
      · rw [if_pos hc] at e
        cases e
        obtain ⟨a, k1, rfl, g1, g2, g3⟩ := h1.dct
        obtain ⟨b, k2, rfl, g4, g5, g6⟩ := h2.dct
        obtain ⟨z1, z2⟩ := same_dictN (n := 0) (K := X.K) (by rw [g2, g5]; exact hc.1) (by rw [g2]; exact hc.2.1) g3 g6 hc.2.2
        exact ⟨2, by decide, .inr ⟨a, b, k1, k2, rfl, rfl, g1, g4, z1, z2⟩, k _ _ (Grow.refl _) (.bl _)⟩
      · rw [if_neg hc] at e
        cases e
    | _ => cases e
  | _ => cases e
def eqN (cs : List Str) (i j : Nat) : Mo D := fun ρ μ => match ρ[i]?, ρ[j]? with
  | some (some (.sh (.cell n))), some (some (.sh (.cell m))) => (match errOf (.cell n) μ with
    | some (c, _, _) => if n = m ∧ c ∈ cs then .ok (.bl true) ρ μ else .no
    | none => .no)
  | _, _ => op2 eqM (lett i) (pek j) ρ μ
section
variable {Φ : Ctx} {X : Cx}
theorem op_eqE (hu : hasUnits X) : OpR X (compareOp .Eq) (rEqE X.K) := by
  intro pins s σ H x y v u Q I rx ry h
  obtain ⟨a, C, dx, fs, rfl, rfl, ea, ed, T, q⟩ := h
  obtain rfl : v = Value.ref a := rx
  obtain rfl : u = Value.ref a := ry
  obtain ⟨ox, od, mA, J, _, _⟩ := err_inst I ea ed
  exact err_self (by have hu : X.A.units + 64 < cLine := hu; omega) I.kIn J T.eq T.ob ⟨.bl true, H, I, rfl, q⟩
theorem de_eqN {i j : Nat} {x y : Str} {p p' pos : Pos} {cs : List Str} (hu : hasUnits X) (hE : ∀ c ∈ cs, ∀ Cc, X.mg c = some (.ref Cc) → ErC X.K Cc) (hN : X.N[i]? = some x := by rfl) (hN' : X.N[j]? = some y := by rfl)
    (hv : Vis X.env.scope x := by first | exact Or.inl rfl | exact Or.inr (Or.inl rfl) | exact Or.inr (Or.inr rfl)) (hd : (x == ("__debug__" : Str)) = false := by decide) (hcd : (x == ("__classdict__" : Str)) = false := by decide)
    (hv' : Vis X.env.scope y := by first | exact Or.inl rfl | exact Or.inr (Or.inl rfl) | exact Or.inr (Or.inr rfl)) (hd' : (y == ("__debug__" : Str)) = false := by decide) (hcd' : (y == ("__classdict__" : Str)) = false := by decide) :
    DE Φ X (.Compare (.Name x p) [.Eq] [.Name y p'] pos) (eqN cs i j) := by
  refine PE.imp (PE.or (de_cmp (Φ := Φ) (((or_eq hu).or (op_eqV hu)).or (op_eqV hu)) ((od_eq.or od_dct).or od_dctN) (de_var (i := i) hN hv hd hcd) (db_var (i := j) hN' hv' hd' hcd') (nomark _)) (pe_cmpR (op_eqE hu) (pe_var (i := i) hN hv hd hcd) (pe_var (i := j) hN' hv' hd' hcd') (nomark _))) fun σ H Q ⟨ρ, μ, C, os, R, z⟩ => ?_
  unfold eqN at z
  split at z
  · rename_i n m e1 e2
    split at z
    · rename_i c ns vs e3
      split at z
      · rename_i hc
        obtain ⟨rfl, hc⟩ := hc
        obtain ⟨v1, h1, q1⟩ := R.env i _ e1
        obtain ⟨v2, h2, q2⟩ := R.env j _ e2
        obtain ⟨a, rfl, Cc, dx, fs, g1, g2, g3, g4, g5, g6⟩ := errOf_at R q1 e3
        obtain ⟨a', rfl, _⟩ := errOf_at R q2 e3
        have ea : a' = a := by
          cases q1 with
          | cell k1 =>
            cases q2 with
            | cell k2 => exact Option.some.inj (k2.symm.trans k1)
        subst ea
        exact .inr ⟨.ref a', h1, .ref a', h2, a', Cc, dx, fs, rfl, rfl, g1, g2, hE c hc Cc g4, z (.bl true) H C os R (Stp.refl _) (.bl true)⟩
      · exact z.elim
    · exact z.elim
  · exact .inl ⟨ρ, μ, C, os, R, z⟩
end
/-! ### tables -/
abbrev NA := List (Str × Addr)
def tvA (N : NA) : Ty → Value
  | .b s => .type s
  | .o c => .ref ((N.lookup c).getD 0)
def EtA (K : PySem.W.Frag) (N : NA) (E : ET) : Prop := ∀ c as, E.lookup c = some as → ∃ C cd, N.lookup c = some C ∧ ErC K C ∧ PySem.W.clsIn K C = some cd ∧ cd.mro = as.map (tvA N) ∧ as.head? = some (.o c) ∧ ∀ t ∈ as, ∀ c', t = .o c' → c' ∈ N.map (·.1)
theorem look_mem {α : Type} {N : List (Str × α)} {c : Str} {C : α} (h : N.lookup c = some C) : (c, C) ∈ N := by
  induction N with
  | nil => cases h
  | cons p N ih =>
    obtain ⟨a, b⟩ := p
    rw [List.lookup_cons] at h
    split at h
    · rename_i e
      cases h
      rw [eq_of_beq e]
      exact List.mem_cons_self
    · exact List.mem_cons_of_mem _ (ih h)
theorem mem_look {N : NA} {c : Str} (h : c ∈ N.map (·.1)) : ∃ C, N.lookup c = some C := by
  induction N with
  | nil => cases h
  | cons p N ih =>
    obtain ⟨a, b⟩ := p
    rw [List.lookup_cons]
    cases e : c == a with
    | true => exact ⟨b, rfl⟩
    | false =>
      rcases List.mem_cons.mp h with h | h
      · subst h
        simp at e
      · exact ih h
theorem nd_inj {N : NA} (h2 : (N.map (·.2)).Nodup) {c c' : Str} {C : Addr} (h : (c, C) ∈ N) (h' : (c', C) ∈ N) : c = c' := by
  obtain ⟨i, hi, e1⟩ := List.mem_iff_getElem.mp h
  obtain ⟨j, hj, e2⟩ := List.mem_iff_getElem.mp h'
  have hi2 : i < (N.map (·.2)).length := by rw [List.length_map]; exact hi
  have hj2 : j < (N.map (·.2)).length := by rw [List.length_map]; exact hj
  have e : (N.map (·.2))[i] = (N.map (·.2))[j] := by rw [List.getElem_map, List.getElem_map, e1, e2]
  have ij := (List.getElem_inj h2).mp e
  subst ij
  rw [e1] at e2
  exact congrArg Prod.fst e2
theorem na_in {N : NA} {c : Str} (h : (N.map (·.1)).contains c = true := by rfl) : c ∈ N.map (·.1) := List.contains_iff_mem.mp h
theorem na_dom {N : NA} {as : List Ty} (h : as.all (fun t => match t with
    | .b _ => true
    | .o c => (N.map (·.1)).contains c) = true := by rfl) : ∀ t ∈ as, ∀ c', t = .o c' → c' ∈ N.map (·.1) := fun t ht c' e => by
  subst e
  exact na_in (List.all_eq_true.mp h _ ht)
theorem ecs_ok {K : PySem.W.Frag} {mg : Str → Option Value} {E : ET} {tg : List Ty} {cs : List Str} (hE : EtOk K mg E tg) (h : cs.all (fun c => (E.lookup c).isSome) = true := by decide +kernel) : ∀ c ∈ cs, ∀ C, mg c = some (.ref C) → ErC K C := fun c hc C hm => by
  have z := List.all_eq_true.mp h c hc
  obtain ⟨as, e⟩ := Option.isSome_iff_exists.mp z
  exact (hE c as e C hm).1
theorem et_nil {K : PySem.W.Frag} {N : NA} : EtA K N [] := fun _ _ e => by cases e
theorem et_cons {K : PySem.W.Frag} {N : NA} {c : Str} {C : Addr} {cd : ClassData} {as : List Ty} {T : ET} (h1 : N.lookup c = some C) (h2 : ErC K C) (h3 : PySem.W.clsIn K C = some cd) (h4 : cd.mro = as.map (tvA N)) (h5 : as.head? = some (.o c)) (h6 : ∀ t ∈ as, ∀ c', t = .o c' → c' ∈ N.map (·.1))
    (t : EtA K N T) : EtA K N ((c, as) :: T) := fun c' as' e => by
  rw [List.lookup_cons] at e
  split at e
  · rename_i q
    cases e
    have : c' = c := by simpa using q
    subst this
    exact ⟨C, cd, h1, h2, h3, h4, h5, h6⟩
  · exact t c' as' e
theorem et_ok {K : PySem.W.Frag} {mg : Str → Option Value} {N : NA} {E : ET} {tg : List Ty} (hN : ∀ p ∈ N, mg p.1 = some (.ref p.2) ∧ PySem.W.isClsIn K p.2 = true ∧ PySem.W.typeIn K (.ref p.2) = some (.type "type"))
    (h2 : (N.map (·.2)).Nodup) (htg : ∀ t ∈ tg, (∃ s, t = .b s ∧ PySem.W.kitMeta s = true) ∨ ∃ c, t = .o c ∧ c ∈ N.map (·.1)) (hE : EtA K N E) : EtOk K mg E tg := by
  intro c as e Cc hm
  obtain ⟨C, cd, l, ec, hc, hmro, hhd, hdom⟩ := hE c as e
  have hC := look_mem l
  have eC : C = Cc := by cases (hN _ hC).1.symm.trans hm; rfl
  subst eC
  refine ⟨ec, fun t ht v hv => ?_⟩
  have ne : cd.mro.isEmpty = false := by
    rw [hmro]
    cases as with
    | nil => cases hhd
    | cons _ _ => rfl
  have sub : ∀ u, PySem.W.subIn K (.ref C) u = some (cd.mro.contains u) := fun u => by
    show PySem.W.mroIn K C u = _
    unfold PySem.W.mroIn
    rw [hc, Option.bind_some, ne] <;> rfl
  have con : ∀ u, (∀ s ∈ as, tvA N s = u → s = t) → tvA N t = u → cd.mro.contains u = decide (t ∈ as) := fun u inj e => by
    rw [hmro]
    by_cases hm : t ∈ as
    · rw [decide_eq_true hm, List.contains_iff_mem]
      exact List.mem_map.mpr ⟨t, hm, e⟩
    · rw [decide_eq_false hm]
      rw [← Bool.not_eq_true, List.contains_iff_mem]
      intro z
      obtain ⟨s, hs, es⟩ := List.mem_map.mp z
      exact hm (inj s hs es ▸ hs)
  rcases htg t ht with ⟨s, rfl, hk⟩ | ⟨c', rfl, hc'⟩
  · have hv : v = .type s := hv
    subst hv
    have k := con (.type s) (fun z _ e => by
      cases z with
      | b z => cases e; rfl
      | o z => cases e) rfl
    unfold PySem.W.kitOne
    rw [if_neg (by simp)]
    show (if PySem.W.kitMeta s = true then _ else _) = _
    rw [if_pos hk, sub, k]
  · obtain ⟨C', hm', rfl⟩ := hv
    obtain ⟨C2, l2⟩ := mem_look hc'
    have hC2 := look_mem l2
    obtain ⟨n1, n2, n3⟩ := hN _ hC2
    have eC : C2 = C' := by cases n1.symm.trans hm'; rfl
    subst eC
    have tv2 : tvA N (.o c') = .ref C2 := by show Value.ref ((N.lookup c').getD 0) = _; rw [l2] <;> rfl
    have k := con (.ref C2) (fun z hz e => by
      cases z with
      | b z => cases e
      | o z =>
        obtain ⟨C3, l3⟩ := mem_look (hdom _ hz z rfl)
        have e : Value.ref ((N.lookup z).getD 0) = .ref C2 := e
        rw [l3] at e
        cases e
        rw [nd_inj h2 (look_mem l3) hC2]) tv2
    unfold PySem.W.kitOne
    by_cases q : (Value.ref C == Value.ref C2) = true
    · rw [if_pos q]
      have e : Value.ref C = .ref C2 := beq_iff_eq.mp q
      cases e
      have := nd_inj h2 hC hC2
      subst this
      have : Ty.o c ∈ as := by
        cases as with
        | nil => cases hhd
        | cons a as => cases hhd; exact List.mem_cons_self
      rw [decide_eq_true this]
    · rw [if_neg q]
      show (if ((PySem.W.clsIn K C2).isSome && PySem.W.typeIn K (.ref C2) == some (.type "type")) = true then _ else _) = _
      have n2 : (PySem.W.clsIn K C2).isSome = true := n2
      rw [if_pos (by rw [n2, n3] <;> simp), sub, k]
section
variable {P : Program} {w : World} {K : PySem.W.Frag} {mg : Str → Option Value} {base : Heap}
theorem Fun.kbn {x qual : Str} {st : Stmt} {f : Addr} {fd : FuncData} {ps ks : List Str} {n j : Nat} {ix : List Nat} (F : Fun K x qual st f fd)
    (h : ∀ (kV doc pm : Value) (an : Option Addr) (cdv ct : Value) (us ws : List Value), us.length = n → ws.length = ks.length → bindArgs (PySem.W.fnOf x qual (defArgs st) (defBody st) (defScope st) .none kV doc pm an cdv ct) ⟨us, ks.zip ws⟩ = pure (ps.zip (pk j ix us ws []))) :
    KBn K fd ps n ks (fun us ws => pk j ix us ws []) (fun vs zs => pk j ix vs zs []) := by
  obtain ⟨oc, od, kV, doc, pm, an, cdv, ct, osl, rfl, lk, hcd⟩ := F.ex
  exact kbn_0 fun us ws h1 h2 => h kV doc pm an cdv ct us ws h1 h2
theorem ErrG.erv {c q : Str} {st : Stmt} {C fI : Addr} {fd : FuncData} {B nw ini : String} {bm0 : List Value} {N ps ks : List Str} {L : List (Str × Src)} {n m : Nat} {ix : List Nat} {g : List Value → List Value → List Value} (E : ErrG K mg c q st C fI fd B nw ini bm0) (S : FnScope N ps (defScope st))
    (hno : ∀ p ∈ L, PySem.W.findIn K (.ref C) p.1 = some none) (hn : ps.length = n + 1)
    (hb : ∀ (cdv : Value) (A : Around) (outer : List PySem.Env) (s : Shared) (H : Hp) (E : XK), PSs (cxOf CX0 P w K mg base N q (defScope st) fI cdv A outer s H E).nox (defBody st) (tXs K bm0 nw L))
    (bnds : KBn K fd ps (m + 1) ks g (fun vs zs => pk 1 ix vs zs [])) (hl : L.length ≤ 900 := by decide) : Erv P w K mg base c 1 n L m ks ix :=
  ⟨C, fI, fd, ps, bm0, nw, B, ini, g, E.mg, E.base, E.cls, E.init, E.ty, Fun.okI E.fn S E.cls hno hl n hn hb, bnds⟩
end
section
variable {K : PySem.W.Frag} {mg : Str → Option Value}
theorem xft_nil {fs : List Str} : XfT K mg [] fs := fun c h => by cases h
theorem xft_cons {c : Str} {C : Addr} {cs fs : List Str} (hm : mg c = some (.ref C)) (x : XfC K C) (n : ∀ f ∈ fs, PySem.W.findIn K (.ref C) f = some none) (t : XfT K mg cs fs) : XfT K mg (c :: cs) fs := fun c' h Cc hc => by
  rcases List.mem_cons.mp h with rfl | h
  · cases hm.symm.trans hc
    exact ⟨x, n⟩
  · exact t c' h Cc hc
theorem sub_nil : SubOk K mg [] := fun _ _ _ e => by cases e
theorem sub_cons {c h : Str} {C D : Addr} {b : Bool} {T : Sub} (m1 : mg c = some (.ref C)) (m2 : mg h = some (.ref D)) (x : PySem.W.exmOne K (.ref C) (.ref D) = some b) (t : SubOk K mg T) : SubOk K mg (((c, h), b) :: T) := fun c' h' b' e Cc Hc e1 e2 => by
  rw [List.lookup_cons] at e
  split at e
  · rename_i q
    cases e
    have q : (c', h') = (c, h) := by simpa using q
    cases q
    cases m1.symm.trans e1
    cases m2.symm.trans e2
    exact x
  · exact t c' h' b' e Cc Hc e1 e2
def NaOk (K : PySem.W.Frag) (mg : Str → Option Value) (N : NA) : Prop := ∀ p ∈ N, mg p.1 = some (.ref p.2) ∧ PySem.W.isClsIn K p.2 = true ∧ PySem.W.typeIn K (.ref p.2) = some (.type "type")
theorem na_nil : NaOk K mg [] := fun p h => by cases h
theorem na_cons {c : Str} {C : Addr} {N : NA} (m : mg c = some (.ref C)) (i : PySem.W.isClsIn K C = true) (y : PySem.W.typeIn K (.ref C) = some (.type "type")) (t : NaOk K mg N) : NaOk K mg ((c, C) :: N) := fun p h => by
  rcases List.mem_cons.mp h with rfl | h
  · exact ⟨m, i, y⟩
  · exact t p h
def TgOk (N : NA) (tg : List Ty) : Prop := ∀ t ∈ tg, (∃ s, t = .b s ∧ PySem.W.kitMeta s = true) ∨ ∃ c, t = .o c ∧ c ∈ N.map (·.1)
theorem tg_all {N : NA} {tg : List Ty} (h : tg.all (fun t => match t with
    | .b s => PySem.W.kitMeta s
    | .o c => (N.map (·.1)).contains c) = true) : TgOk N tg := fun t ht => by
  have z := List.all_eq_true.mp h t ht
  cases t with
  | b s => exact .inl ⟨s, rfl, z⟩
  | o c => exact .inr ⟨c, rfl, List.contains_iff_mem.mp z⟩
theorem et_consX {N : NA} {c : Str} {C : Addr} {up : List Value} {as : List Ty} {T : ET} (h1 : N.lookup c = some C) (h2 : ErC K C) (h3 : ∃ cd, PySem.W.clsIn K C = some cd ∧ cd.mro = up) (h4 : up = as.map (tvA N)) (h5 : as.head? = some (.o c)) (h6 : ∀ t ∈ as, ∀ c', t = .o c' → c' ∈ N.map (·.1))
    (t : EtA K N T) : EtA K N ((c, as) :: T) := by
  obtain ⟨cd, e1, e2⟩ := h3
  exact et_cons h1 h2 e1 (e2.trans h4) h5 h6 t
end
/-! ### an error class, in few facts -/
def clsB (K : PySem.W.Frag) (C i : Addr) (cd : Value) (q : Str) (fs : List Str) (bm0 bm : List Value) : Bool :=
  refsB bm0 bm && (bm.contains (.type "object") && (decide (PySem.W.findIn K (.ref C) "__setattr__" = some (some (.builtin "object.__setattr__"))) && (decide (PySem.W.subIn K (.ref C) (.type "BaseException") = some true) &&
  (decide (PySem.W.typeIn K (.ref C) = some (.type "type")) && (PySem.W.keepIn K (.ref C) && (decide (PySem.W.typeIn K (.ref i) = some (.type "function")) && (PySem.W.codeIn K cd q && (PySem.W.keepIn K (.ref i) &&
  (decide (PySem.W.findIn K (.ref C) "__getattribute__" = some (some (.builtin "BaseException.__getattribute__"))) && (decide (PySem.W.findIn K (.ref C) "__getattr__" = some none) && (PySem.W.hasDictIn K C && (PySem.W.isClsIn K C &&
  (decide (PySem.W.findIn K (.ref C) "__class__" = some (some (.builtin "object.__class__"))) && (decide (PySem.W.mroIn K C (.type "object") = some true) && (decide (PySem.W.findIn K (.ref C) "__eq__" = some (some (.builtin "object.__eq__"))) &&
  fs.all (fun f => decide (PySem.W.findIn K (.ref C) f = some none)))))))))))))))))
structure ClsF (K : PySem.W.Frag) (C i : Addr) (cd : Value) (q : Str) (fs : List Str) (bm0 bm : List Value) : Prop where
  r : refsB bm0 bm = true
  o : bm.contains (.type "object") = true
  s : PySem.W.findIn K (.ref C) "__setattr__" = some (some (.builtin "object.__setattr__"))
  e : PySem.W.subIn K (.ref C) (.type "BaseException") = some true
  t : PySem.W.typeIn K (.ref C) = some (.type "type")
  k : PySem.W.keepIn K (.ref C) = true
  f : PySem.W.typeIn K (.ref i) = some (.type "function")
  d : PySem.W.codeIn K cd q = true
  p : PySem.W.keepIn K (.ref i) = true
  g : PySem.W.findIn K (.ref C) "__getattribute__" = some (some (.builtin "BaseException.__getattribute__"))
  h : PySem.W.findIn K (.ref C) "__getattr__" = some none
  j : PySem.W.hasDictIn K C = true
  i' : PySem.W.isClsIn K C = true
  a : PySem.W.findIn K (.ref C) "__class__" = some (some (.builtin "object.__class__"))
  m : PySem.W.mroIn K C (.type "object") = some true
  q' : PySem.W.findIn K (.ref C) "__eq__" = some (some (.builtin "object.__eq__"))
  n : ∀ f ∈ fs, PySem.W.findIn K (.ref C) f = some none
theorem clsB_ok {K : PySem.W.Frag} {C i : Addr} {cd : Value} {q : Str} {fs : List Str} {bm0 bm : List Value} (h : clsB K C i cd q fs bm0 bm = true) : ClsF K C i cd q fs bm0 bm := by
  unfold clsB at h
  simp only [Bool.and_eq_true, decide_eq_true_eq, List.all_eq_true] at h
  obtain ⟨h1, h2, h3, h4, h5, h6, h7, h8, h9, h10, h11, h12, h13, h14, h15, h16, h17⟩ := h
  exact ⟨h1, h2, h3, h4, h5, h6, h7, h8, h9, h10, h11, h12, h13, h14, h15, h16, h17⟩
theorem no_ok {K : PySem.W.Frag} {C : Addr} {fs : List Str} {L : List (Str × Src)} (n : ∀ f ∈ fs, PySem.W.findIn K (.ref C) f = some none) (h : L.all (fun p => fs.contains p.1) = true) : ∀ p ∈ L, PySem.W.findIn K (.ref C) p.1 = some none := fun p hp =>
  n _ (List.contains_iff_mem.mp (List.all_eq_true.mp h p hp))
end L2.DL

/-! DL48: the top by one run over the heap as a tree: what it leaves, told by one Bool; error classes by rows. -/
namespace L2.DL
open PySem PySem.Spec PyProof.Rows
/-- an error class by its name: what it is beside itself; the base's __new__ -/
structure ERow where
  c : Str
  up : List Ty
  nw : String
  bm0 : List Value
def tvK (K : PySem.W.Frag) : Ty → Value
  | .b s => .type s
  | .o c => .ref (He.ga K c)
def iniA (K : PySem.W.Frag) (c : Str) : Addr := He.ma K (He.ga K c) "__init__"
def bmB : List Value → List Value → Bool
  | [], [] => true
  | .ref a :: l, .ref b :: m => Nat.beq a b && bmB l m
  | .type s :: l, .type t :: m => decide (s = t) && bmB l m
  | _, _ => false
theorem bmB_ok : ∀ {l m : List Value}, bmB l m = true → l = m
  | [], [], _ => rfl
  | .ref a :: l, .ref b :: m, h => by
    have h : (Nat.beq a b && bmB l m) = true := h
    obtain ⟨h1, h2⟩ := Bool.and_eq_true_iff.mp h
    rw [Nat.eq_of_beq_eq_true h1, bmB_ok h2]
  | .type s :: l, .type t :: m, h => by
    have h : (decide (s = t) && bmB l m) = true := h
    obtain ⟨h1, h2⟩ := Bool.and_eq_true_iff.mp h
    rw [of_decide_eq_true h1, bmB_ok h2]
  | [], _ :: _, h => by cases h
  | .none :: _, _, h | .ellipsis :: _, _, h | .notImplemented :: _, _, h | .bool _ :: _, _, h | .int _ _ :: _, _, h | .float _ _ :: _, _, h | .str _ _ :: _, _, h | .bytes _ _ :: _, _, h | .builtin _ :: _, _, h => by cases h
  | .ref _ :: _, [], h => by cases h
  | .type _ :: _, [], h => by cases h
  | .ref _ :: _, .none :: _, h | .ref _ :: _, .ellipsis :: _, h | .ref _ :: _, .notImplemented :: _, h | .ref _ :: _, .bool _ :: _, h | .ref _ :: _, .int _ _ :: _, h | .ref _ :: _, .float _ _ :: _, h | .ref _ :: _, .str _ _ :: _, h | .ref _ :: _, .bytes _ _ :: _, h | .ref _ :: _, .builtin _ :: _, h | .ref _ :: _, .type _ :: _, h => by cases h
  | .type _ :: _, .none :: _, h | .type _ :: _, .ellipsis :: _, h | .type _ :: _, .notImplemented :: _, h | .type _ :: _, .bool _ :: _, h | .type _ :: _, .int _ _ :: _, h | .type _ :: _, .float _ _ :: _, h | .type _ :: _, .str _ _ :: _, h | .type _ :: _, .bytes _ _ :: _, h | .type _ :: _, .builtin _ :: _, h | .type _ :: _, .ref _ :: _, h => by cases h
def xobjIn (K : PySem.W.Frag) (C : Addr) (up : List Value) (nw : String) : Bool := match K.lookup C with
  | some ⟨.type t, _, .cls cd, sl⟩ => decide (t = "type") && (match cd.mro, sl.toList with
    | .ref C' :: bm, [_, _, _, _, some (.builtin n), _] => Nat.beq C' C && (decide (n = nw) && (!cd.hasDel && (cd.hasDict && bmB bm up)))
    | _, _ => false)
  | _ => false
theorem xobj_ok {K : PySem.W.Frag} {C : Addr} {up : List Value} {nw : String} (q : xobjIn K C up nw = true) : ∃ nm qn N bs sn sub ab col dd k0 k1 k2 k3 k5, K.lookup C = some (excClassObj nm qn C N bs up true sn sub ab col dd k0 k1 k2 k3 k5 nw) := by
  unfold xobjIn at q
  split at q
  · rename_i t dd cd sl ho
    obtain ⟨q0, z⟩ := Bool.and_eq_true_iff.mp q
    clear q
    have q0 := of_decide_eq_true q0
    subst q0
    split at z
    · rename_i C' bm k0 k1 k2 k3 n k5 hm hs
      obtain ⟨q1, z1⟩ := Bool.and_eq_true_iff.mp z
      obtain ⟨q2, z2⟩ := Bool.and_eq_true_iff.mp z1
      obtain ⟨q3, z3⟩ := Bool.and_eq_true_iff.mp z2
      obtain ⟨q4, q5⟩ := Bool.and_eq_true_iff.mp z3
      clear z z1 z2 z3
      have q1 := Nat.eq_of_beq_eq_true q1
      have q2 := of_decide_eq_true q2
      have q5 := bmB_ok q5
      subst q1 q2 q5
      obtain ⟨nm, bs, mro, ns, qn, hd, sn, sub, ab, col, del⟩ := cd
      dsimp only at hm q3 q4
      have q3 : del = false := by simpa using q3
      subst hm q3 q4
      have hsl : sl = #[k0, k1, k2, k3, some (.builtin n), k5] := by
        obtain ⟨l⟩ := sl
        simp only at hs
        rw [hs]
      subst hsl
      exact ⟨nm, qn, ns, bs, sn, sub, ab, col, dd, k0, k1, k2, k3, k5, ho⟩
    · cases z
  · cases q
def clsK (K : PySem.W.Frag) (C i : Addr) (fs : List Str) (bm0 bm : List Value) : Bool :=
  refsB bm0 bm && (bm.contains (.type "object") && (He.eqO (PySem.W.findIn K (.ref C) "__setattr__") (some (some (.builtin "object.__setattr__"))) && (decide (PySem.W.subIn K (.ref C) (.type "BaseException") = some true) &&
  (decide (PySem.W.typeIn K (.ref C) = some (.type "type")) && (PySem.W.keepIn K (.ref C) && (decide (PySem.W.typeIn K (.ref i) = some (.type "function")) &&
  (He.eqO (PySem.W.findIn K (.ref C) "__getattribute__") (some (some (.builtin "BaseException.__getattribute__"))) && (He.eqO (PySem.W.findIn K (.ref C) "__getattr__") (some none) && (PySem.W.hasDictIn K C && (PySem.W.isClsIn K C &&
  (He.eqO (PySem.W.findIn K (.ref C) "__class__") (some (some (.builtin "object.__class__"))) && (decide (PySem.W.mroIn K C (.type "object") = some true) && (He.eqO (PySem.W.findIn K (.ref C) "__eq__") (some (some (.builtin "object.__eq__"))) &&
  fs.all (fun f => He.eqO (PySem.W.findIn K (.ref C) f) (some none)))))))))))))))
def rowB (K : PySem.W.Frag) (fs : List Str) (r : ERow) : Bool := xobjIn K (He.ga K r.c) (r.up.map (tvK K)) r.nw && (He.eqO (PySem.W.findIn K (.ref (He.ga K r.c)) "__init__") (some (some (.ref (iniA K r.c)))) && (He.eqO (PySem.W.nsIn K mainGlobals r.c) (some (some (.ref (He.ga K r.c)))) && clsK K (He.ga K r.c) (iniA K r.c) fs r.bm0 (r.up.map (tvK K))))
structure RowK (K : PySem.W.Frag) (fs : List Str) (r : ERow) : Prop where
  x : ∃ nm qn N bs sn sub ab col dd k0 k1 k2 k3 k5, K.lookup (He.ga K r.c) = some (excClassObj nm qn (He.ga K r.c) N bs (r.up.map (tvK K)) true sn sub ab col dd k0 k1 k2 k3 k5 r.nw)
  i : PySem.W.findIn K (.ref (He.ga K r.c)) "__init__" = some (some (.ref (iniA K r.c)))
  gl : PySem.W.nsIn K mainGlobals r.c = some (some (.ref (He.ga K r.c)))
  rr : refsB r.bm0 (r.up.map (tvK K)) = true
  o : (r.up.map (tvK K)).contains (.type "object") = true
  s : PySem.W.findIn K (.ref (He.ga K r.c)) "__setattr__" = some (some (.builtin "object.__setattr__"))
  e : PySem.W.subIn K (.ref (He.ga K r.c)) (.type "BaseException") = some true
  t : PySem.W.typeIn K (.ref (He.ga K r.c)) = some (.type "type")
  k : PySem.W.keepIn K (.ref (He.ga K r.c)) = true
  f : PySem.W.typeIn K (.ref (iniA K r.c)) = some (.type "function")
  g : PySem.W.findIn K (.ref (He.ga K r.c)) "__getattribute__" = some (some (.builtin "BaseException.__getattribute__"))
  h : PySem.W.findIn K (.ref (He.ga K r.c)) "__getattr__" = some none
  j : PySem.W.hasDictIn K (He.ga K r.c) = true
  ic : PySem.W.isClsIn K (He.ga K r.c) = true
  a : PySem.W.findIn K (.ref (He.ga K r.c)) "__class__" = some (some (.builtin "object.__class__"))
  m : PySem.W.mroIn K (He.ga K r.c) (.type "object") = some true
  q : PySem.W.findIn K (.ref (He.ga K r.c)) "__eq__" = some (some (.builtin "object.__eq__"))
  n : ∀ f ∈ fs, PySem.W.findIn K (.ref (He.ga K r.c)) f = some none
theorem rowB_ok {K : PySem.W.Frag} {fs : List Str} {r : ERow} (h : rowB K fs r = true) : RowK K fs r := by
  unfold rowB clsK at h
  simp only [Bool.and_eq_true, decide_eq_true_eq, List.all_eq_true] at h
  obtain ⟨z1, z2, z3, h1, h2, h3, h4, h5, h6, h7, h10, h11, h12, h13, h14, h15, h16, h17⟩ := h
  exact ⟨xobj_ok z1, He.eqO_ok z2, He.eqO_ok z3, h1, h2, He.eqO_ok h3, h4, h5, h6, h7, He.eqO_ok h10, He.eqO_ok h11, h12, h13, He.eqO_ok h14, h15, He.eqO_ok h16, fun f hf => He.eqO_ok (h17 f hf)⟩
section
variable {K : PySem.W.Frag} {mg : Str → Option Value} {h : Heap} {fs : List Str} {r : ERow}
theorem RowK.mgc (R : RowK K fs r) (X : K.In h) (G : h.Ns mainGlobals mg) : mg r.c = some (.ref (He.ga K r.c)) := PySem.W.mg_of X G R.gl
theorem RowK.erc (R : RowK K fs r) (eg : PySem.W.specialIn K (.builtin "object.__class__") "__get__" = some (some (.builtin "getset_descriptor.__get__"))) (ek : PySem.W.takesIn K (.builtin "object.__class__") = some true) : ErC K (He.ga K r.c) :=
  ⟨⟨R.g, R.h, R.e, R.j⟩, R.ic, R.a, eg, ek, R.m, R.q⟩
theorem RowK.cd (R : RowK K fs r) : ∃ cd, PySem.W.clsIn K (He.ga K r.c) = some cd ∧ cd.mro = .ref (He.ga K r.c) :: r.up.map (tvK K) := by
  obtain ⟨nm, qn, N, bs, sn, sub, ab, col, dd, k0, k1, k2, k3, k5, l⟩ := R.x
  exact ⟨⟨nm, bs, .ref (He.ga K r.c) :: r.up.map (tvK K), N, qn, true, sn, sub, ab, col, false⟩, by unfold PySem.W.clsIn; rw [l] <;> rfl, rfl⟩
theorem RowK.errG {q : Str} {st : Stmt} {fd : FuncData} {B ini : String} (R : RowK K fs r) (X : K.In h) (G : h.Ns mainGlobals mg) (F : Fun K "__init__" q st (iniA K r.c) fd) (hb : ExcBaseFacts B r.nw ini r.bm0) (hp : ∀ self, refuseLoop self "__setattr__" r.bm0 = pure ()) :
    ErrG K mg r.c q st (He.ga K r.c) (iniA K r.c) fd B r.nw ini r.bm0 := by
  obtain ⟨nm, qn, N, bs, sn, sub, ab, col, dd, k0, k1, k2, k3, k5, l⟩ := R.x
  exact ⟨R.mgc X G, hb, exc_mk l hp R.rr R.o R.s R.e R.t R.k, R.i, R.f, F⟩
/-- the names of own classes, as the rows and the classes above say -/
def naK (K : PySem.W.Frag) (ns : List Str) : NA := ns.map fun c => (c, He.ga K c)
theorem naK_look {ns : List Str} {c : Str} (h : c ∈ ns) : (naK K ns).lookup c = some (He.ga K c) := by
  unfold naK
  induction ns with
  | nil => cases h
  | cons a l ih =>
    rw [List.map_cons, List.lookup_cons]
    cases e : c == a with
    | true => rw [eq_of_beq e]
    | false =>
      rcases List.mem_cons.mp h with h | h
      · subst h; simp at e
      · exact ih h
theorem naK_map {ns : List Str} : (naK K ns).map (·.1) = ns := by
  unfold naK
  rw [List.map_map]
  exact List.map_id' ns
/-- all that the run's Bool tells of the error classes -/
def errB (K : PySem.W.Frag) (fs ups : List Str) (rows : List ERow) : Bool :=
  rows.all (rowB K fs) && (ups.all (fun c => He.eqO (PySem.W.nsIn K mainGlobals c) (some (some (.ref (He.ga K c)))) && (PySem.W.isClsIn K (He.ga K c) && (decide (PySem.W.typeIn K (.ref (He.ga K c)) = some (.type "type")) && decide (PySem.W.subIn K (.ref (He.ga K c)) (.type "BaseException") = some true)))) &&
  (decide ((ups ++ rows.map (·.c)).map (He.ga K)).Nodup && (He.eqO (PySem.W.specialIn K (.builtin "object.__class__") "__get__") (some (some (.builtin "getset_descriptor.__get__"))) && decide (PySem.W.takesIn K (.builtin "object.__class__") = some true))))
structure ErrK (K : PySem.W.Frag) (fs ups : List Str) (rows : List ERow) : Prop where
  r : ∀ r ∈ rows, RowK K fs r
  u : ∀ c ∈ ups, PySem.W.nsIn K mainGlobals c = some (some (.ref (He.ga K c))) ∧ PySem.W.isClsIn K (He.ga K c) = true ∧ PySem.W.typeIn K (.ref (He.ga K c)) = some (.type "type") ∧ PySem.W.subIn K (.ref (He.ga K c)) (.type "BaseException") = some true
  nd : ((ups ++ rows.map (·.c)).map (He.ga K)).Nodup
  eg : PySem.W.specialIn K (.builtin "object.__class__") "__get__" = some (some (.builtin "getset_descriptor.__get__"))
  ek : PySem.W.takesIn K (.builtin "object.__class__") = some true
theorem errB_ok {ups : List Str} {rows : List ERow} (h : errB K fs ups rows = true) : ErrK K fs ups rows := by
  unfold errB at h
  simp only [Bool.and_eq_true, decide_eq_true_eq, List.all_eq_true] at h
  obtain ⟨h1, h2, h3, h4, h5⟩ := h
  exact ⟨fun r hr => rowB_ok (h1 r hr), fun c hc => let ⟨a, b, d, e⟩ := h2 c hc; ⟨He.eqO_ok a, b, d, e⟩, h3, He.eqO_ok h4, h5⟩
theorem ErrK.na {ups : List Str} {rows : List ERow} (E : ErrK K fs ups rows) (X : K.In h) (G : h.Ns mainGlobals mg) : NaOk K mg (naK K (ups ++ rows.map (·.c))) := fun p hp => by
  obtain ⟨c, hc, rfl⟩ := List.mem_map.mp hp
  rcases List.mem_append.mp hc with hc | hc
  · obtain ⟨a, b, d, _⟩ := E.u c hc
    exact ⟨PySem.W.mg_of X G a, b, d⟩
  · obtain ⟨r, hr, rfl⟩ := List.mem_map.mp hc
    have R := E.r r hr
    exact ⟨R.mgc X G, R.ic, R.t⟩
theorem ErrK.eta {ups : List Str} {rows : List ERow} (E : ErrK K fs ups rows) (hu : rows.all (fun r => r.up.all fun t => match t with
    | .b _ => true
    | .o c => (ups ++ rows.map (·.c)).contains c) = true) : EtA K (naK K (ups ++ rows.map (·.c))) (rows.map fun r => (r.c, .o r.c :: r.up)) := fun c as e => by
  have hm := look_mem e
  obtain ⟨r, hr, e2⟩ := List.mem_map.mp hm
  cases e2
  have R := E.r r hr
  have inN : r.c ∈ ups ++ rows.map (·.c) := List.mem_append_right _ (List.mem_map_of_mem hr)
  have dom : ∀ t ∈ Ty.o r.c :: r.up, ∀ c', t = .o c' → c' ∈ ups ++ rows.map (·.c) := fun t ht c' et => by
    subst et
    rcases List.mem_cons.mp ht with h | h
    · cases h; exact inN
    · exact List.contains_iff_mem.mp (List.all_eq_true.mp (List.all_eq_true.mp hu r hr) _ h)
  obtain ⟨cd, h1, h2⟩ := R.cd
  refine ⟨He.ga K r.c, cd, naK_look inN, R.erc E.eg E.ek, h1, ?_, rfl, fun t ht c' et => by rw [naK_map]; exact dom t ht c' et⟩
  rw [h2]
  have tv : ∀ t ∈ Ty.o r.c :: r.up, tvK K t = tvA (naK K (ups ++ rows.map (·.c))) t := fun t ht => by
    cases t with
    | b s => rfl
    | o c' =>
      show Value.ref (He.ga K c') = .ref (((naK K (ups ++ rows.map (·.c))).lookup c').getD 0)
      rw [naK_look (dom _ ht c' rfl)] <;> rfl
  show (Ty.o r.c :: r.up).map (tvK K) = _
  exact List.map_congr_left tv
theorem ErrK.et {ups : List Str} {rows : List ERow} {tg : List Ty} (E : ErrK K fs ups rows) (X : K.In h) (G : h.Ns mainGlobals mg) (hu : rows.all (fun r => r.up.all fun t => match t with
    | .b _ => true
    | .o c => (ups ++ rows.map (·.c)).contains c) = true) (ht : tg.all (fun t => match t with
    | .b s => PySem.W.kitMeta s
    | .o c => (ups ++ rows.map (·.c)).contains c) = true) : EtOk K mg (rows.map fun r => (r.c, .o r.c :: r.up)) tg :=
  et_ok (E.na X G) (by unfold naK; rw [List.map_map]; exact E.nd) (tg_all (by rw [naK_map]; exact ht)) (E.eta hu)
theorem ErrK.xft {ups cs : List Str} {rows : List ERow} (E : ErrK K fs ups rows) (X : K.In h) (G : h.Ns mainGlobals mg) (hc : cs = rows.map (·.c)) : XfT K mg cs fs := fun c h Cc hm => by
  subst hc
  obtain ⟨r, hr, rfl⟩ := List.mem_map.mp h
  have R := E.r r hr
  cases (R.mgc X G).symm.trans hm
  exact ⟨⟨R.g, R.h, R.e, R.j⟩, R.n⟩
end
/-! ### what is looked at: the module's names, their code, the classes' names and defs -/
def valsAt (g : Addr → Option Obj) (a : Addr) : List Addr := match g a with
  | some o => (match o.data with
    | .dict es _ => es.toList.flatMap fun e => He.refV e.val
    | _ => [])
  | none => []
def codeAt (g : Addr → Option Obj) (a : Addr) : List Addr := match g a with
  | some o => (match o.data with
    | .func fd => He.refV fd.code
    | _ => [])
  | none => []
def nsAt (g : Addr → Option Obj) (a : Addr) : List Addr := match g a with
  | some o => (match o.data with
    | .cls cd => [cd.ns]
    | _ => [])
  | none => []
def asE (g : Addr → Option Obj) : List Addr := mainGlobals :: (valsAt g mainGlobals ++ ((valsAt g mainGlobals).flatMap (codeAt g) ++ ((valsAt g mainGlobals).flatMap (nsAt g) ++ ((valsAt g mainGlobals).flatMap (nsAt g)).flatMap fun n => valsAt g n ++ (valsAt g n).flatMap (codeAt g))))
def frE (g : Addr → Option Obj) : PySem.W.Frag := He.frG g (asE g)
def obsE (fa : List He.Fa) (fn : List He.DefD) (ex : PySem.W.Frag → Bool) (g : Addr → Option Obj) : He.AlD × Bool := (He.obsD fa fn (frE g), ex (frE g))
def hookE (fa : List He.Fa) (fn : List He.DefD) (ex : PySem.W.Frag → Bool) : PySem.W.Hook where
  α := He.AlD × Bool
  obs := fun s => obsE fa fn ex s.heap.get?
  val := fun _ => (He.valD fn, true)
  says := fun _ h => ∃ K : PySem.W.Frag, K.In h ∧ He.SaysD fa fn K ∧ ex K = true
  of := fun _ _ e => ⟨_, He.frG_in, congrArg Prod.fst e, congrArg Prod.snd e⟩
  keeps := fun _ _ _ ⟨K, hK, c⟩ k => ⟨K, PySem.W.Frag.In.keeps hK k, c⟩
theorem obsE_eq {fa : List He.Fa} {fn : List He.DefD} {ex : PySem.W.Frag → Bool} {g : Addr → Option Obj} {s : Shared} (h : ∀ a, g a = s.heap.get? a) : obsE fa fn ex g = (hookE fa fn ex).obs s := by
  have e : g = s.heap.get? := funext h
  rw [e] <;> rfl
/-- the goal behind such a head -/
theorem walk_E {l : PySem.W.OpenLaw} {n : Nat} {q : Program} {loose : List Str} {XP : (Str → Option Value) → Heap → Prop} {YP : World → Heap → Prop} {d : DefRec} {G : Fn} {x : Str} (hn : l.most = some n) (hn2 : n ≤ sizeLine) (hdf : d.params.defaults = [])
    (F : ∀ (w : World) (mg : Str → Option Value) (fa : Addr) (h : Heap), YP w h → h.Ns mainGlobals mg → mg d.name = some (.ref fa) →
      ∃ (K : PySem.W.Frag) (fd : FuncData), K.In h ∧ (∀ (s : Shared) (u : Value), BindsTo s fd ⟨[u], []⟩ [(x, u)]) ∧ ∀ base : Heap, K.In base → base.Ns mainGlobals mg → RunAt l.prog w K mg base callerA fa fd [x] (spD K mg G))
    (ans : ∀ ns : List Int, ns.length ≤ n → ∃ μ, G [.frz (ns.map D.int)] [] = .ok (.bl true) μ) : PySem.W.WalkO q loose XP YP l.row.toRowW d [] (fun f vs => PySem.call f vs) := by
  refine Att.attach_call hn hdf fun w s₀ s₁ mg mb fa o pm cd doc a vs ns G' Y ho hd hcd hmg hobj hints hlen hg => ?_
  obtain ⟨K, fd, KX, hb, hF⟩ := F w mg fa _ Y G'.T.g hmg
  exact law_at KX G'.T.g G'.T.b G'.T.builtins G'.T.nolimit hg hobj hints (Nat.le_trans hlen hn2) hF hb (ans ns hlen)
end L2.DL

namespace L2.DL.K00
open PySem PySem.Spec PyProof.Rows
def st (i : Nat) : Stmt := PySem.Challenge.pw_shapebetween_k00_errors_by_themselves.main.body.getD i (.Pass ⟨0, 0, 0, 0⟩)
def L_UnknownKey : List (Str × Src) := [("code", .txt "UnknownKey"), ("key", .par 1)]
def L_UnknownName : List (Str × Src) := [("code", .txt "UnknownName"), ("name", .par 1)]
def L_UnknownCell : List (Str × Src) := [("code", .txt "UnknownCell"), ("value", .par 1)]
def L_PastEnd : List (Str × Src) := [("code", .txt "PastEnd"), ("number", .par 1), ("count", .par 2)]
def L_NothingLeft : List (Str × Src) := [("code", .txt "NothingLeft")]
def L_InvalidKey : List (Str × Src) := [("code", .txt "InvalidKey"), ("value", .par 1)]
def L_DuplicateKey : List (Str × Src) := [("code", .txt "DuplicateKey"), ("key", .par 1)]
def L_InvalidLot : List (Str × Src) := [("code", .txt "InvalidLot"), ("value", .par 1)]
def L_InvalidMark : List (Str × Src) := [("code", .txt "InvalidMark"), ("value", .par 1)]
def L_InvalidRow : List (Str × Src) := [("code", .txt "InvalidRow"), ("at", .par 1)]
def L_InvalidText : List (Str × Src) := [("code", .txt "InvalidText"), ("at", .par 1)]
def L_NotSearch : List (Str × Src) := [("code", .txt "NotSearch"), ("key", .par 1)]
def L_InvalidNumbers : List (Str × Src) := [("code", .txt "InvalidNumbers"), ("at", .par 1)]
def L_AlreadyLiving : List (Str × Src) := [("code", .txt "AlreadyLiving"), ("key", .par 1)]
def L_NeighbourMissed : List (Str × Src) := [("code", .txt "NeighbourMissed"), ("key", .par 1), ("neighbour", .par 2)]
def L_TooMany : List (Str × Src) := [("code", .txt "TooMany"), ("what", .par 1), ("count", .par 2)]
def L_NotTop : List (Str × Src) := [("code", .txt "NotTop"), ("key", .par 1)]
def L_OtherKeys : List (Str × Src) := [("code", .txt "OtherKeys"), ("key", .par 1)]
def L_NotClosed : List (Str × Src) := [("code", .txt "NotClosed"), ("key", .par 1), ("needed", .par 2)]
def L_Barred : List (Str × Src) := [("code", .txt "Barred"), ("key", .par 1), ("needed", .par 2)]
def L_Unresolved : List (Str × Src) := [("code", .txt "Unresolved"), ("first", .par 1), ("last", .par 2)]
def L_NotMeeting : List (Str × Src) := [("code", .txt "NotMeeting"), ("k", .par 1), ("x", .par 2)]
def L_InvalidWord : List (Str × Src) := [("code", .txt "InvalidWord"), ("value", .par 1)]
def L_InvalidNumber : List (Str × Src) := [("code", .txt "InvalidNumber"), ("value", .par 1)]
def L_Infeasible : List (Str × Src) := [("code", .txt "Infeasible"), ("i", .par 1), ("j", .par 2), ("k", .par 3), ("x", .par 4)]
def L_Stuck : List (Str × Src) := [("code", .txt "Stuck"), ("moment", .par 1), ("key", .par 2)]
def L_Comes : List (Str × Src) := [("code", .txt "Comes"), ("moment", .par 1)]
def L_InvalidRule : List (Str × Src) := [("code", .txt "InvalidRule"), ("at", .par 1)]
def L_InvalidItem : List (Str × Src) := [("code", .txt "InvalidItem"), ("at", .par 1), ("item", .par 2)]
def L_InvalidName : List (Str × Src) := [("code", .txt "InvalidName"), ("value", .par 1)]
def L_DuplicateName : List (Str × Src) := [("code", .txt "DuplicateName"), ("name", .par 1)]
def L_InvalidNodes : List (Str × Src) := [("code", .txt "InvalidNodes")]
def L_InvalidEdge : List (Str × Src) := [("code", .txt "InvalidEdge"), ("at", .par 1)]
def L_InvalidWalk : List (Str × Src) := [("code", .txt "InvalidWalk"), ("at", .par 1)]
def L_Unsafe : List (Str × Src) := [("code", .txt "Unsafe"), ("walk", .par 1)]
def L_InvalidWall : List (Str × Src) := [("code", .txt "InvalidWall"), ("value", .par 1)]
def L_Untouched : List (Str × Src) := [("code", .txt "Untouched"), ("key", .par 1)]
def L_Affordable : List (Str × Src) := [("code", .txt "Affordable"), ("cells", .par 1)]
def L_NoFilling : List (Str × Src) := [("code", .txt "NoFilling")]
def L_HasFilling : List (Str × Src) := [("code", .txt "HasFilling")]
def L_InvalidDeed : List (Str × Src) := [("code", .txt "InvalidDeed"), ("at", .par 1)]
def L_NameTaken : List (Str × Src) := [("code", .txt "NameTaken"), ("name", .par 1)]
def L_Refused : List (Str × Src) := [("code", .txt "Refused"), ("at", .par 1), ("why", .par 2)]
def L_DraftRunning : List (Str × Src) := [("code", .txt "DraftRunning")]
def L_NoDraft : List (Str × Src) := [("code", .txt "NoDraft")]
def subT : Sub := (("UnknownName", "ShapeError"), false) :: (("UnknownName", "Missing"), true) :: (("UnknownName", "PastEnd"), false) :: (("UnknownName", "NothingLeft"), false) :: (("UnknownCell", "ShapeError"), false) :: (("UnknownCell", "Missing"), true) :: (("UnknownCell", "PastEnd"), false) :: (("UnknownCell", "NothingLeft"), false) :: (("PastEnd", "ShapeError"), false) :: (("PastEnd", "Missing"), false) :: (("PastEnd", "PastEnd"), true) :: (("PastEnd", "NothingLeft"), false) :: (("NothingLeft", "ShapeError"), false) :: (("NothingLeft", "Missing"), false) :: (("NothingLeft", "PastEnd"), false) :: (("NothingLeft", "NothingLeft"), true) :: (("InvalidText", "ShapeError"), true) :: (("InvalidText", "Missing"), false) :: (("InvalidText", "PastEnd"), false) :: (("InvalidText", "NothingLeft"), false) :: (("Barred", "ShapeError"), true) :: (("Barred", "Missing"), false) :: (("Barred", "PastEnd"), false) :: (("Barred", "NothingLeft"), false) :: (("NoDraft", "ShapeError"), true) :: (("NoDraft", "Missing"), false) :: (("NoDraft", "PastEnd"), false) :: (("NoDraft", "NothingLeft"), false) :: []
def csT : List Str := ("UnknownKey" :: "UnknownName" :: "UnknownCell" :: "PastEnd" :: "NothingLeft" :: "InvalidKey" :: "DuplicateKey" :: "InvalidLot" :: "InvalidMark" :: "InvalidRow" :: "InvalidText" :: "NotSearch" :: "InvalidNumbers" :: "AlreadyLiving" :: "NeighbourMissed" :: "TooMany" :: "NotTop" :: "OtherKeys" :: "NotClosed" :: "Barred" :: "Unresolved" :: "NotMeeting" :: "InvalidWord" :: "InvalidNumber" :: "Infeasible" :: "Stuck" :: "Comes" :: "InvalidRule" :: "InvalidItem" :: "InvalidName" :: "DuplicateName" :: "InvalidNodes" :: "InvalidEdge" :: "InvalidWalk" :: "Unsafe" :: "InvalidWall" :: "Untouched" :: "Affordable" :: "NoFilling" :: "HasFilling" :: "InvalidDeed" :: "NameTaken" :: "Refused" :: "DraftRunning" :: "NoDraft" :: [])
def fsT : List Str := ["at", "cells", "code", "count", "first", "i", "item", "j", "k", "key", "last", "moment", "name", "needed", "neighbour", "number", "value", "walk", "what", "why", "x"]
def etT : ET := (("UnknownKey", [.o "UnknownKey", .o "Missing", .b "LookupError", .b "Exception", .b "BaseException", .b "object"]) :: ("UnknownName", [.o "UnknownName", .o "Missing", .b "LookupError", .b "Exception", .b "BaseException", .b "object"]) :: ("UnknownCell", [.o "UnknownCell", .o "Missing", .b "LookupError", .b "Exception", .b "BaseException", .b "object"]) :: ("PastEnd", [.o "PastEnd", .b "IndexError", .b "LookupError", .b "Exception", .b "BaseException", .b "object"]) :: ("NothingLeft", [.o "NothingLeft", .b "IndexError", .b "LookupError", .b "Exception", .b "BaseException", .b "object"]) :: ("InvalidKey", [.o "InvalidKey", .o "ShapeError", .b "ValueError", .b "Exception", .b "BaseException", .b "object"]) :: ("DuplicateKey", [.o "DuplicateKey", .o "ShapeError", .b "ValueError", .b "Exception", .b "BaseException", .b "object"]) :: ("InvalidLot", [.o "InvalidLot", .o "ShapeError", .b "ValueError", .b "Exception", .b "BaseException", .b "object"]) :: ("InvalidMark", [.o "InvalidMark", .o "ShapeError", .b "ValueError", .b "Exception", .b "BaseException", .b "object"]) :: ("InvalidRow", [.o "InvalidRow", .o "ShapeError", .b "ValueError", .b "Exception", .b "BaseException", .b "object"]) :: ("InvalidText", [.o "InvalidText", .o "ShapeError", .b "ValueError", .b "Exception", .b "BaseException", .b "object"]) :: ("NotSearch", [.o "NotSearch", .o "ShapeError", .b "ValueError", .b "Exception", .b "BaseException", .b "object"]) :: ("InvalidNumbers", [.o "InvalidNumbers", .o "ShapeError", .b "ValueError", .b "Exception", .b "BaseException", .b "object"]) :: ("AlreadyLiving", [.o "AlreadyLiving", .o "ShapeError", .b "ValueError", .b "Exception", .b "BaseException", .b "object"]) :: ("NeighbourMissed", [.o "NeighbourMissed", .o "ShapeError", .b "ValueError", .b "Exception", .b "BaseException", .b "object"]) :: ("TooMany", [.o "TooMany", .o "ShapeError", .b "ValueError", .b "Exception", .b "BaseException", .b "object"]) :: ("NotTop", [.o "NotTop", .o "ShapeError", .b "ValueError", .b "Exception", .b "BaseException", .b "object"]) :: ("OtherKeys", [.o "OtherKeys", .o "ShapeError", .b "ValueError", .b "Exception", .b "BaseException", .b "object"]) :: ("NotClosed", [.o "NotClosed", .o "ShapeError", .b "ValueError", .b "Exception", .b "BaseException", .b "object"]) :: ("Barred", [.o "Barred", .o "ShapeError", .b "ValueError", .b "Exception", .b "BaseException", .b "object"]) :: ("Unresolved", [.o "Unresolved", .o "ShapeError", .b "ValueError", .b "Exception", .b "BaseException", .b "object"]) :: ("NotMeeting", [.o "NotMeeting", .o "ShapeError", .b "ValueError", .b "Exception", .b "BaseException", .b "object"]) :: ("InvalidWord", [.o "InvalidWord", .o "ShapeError", .b "ValueError", .b "Exception", .b "BaseException", .b "object"]) :: ("InvalidNumber", [.o "InvalidNumber", .o "ShapeError", .b "ValueError", .b "Exception", .b "BaseException", .b "object"]) :: ("Infeasible", [.o "Infeasible", .o "ShapeError", .b "ValueError", .b "Exception", .b "BaseException", .b "object"]) :: ("Stuck", [.o "Stuck", .o "ShapeError", .b "ValueError", .b "Exception", .b "BaseException", .b "object"]) :: ("Comes", [.o "Comes", .o "ShapeError", .b "ValueError", .b "Exception", .b "BaseException", .b "object"]) :: ("InvalidRule", [.o "InvalidRule", .o "ShapeError", .b "ValueError", .b "Exception", .b "BaseException", .b "object"]) :: ("InvalidItem", [.o "InvalidItem", .o "ShapeError", .b "ValueError", .b "Exception", .b "BaseException", .b "object"]) :: ("InvalidName", [.o "InvalidName", .o "ShapeError", .b "ValueError", .b "Exception", .b "BaseException", .b "object"]) :: ("DuplicateName", [.o "DuplicateName", .o "ShapeError", .b "ValueError", .b "Exception", .b "BaseException", .b "object"]) :: ("InvalidNodes", [.o "InvalidNodes", .o "ShapeError", .b "ValueError", .b "Exception", .b "BaseException", .b "object"]) :: ("InvalidEdge", [.o "InvalidEdge", .o "ShapeError", .b "ValueError", .b "Exception", .b "BaseException", .b "object"]) :: ("InvalidWalk", [.o "InvalidWalk", .o "ShapeError", .b "ValueError", .b "Exception", .b "BaseException", .b "object"]) :: ("Unsafe", [.o "Unsafe", .o "ShapeError", .b "ValueError", .b "Exception", .b "BaseException", .b "object"]) :: ("InvalidWall", [.o "InvalidWall", .o "ShapeError", .b "ValueError", .b "Exception", .b "BaseException", .b "object"]) :: ("Untouched", [.o "Untouched", .o "ShapeError", .b "ValueError", .b "Exception", .b "BaseException", .b "object"]) :: ("Affordable", [.o "Affordable", .o "ShapeError", .b "ValueError", .b "Exception", .b "BaseException", .b "object"]) :: ("NoFilling", [.o "NoFilling", .o "ShapeError", .b "ValueError", .b "Exception", .b "BaseException", .b "object"]) :: ("HasFilling", [.o "HasFilling", .o "ShapeError", .b "ValueError", .b "Exception", .b "BaseException", .b "object"]) :: ("InvalidDeed", [.o "InvalidDeed", .o "ShapeError", .b "ValueError", .b "Exception", .b "BaseException", .b "object"]) :: ("NameTaken", [.o "NameTaken", .o "ShapeError", .b "ValueError", .b "Exception", .b "BaseException", .b "object"]) :: ("Refused", [.o "Refused", .o "ShapeError", .b "ValueError", .b "Exception", .b "BaseException", .b "object"]) :: ("DraftRunning", [.o "DraftRunning", .o "ShapeError", .b "ValueError", .b "Exception", .b "BaseException", .b "object"]) :: ("NoDraft", [.o "NoDraft", .o "ShapeError", .b "ValueError", .b "Exception", .b "BaseException", .b "object"]) :: [])
def etG : List Ty := (.o "Affordable" :: .o "AlreadyLiving" :: .o "Barred" :: .o "Comes" :: .o "DraftRunning" :: .o "DuplicateKey" :: .o "DuplicateName" :: .o "HasFilling" :: .b "IndexError" :: .o "Infeasible" :: .o "InvalidDeed" :: .o "InvalidEdge" :: .o "InvalidItem" :: .o "InvalidKey" :: .o "InvalidLot" :: .o "InvalidMark" :: .o "InvalidName" :: .o "InvalidNodes" :: .o "InvalidNumber" :: .o "InvalidNumbers" :: .o "InvalidRow" :: .o "InvalidRule" :: .o "InvalidText" :: .o "InvalidWalk" :: .o "InvalidWall" :: .o "InvalidWord" :: .b "KeyError" :: .b "LookupError" :: .o "Missing" :: .o "NameTaken" :: .o "NeighbourMissed" :: .o "NoDraft" :: .o "NoFilling" :: .o "NotClosed" :: .o "NotMeeting" :: .o "NotSearch" :: .o "NotTop" :: .o "NothingLeft" :: .o "OtherKeys" :: .o "PastEnd" :: .o "Refused" :: .o "ShapeError" :: .o "Stuck" :: .o "TooMany" :: .o "UnknownCell" :: .o "UnknownKey" :: .o "UnknownName" :: .o "Unresolved" :: .o "Unsafe" :: .o "Untouched" :: .b "ValueError" :: .b "bool" :: .b "int" :: .b "list" :: .b "str" :: .b "tuple" :: [])
def ftT : FT := []
def ocT : List Str := []
def ktT : KT := []
abbrev N_lbag : List Str := ["_law_script", "_law_mixed", "_law_cell"]
def s_lbag : Stmt := st 49
def g_lbag : Mo Fl :=
    (seqM (setM 1 (cst (.int 12039)))
    (seqM (forM (walkA (slM (lett 0) noP (prt (cst (.int 63))))) (tgN 2) (setM 1 (op2 modD (op1 intD (op2 addD (op2 addD (op2 mulD (lett 1) (cst (.int 48271))) (op2 mulD (op2 modD (op1 intD (pek 2)) (cst (.int 1000639))) (cst (.int 883)))) (cst (.int 59)))) (cst (.int 2147483579)))))
    (rtF (lstM (acons (op1 listD (slM (lett 0) noP (prt (cst (.int 63))))) (acons (cst (.int 0)) (acons (cst (.int 0)) (acons (lett 1) (acons (cst (.int 0)) anil)))))))))
def G_lbag : Fn := runD 1 3 g_lbag
abbrev N_lwords : List Str := []
def s_lwords : Stmt := st 53
def g_lwords : Mo Fl :=
    (rtM (met1 splitD (cst (.str "InvalidKey DuplicateKey InvalidLot InvalidMark InvalidRow InvalidText NotSearch InvalidNumbers AlreadyLiving NeighbourMissed TooMany NotTop OtherKeys NotClosed Barred Unresolved NotMeeting InvalidWord InvalidNumber Infeasible Stuck Comes InvalidRule InvalidItem InvalidName DuplicateName InvalidNodes InvalidEdge InvalidWalk Unsafe InvalidWall Untouched Affordable NoFilling HasFilling InvalidDeed NameTaken Refused DraftRunning NoDraft UnknownKey UnknownName UnknownCell PastEnd NothingLeft")) (cst (.str " "))))
def G_lwords : Fn := runD 0 0 g_lwords
abbrev N_ldraw : List Str := ["_law_bag_here", "_law_top", "_law_seed", "_law_cell", "_law_digit"]
def s_ldraw : Stmt := st 50
def g_ldraw : Mo Fl :=
    (seqM (stiM 0 (op2 addD (op2v ixD 0 (cst (.int 4))) (cst (.int 1))) (cst (.int 4)))
    (seqM (ifS (andM (tst (op2 eqQ (op2v ixD 0 (cst (.int 2))) (cst (.int 0)))) (tst (op2 ltA (op2v ixD 0 (cst (.int 1))) (op1 lenD (op2v ixD 0 (cst (.int 0))))))) (seqM (setM 3 (op1 intD (op2 ixD (op2v ixD 0 (cst (.int 0))) (op2v ixD 0 (cst (.int 1))))))
    (seqM (stiM 0 (op2 addD (op2v ixD 0 (cst (.int 1))) (cst (.int 1))) (cst (.int 1)))
    (ifS (tst (op2 geD (op1 absD (pek 3)) (op2 powD (cst (.int 10)) (cst (.int 18))))) (stiM 0 (op1 absD (pek 3)) (cst (.int 2))) (stiM 0 (op2 modD (op1 intD (op2 addD (op2 addD (op2 mulD (op2v ixD 0 (cst (.int 3))) (cst (.int 43889))) (op2 mulD (op2 modD (op1 intD (pek 3)) (cst (.int 1000639))) (cst (.int 773)))) (cst (.int 31)))) (cst (.int 2147483587))) (cst (.int 3)))))) skp)
    (seqM (ifS (tst (op2 gtD (op2v ixD 0 (cst (.int 2))) (cst (.int 0)))) (seqM (setM 4 (op2 modD (op1 intD (op2v ixD 0 (cst (.int 2)))) (pek 1)))
    (seqM (stiM 0 (op2 fdivD (op2v ixD 0 (cst (.int 2))) (pek 1)) (cst (.int 2)))
    (rtM (lett 4)))) skp)
    (seqM (setM 2 (op1 intD (op2v ixD 0 (cst (.int 3)))))
    (seqM (stiM 0 (op2 modD (op1 intD (op2 addD (op2 addD (op2 addD (op2 powD (lett 2) (cst (.int 3))) (op2 mulD (lett 2) (cst (.int 47111)))) (op2 mulD (op2v ixD 0 (cst (.int 4))) (cst (.int 110323)))) (cst (.int 60089)))) (cst (.int 2147483549))) (cst (.int 3)))
    (rtM (op2 modD (op1 intD (op2 addD (op2 fdivD (op2v ixD 0 (cst (.int 3))) (cst (.int 71))) (op2 mulD (op2 modD (op1 intD (op2v ixD 0 (cst (.int 3)))) (cst (.int 8017))) (cst (.int 59))))) (pek 1))))))))
def G_ldraw : Fn := runD 2 5 g_ldraw
abbrev N_lof : List Str := ["_law_bag_here", "_law_some"]
def s_lof : Stmt := st 51
def g_lof : Mo Fl :=
    (rtM (op2v ixD 1 (calM G_ldraw (acons (lett 0) (acons (op1 lenD (pek 1)) anil)))))
def G_lof : Fn := runD 2 2 g_lof
abbrev N_lany : List Str := ["_law_bag_here", "_law_menu"]
def s_lany : Stmt := st 60
def g_lany : Mo Fl :=
    (seqM (setM 1 (lstM (acons (cst .non) (acons (cst (.bl true)) (acons (cst (.bl false)) (acons (cst (.int 0)) (acons (cst (.int 1)) (acons (op1 negD (cst (.int 3))) (acons (op2 powD (cst (.int 10)) (cst (.int 39))) (acons (cst (.str "")) (acons (cst (.str "a")) (acons (cst (.str "keys")) (acons (tupM anil) (acons (lstM anil) (acons (tupM (acons (cst (.int 1)) (acons (cst (.int 2)) anil))) (acons (lstM (acons (cst (.bl true)) anil)) (acons newD (acons (dspM (((cst (.str "a")), (lstM (acons (cst (.int 1)) anil))) :: [])) (acons (tupM (acons (cst (.int 1)) (acons (cst (.int 2)) (acons (tupM (acons (tupM anil) (acons (cst (.str "x")) anil))) anil)))) (acons (lstM (acons (tupM (acons (cst (.int 0)) (acons (cst (.int 3)) anil))) anil)) (acons (errM "UnknownKey" L_UnknownKey 1 (kwD 1 0 [0] [] (acons (cst (.int 4)) anil) anil)) anil)))))))))))))))))))))
    (rtM (calM G_lof (acons (lett 0) (acons (op2 addD (lett 1) (lstM (acons (calM G_ldraw (acons (lett 0) (acons (cst (.int 1000)) anil))) (acons (calM G_ldraw (acons (lett 0) (acons (op2 powD (cst (.int 10)) (cst (.int 40))) anil))) anil)))) anil)))))
def G_lany : Fn := runD 1 2 g_lany
abbrev N_lby_place : List Str := ["_law_p", "_law_q", "_law_r", "_law_s"]
def s_lby_place : Stmt := st 54
def g_lby_place : Mo Fl :=
    (rtM (lstM (acons (errM "InvalidKey" L_InvalidKey 1 (kwD 1 0 [0] [] (acons (lett 0) anil) anil)) (acons (errM "DuplicateKey" L_DuplicateKey 1 (kwD 1 0 [0] [] (acons (lett 0) anil) anil)) (acons (errM "InvalidLot" L_InvalidLot 1 (kwD 1 0 [0] [] (acons (lett 0) anil) anil)) (acons (errM "InvalidMark" L_InvalidMark 1 (kwD 1 0 [0] [] (acons (lett 0) anil) anil)) (acons (errM "InvalidRow" L_InvalidRow 1 (kwD 1 0 [0] [] (acons (lett 0) anil) anil)) (acons (errM "InvalidText" L_InvalidText 1 (kwD 1 0 [0] [] (acons (lett 0) anil) anil)) (acons (errM "NotSearch" L_NotSearch 1 (kwD 1 0 [0] [] (acons (lett 0) anil) anil)) (acons (errM "InvalidNumbers" L_InvalidNumbers 1 (kwD 1 0 [0] [] (acons (lett 0) anil) anil)) (acons (errM "AlreadyLiving" L_AlreadyLiving 1 (kwD 1 0 [0] [] (acons (lett 0) anil) anil)) (acons (errM "NeighbourMissed" L_NeighbourMissed 2 (kwD 2 0 [0, 1] [] (acons (lett 0) (acons (lett 1) anil)) anil)) (acons (errM "TooMany" L_TooMany 2 (kwD 2 0 [0, 1] [] (acons (lett 0) (acons (lett 1) anil)) anil)) (acons (errM "NotTop" L_NotTop 1 (kwD 1 0 [0] [] (acons (lett 0) anil) anil)) (acons (errM "OtherKeys" L_OtherKeys 1 (kwD 1 0 [0] [] (acons (lett 0) anil) anil)) (acons (errM "NotClosed" L_NotClosed 2 (kwD 2 0 [0, 1] [] (acons (lett 0) (acons (lett 1) anil)) anil)) (acons (errM "Barred" L_Barred 2 (kwD 2 0 [0, 1] [] (acons (lett 0) (acons (lett 1) anil)) anil)) (acons (errM "Unresolved" L_Unresolved 2 (kwD 2 0 [0, 1] [] (acons (lett 0) (acons (lett 1) anil)) anil)) (acons (errM "NotMeeting" L_NotMeeting 2 (kwD 2 0 [0, 1] [] (acons (lett 0) (acons (lett 1) anil)) anil)) (acons (errM "InvalidWord" L_InvalidWord 1 (kwD 1 0 [0] [] (acons (lett 0) anil) anil)) (acons (errM "InvalidNumber" L_InvalidNumber 1 (kwD 1 0 [0] [] (acons (lett 0) anil) anil)) (acons (errM "Infeasible" L_Infeasible 4 (kwD 4 0 [0, 1, 2, 3] [] (acons (lett 0) (acons (lett 1) (acons (lett 2) (acons (lett 3) anil)))) anil)) (acons (errM "Stuck" L_Stuck 2 (kwD 2 0 [0, 1] [] (acons (lett 0) (acons (lett 1) anil)) anil)) (acons (errM "Comes" L_Comes 1 (kwD 1 0 [0] [] (acons (lett 0) anil) anil)) (acons (errM "InvalidRule" L_InvalidRule 1 (kwD 1 0 [0] [] (acons (lett 0) anil) anil)) (acons (errM "InvalidItem" L_InvalidItem 2 (kwD 2 0 [0, 1] [] (acons (lett 0) (acons (lett 1) anil)) anil)) (acons (errM "InvalidName" L_InvalidName 1 (kwD 1 0 [0] [] (acons (lett 0) anil) anil)) (acons (errM "DuplicateName" L_DuplicateName 1 (kwD 1 0 [0] [] (acons (lett 0) anil) anil)) (acons (errM "InvalidNodes" L_InvalidNodes 0 (kwD 0 0 [] [] anil anil)) (acons (errM "InvalidEdge" L_InvalidEdge 1 (kwD 1 0 [0] [] (acons (lett 0) anil) anil)) (acons (errM "InvalidWalk" L_InvalidWalk 1 (kwD 1 0 [0] [] (acons (lett 0) anil) anil)) (acons (errM "Unsafe" L_Unsafe 1 (kwD 1 0 [0] [] (acons (lett 0) anil) anil)) (acons (errM "InvalidWall" L_InvalidWall 1 (kwD 1 0 [0] [] (acons (lett 0) anil) anil)) (acons (errM "Untouched" L_Untouched 1 (kwD 1 0 [0] [] (acons (lett 0) anil) anil)) (acons (errM "Affordable" L_Affordable 1 (kwD 1 0 [0] [] (acons (lett 0) anil) anil)) (acons (errM "NoFilling" L_NoFilling 0 (kwD 0 0 [] [] anil anil)) (acons (errM "HasFilling" L_HasFilling 0 (kwD 0 0 [] [] anil anil)) (acons (errM "InvalidDeed" L_InvalidDeed 1 (kwD 1 0 [0] [] (acons (lett 0) anil) anil)) (acons (errM "NameTaken" L_NameTaken 1 (kwD 1 0 [0] [] (acons (lett 0) anil) anil)) (acons (errM "Refused" L_Refused 2 (kwD 2 0 [0, 1] [] (acons (lett 0) (acons (lett 1) anil)) anil)) (acons (errM "DraftRunning" L_DraftRunning 0 (kwD 0 0 [] [] anil anil)) (acons (errM "NoDraft" L_NoDraft 0 (kwD 0 0 [] [] anil anil)) (acons (errM "UnknownKey" L_UnknownKey 1 (kwD 1 0 [0] [] (acons (lett 0) anil) anil)) (acons (errM "UnknownName" L_UnknownName 1 (kwD 1 0 [0] [] (acons (lett 0) anil) anil)) (acons (errM "UnknownCell" L_UnknownCell 1 (kwD 1 0 [0] [] (acons (lett 0) anil) anil)) (acons (errM "PastEnd" L_PastEnd 2 (kwD 2 0 [0, 1] [] (acons (lett 0) (acons (lett 1) anil)) anil)) (acons (errM "NothingLeft" L_NothingLeft 0 (kwD 0 0 [] [] anil anil)) anil)))))))))))))))))))))))))))))))))))))))))))))))
def G_lby_place : Fn := runD 4 4 g_lby_place
abbrev N_lby_name : List Str := ["_law_p", "_law_q", "_law_r", "_law_s"]
def s_lby_name : Stmt := st 55
def g_lby_name : Mo Fl :=
    (rtM (lstM (acons (errM "InvalidKey" L_InvalidKey 1 (kwD 0 1 [0] [] anil (acons (lett 0) anil))) (acons (errM "DuplicateKey" L_DuplicateKey 1 (kwD 0 1 [0] [] anil (acons (lett 0) anil))) (acons (errM "InvalidLot" L_InvalidLot 1 (kwD 0 1 [0] [] anil (acons (lett 0) anil))) (acons (errM "InvalidMark" L_InvalidMark 1 (kwD 0 1 [0] [] anil (acons (lett 0) anil))) (acons (errM "InvalidRow" L_InvalidRow 1 (kwD 0 1 [0] [] anil (acons (lett 0) anil))) (acons (errM "InvalidText" L_InvalidText 1 (kwD 0 1 [0] [] anil (acons (lett 0) anil))) (acons (errM "NotSearch" L_NotSearch 1 (kwD 0 1 [0] [] anil (acons (lett 0) anil))) (acons (errM "InvalidNumbers" L_InvalidNumbers 1 (kwD 0 1 [0] [] anil (acons (lett 0) anil))) (acons (errM "AlreadyLiving" L_AlreadyLiving 1 (kwD 0 1 [0] [] anil (acons (lett 0) anil))) (acons (errM "NeighbourMissed" L_NeighbourMissed 2 (kwD 0 2 [1, 0] [] anil (acons (lett 1) (acons (lett 0) anil)))) (acons (errM "TooMany" L_TooMany 2 (kwD 0 2 [1, 0] [] anil (acons (lett 1) (acons (lett 0) anil)))) (acons (errM "NotTop" L_NotTop 1 (kwD 0 1 [0] [] anil (acons (lett 0) anil))) (acons (errM "OtherKeys" L_OtherKeys 1 (kwD 0 1 [0] [] anil (acons (lett 0) anil))) (acons (errM "NotClosed" L_NotClosed 2 (kwD 0 2 [1, 0] [] anil (acons (lett 1) (acons (lett 0) anil)))) (acons (errM "Barred" L_Barred 2 (kwD 0 2 [1, 0] [] anil (acons (lett 1) (acons (lett 0) anil)))) (acons (errM "Unresolved" L_Unresolved 2 (kwD 0 2 [1, 0] [] anil (acons (lett 1) (acons (lett 0) anil)))) (acons (errM "NotMeeting" L_NotMeeting 2 (kwD 0 2 [1, 0] [] anil (acons (lett 1) (acons (lett 0) anil)))) (acons (errM "InvalidWord" L_InvalidWord 1 (kwD 0 1 [0] [] anil (acons (lett 0) anil))) (acons (errM "InvalidNumber" L_InvalidNumber 1 (kwD 0 1 [0] [] anil (acons (lett 0) anil))) (acons (errM "Infeasible" L_Infeasible 4 (kwD 0 4 [3, 2, 1, 0] [] anil (acons (lett 3) (acons (lett 2) (acons (lett 1) (acons (lett 0) anil)))))) (acons (errM "Stuck" L_Stuck 2 (kwD 0 2 [1, 0] [] anil (acons (lett 1) (acons (lett 0) anil)))) (acons (errM "Comes" L_Comes 1 (kwD 0 1 [0] [] anil (acons (lett 0) anil))) (acons (errM "InvalidRule" L_InvalidRule 1 (kwD 0 1 [0] [] anil (acons (lett 0) anil))) (acons (errM "InvalidItem" L_InvalidItem 2 (kwD 0 2 [1, 0] [] anil (acons (lett 1) (acons (lett 0) anil)))) (acons (errM "InvalidName" L_InvalidName 1 (kwD 0 1 [0] [] anil (acons (lett 0) anil))) (acons (errM "DuplicateName" L_DuplicateName 1 (kwD 0 1 [0] [] anil (acons (lett 0) anil))) (acons (errM "InvalidNodes" L_InvalidNodes 0 (kwD 0 0 [] [] anil anil)) (acons (errM "InvalidEdge" L_InvalidEdge 1 (kwD 0 1 [0] [] anil (acons (lett 0) anil))) (acons (errM "InvalidWalk" L_InvalidWalk 1 (kwD 0 1 [0] [] anil (acons (lett 0) anil))) (acons (errM "Unsafe" L_Unsafe 1 (kwD 0 1 [0] [] anil (acons (lett 0) anil))) (acons (errM "InvalidWall" L_InvalidWall 1 (kwD 0 1 [0] [] anil (acons (lett 0) anil))) (acons (errM "Untouched" L_Untouched 1 (kwD 0 1 [0] [] anil (acons (lett 0) anil))) (acons (errM "Affordable" L_Affordable 1 (kwD 0 1 [0] [] anil (acons (lett 0) anil))) (acons (errM "NoFilling" L_NoFilling 0 (kwD 0 0 [] [] anil anil)) (acons (errM "HasFilling" L_HasFilling 0 (kwD 0 0 [] [] anil anil)) (acons (errM "InvalidDeed" L_InvalidDeed 1 (kwD 0 1 [0] [] anil (acons (lett 0) anil))) (acons (errM "NameTaken" L_NameTaken 1 (kwD 0 1 [0] [] anil (acons (lett 0) anil))) (acons (errM "Refused" L_Refused 2 (kwD 0 2 [1, 0] [] anil (acons (lett 1) (acons (lett 0) anil)))) (acons (errM "DraftRunning" L_DraftRunning 0 (kwD 0 0 [] [] anil anil)) (acons (errM "NoDraft" L_NoDraft 0 (kwD 0 0 [] [] anil anil)) (acons (errM "UnknownKey" L_UnknownKey 1 (kwD 0 1 [0] [] anil (acons (lett 0) anil))) (acons (errM "UnknownName" L_UnknownName 1 (kwD 0 1 [0] [] anil (acons (lett 0) anil))) (acons (errM "UnknownCell" L_UnknownCell 1 (kwD 0 1 [0] [] anil (acons (lett 0) anil))) (acons (errM "PastEnd" L_PastEnd 2 (kwD 0 2 [1, 0] [] anil (acons (lett 1) (acons (lett 0) anil)))) (acons (errM "NothingLeft" L_NothingLeft 0 (kwD 0 0 [] [] anil anil)) anil)))))))))))))))))))))))))))))))))))))))))))))))
def G_lby_name : Fn := runD 4 4 g_lby_name
abbrev N_lsame : List Str := ["_law_found", "_law_due", "_law_p", "_law_q"]
def s_lsame : Stmt := st 52
def g_lsame (G : Fn) : Mo Fl :=
    (seqM (ifS (tru (isiX ktT etT etG ocT [.b "list", .b "tuple"] (lett 1))) (seqM (ifS (orM (tst (op2 neD (isiX ktT etT etG ocT [.b "list"] (lett 0)) (isiX ktT etT etG ocT [.b "list"] (lett 1)))) (tst (op2 neD (isiX ktT etT etG ocT [.b "tuple"] (lett 0)) (isiX ktT etT etG ocT [.b "tuple"] (lett 1))))) (rtM (cst (.bl false))) skp)
    (rtM (andV (op2 eqQ (op1 lenD (pek 0)) (op1 lenD (pek 1))) (op1 allD (lcM [2, 3] (zipM (acons (lett 0) (acons (lett 1) anil))) (tgT 2 (tgCons (tgN 2) (tgCons (tgN 3) tgNil))) (ret true) (calM G (acons (lett 2) (acons (lett 3) anil)))))))) skp)
    (seqM (ifS (tru (isiX ktT etT etG ocT [.b "list", .b "tuple"] (lett 0))) (rtM (cst (.bl false))) skp)
    (seqM (ifS (orM (tst (op2 (isND false) (lett 1) (cst .non))) (tst (op2 (isND false) (lett 0) (cst .non)))) (rtM (andV (op2 (isND false) (lett 1) (cst .non)) (op2 (isND false) (lett 0) (cst .non)))) skp)
    (seqM (ifS (orM (tru (isiX ktT etT etG ocT [.b "bool"] (lett 1))) (tru (isiX ktT etT etG ocT [.b "bool"] (lett 0)))) (rtM (andV (isiX ktT etT etG ocT [.b "bool"] (lett 1)) (andV (isiX ktT etT etG ocT [.b "bool"] (lett 0)) (eqN ["UnknownKey"] 0 1)))) skp)
    (seqM (ifS (orM (tru (isiX ktT etT etG ocT [.b "int"] (lett 1))) (tru (isiX ktT etT etG ocT [.b "int"] (lett 0)))) (rtM (andV (isiX ktT etT etG ocT [.b "int"] (lett 1)) (andV (isiX ktT etT etG ocT [.b "int"] (lett 0)) (eqN ["UnknownKey"] 0 1)))) skp)
    (seqM (ifS (orM (tru (isiX ktT etT etG ocT [.b "str"] (lett 1))) (tru (isiX ktT etT etG ocT [.b "str"] (lett 0)))) (rtM (andV (isiX ktT etT etG ocT [.b "str"] (lett 1)) (andV (isiX ktT etT etG ocT [.b "str"] (lett 0)) (eqN ["UnknownKey"] 0 1)))) skp)
    (rtM (eqN ["UnknownKey"] 0 1))))))))
def GN_lsame : Nat → Fn
  | 0 => fun _ _ => .no
  | n + 1 => runD 2 4 (g_lsame (GN_lsame n))
abbrev G_lsame : Fn := GN_lsame 6
abbrev N_lfields : List Str := ["_law_n", "_law_e"]
def s_lfields : Stmt := st 58
def g_lfields : Mo Fl :=
    (seqM (ifS (tst (op2 inD (lett 0) (lstM (acons (cst (.int 0)) (acons (cst (.int 2)) (acons (cst (.int 3)) (acons (cst (.int 17)) (acons (cst (.int 18)) (acons (cst (.int 24)) (acons (cst (.int 30)) (acons (cst (.int 42)) anil))))))))))) (rtM (tupM (acons (erfV csT fsT "value" 1) anil))) skp)
    (seqM (ifS (tst (op2 inD (lett 0) (lstM (acons (cst (.int 1)) (acons (cst (.int 6)) (acons (cst (.int 8)) (acons (cst (.int 11)) (acons (cst (.int 12)) (acons (cst (.int 31)) (acons (cst (.int 40)) anil)))))))))) (rtM (tupM (acons (erfV csT fsT "key" 1) anil))) skp)
    (seqM (ifS (tst (op2 inD (lett 0) (lstM (acons (cst (.int 4)) (acons (cst (.int 5)) (acons (cst (.int 7)) (acons (cst (.int 22)) (acons (cst (.int 27)) (acons (cst (.int 28)) (acons (cst (.int 35)) anil)))))))))) (rtM (tupM (acons (erfV csT fsT "at" 1) anil))) skp)
    (seqM (ifS (tst (op2 eqQ (lett 0) (cst (.int 9)))) (rtM (tupM (acons (erfV csT fsT "key" 1) (acons (erfV csT fsT "neighbour" 1) anil)))) skp)
    (seqM (ifS (tst (op2 eqQ (lett 0) (cst (.int 10)))) (rtM (tupM (acons (erfV csT fsT "what" 1) (acons (erfV csT fsT "count" 1) anil)))) skp)
    (seqM (ifS (tst (op2 inD (lett 0) (lstM (acons (cst (.int 13)) (acons (cst (.int 14)) anil))))) (rtM (tupM (acons (erfV csT fsT "key" 1) (acons (erfV csT fsT "needed" 1) anil)))) skp)
    (seqM (ifS (tst (op2 eqQ (lett 0) (cst (.int 15)))) (rtM (tupM (acons (erfV csT fsT "first" 1) (acons (erfV csT fsT "last" 1) anil)))) skp)
    (seqM (ifS (tst (op2 eqQ (lett 0) (cst (.int 16)))) (rtM (tupM (acons (erfV csT fsT "k" 1) (acons (erfV csT fsT "x" 1) anil)))) skp)
    (seqM (ifS (tst (op2 eqQ (lett 0) (cst (.int 19)))) (rtM (tupM (acons (erfV csT fsT "i" 1) (acons (erfV csT fsT "j" 1) (acons (erfV csT fsT "k" 1) (acons (erfV csT fsT "x" 1) anil)))))) skp)
    (seqM (ifS (tst (op2 eqQ (lett 0) (cst (.int 20)))) (rtM (tupM (acons (erfV csT fsT "moment" 1) (acons (erfV csT fsT "key" 1) anil)))) skp)
    (seqM (ifS (tst (op2 eqQ (lett 0) (cst (.int 21)))) (rtM (tupM (acons (erfV csT fsT "moment" 1) anil))) skp)
    (seqM (ifS (tst (op2 eqQ (lett 0) (cst (.int 23)))) (rtM (tupM (acons (erfV csT fsT "at" 1) (acons (erfV csT fsT "item" 1) anil)))) skp)
    (seqM (ifS (tst (op2 inD (lett 0) (lstM (acons (cst (.int 25)) (acons (cst (.int 36)) (acons (cst (.int 41)) anil)))))) (rtM (tupM (acons (erfV csT fsT "name" 1) anil))) skp)
    (seqM (ifS (tst (op2 eqQ (lett 0) (cst (.int 29)))) (rtM (tupM (acons (erfV csT fsT "walk" 1) anil))) skp)
    (seqM (ifS (tst (op2 eqQ (lett 0) (cst (.int 32)))) (rtM (tupM (acons (erfV csT fsT "cells" 1) anil))) skp)
    (seqM (ifS (tst (op2 eqQ (lett 0) (cst (.int 37)))) (rtM (tupM (acons (erfV csT fsT "at" 1) (acons (erfV csT fsT "why" 1) anil)))) skp)
    (rtM (ifM (tst (op2 eqQ (lett 0) (cst (.int 43)))) (tupM (acons (erfV csT fsT "number" 1) (acons (erfV csT fsT "count" 1) anil))) (tupM anil)))))))))))))))))))
def G_lfields : Fn := runD 2 2 g_lfields
abbrev N_lsorts : List Str := ["_law_e"]
def s_lsorts : Stmt := st 56
def g_lsorts : Mo Fl :=
    (rtM (lstM (acons (isiE etT etG (.o "InvalidKey") (lett 0)) (acons (isiE etT etG (.o "DuplicateKey") (lett 0)) (acons (isiE etT etG (.o "InvalidLot") (lett 0)) (acons (isiE etT etG (.o "InvalidMark") (lett 0)) (acons (isiE etT etG (.o "InvalidRow") (lett 0)) (acons (isiE etT etG (.o "InvalidText") (lett 0)) (acons (isiE etT etG (.o "NotSearch") (lett 0)) (acons (isiE etT etG (.o "InvalidNumbers") (lett 0)) (acons (isiE etT etG (.o "AlreadyLiving") (lett 0)) (acons (isiE etT etG (.o "NeighbourMissed") (lett 0)) (acons (isiE etT etG (.o "TooMany") (lett 0)) (acons (isiE etT etG (.o "NotTop") (lett 0)) (acons (isiE etT etG (.o "OtherKeys") (lett 0)) (acons (isiE etT etG (.o "NotClosed") (lett 0)) (acons (isiE etT etG (.o "Barred") (lett 0)) (acons (isiE etT etG (.o "Unresolved") (lett 0)) (acons (isiE etT etG (.o "NotMeeting") (lett 0)) (acons (isiE etT etG (.o "InvalidWord") (lett 0)) (acons (isiE etT etG (.o "InvalidNumber") (lett 0)) (acons (isiE etT etG (.o "Infeasible") (lett 0)) (acons (isiE etT etG (.o "Stuck") (lett 0)) (acons (isiE etT etG (.o "Comes") (lett 0)) (acons (isiE etT etG (.o "InvalidRule") (lett 0)) (acons (isiE etT etG (.o "InvalidItem") (lett 0)) (acons (isiE etT etG (.o "InvalidName") (lett 0)) (acons (isiE etT etG (.o "DuplicateName") (lett 0)) (acons (isiE etT etG (.o "InvalidNodes") (lett 0)) (acons (isiE etT etG (.o "InvalidEdge") (lett 0)) (acons (isiE etT etG (.o "InvalidWalk") (lett 0)) (acons (isiE etT etG (.o "Unsafe") (lett 0)) (acons (isiE etT etG (.o "InvalidWall") (lett 0)) (acons (isiE etT etG (.o "Untouched") (lett 0)) (acons (isiE etT etG (.o "Affordable") (lett 0)) (acons (isiE etT etG (.o "NoFilling") (lett 0)) (acons (isiE etT etG (.o "HasFilling") (lett 0)) (acons (isiE etT etG (.o "InvalidDeed") (lett 0)) (acons (isiE etT etG (.o "NameTaken") (lett 0)) (acons (isiE etT etG (.o "Refused") (lett 0)) (acons (isiE etT etG (.o "DraftRunning") (lett 0)) (acons (isiE etT etG (.o "NoDraft") (lett 0)) (acons (isiE etT etG (.o "UnknownKey") (lett 0)) (acons (isiE etT etG (.o "UnknownName") (lett 0)) (acons (isiE etT etG (.o "UnknownCell") (lett 0)) (acons (isiE etT etG (.o "PastEnd") (lett 0)) (acons (isiE etT etG (.o "NothingLeft") (lett 0)) anil)))))))))))))))))))))))))))))))))))))))))))))))
def G_lsorts : Fn := runD 1 1 g_lsorts
abbrev N_lbases : List Str := ["_law_e"]
def s_lbases : Stmt := st 57
def g_lbases : Mo Fl :=
    (rtM (lstM (acons (isiE etT etG (.o "ShapeError") (lett 0)) (acons (isiE etT etG (.b "ValueError") (lett 0)) (acons (isiE etT etG (.o "Missing") (lett 0)) (acons (isiE etT etG (.b "LookupError") (lett 0)) (acons (isiE etT etG (.b "IndexError") (lett 0)) (acons (isiE etT etG (.b "KeyError") (lett 0)) anil))))))))
def G_lbases : Fn := runD 1 1 g_lbases
abbrev N_lupper : List Str := ["_law_way", "_law_p", "_law_q", "_law_e"]
def s_lupper : Stmt := st 59
def g_lupper : Mo Fl :=
    (tryM subT (seqM (ifS (tst (op2 eqQ (lett 0) (cst (.int 0)))) (raiM "InvalidText" L_InvalidText 1 (acons (lett 1) anil)) skp)
    (seqM (ifS (tst (op2 eqQ (lett 0) (cst (.int 1)))) (raiM "UnknownName" L_UnknownName 1 (acons (lett 1) anil)) skp)
    (seqM (ifS (tst (op2 eqQ (lett 0) (cst (.int 2)))) (raiM "Barred" L_Barred 2 (acons (lett 1) (acons (lett 2) anil))) skp)
    (seqM (ifS (tst (op2 eqQ (lett 0) (cst (.int 3)))) (raiM "UnknownCell" L_UnknownCell 1 (acons (lett 1) anil)) skp)
    (seqM (ifS (tst (op2 eqQ (lett 0) (cst (.int 4)))) (raiM "PastEnd" L_PastEnd 2 (acons (lett 1) (acons (lett 2) anil))) skp)
    (seqM (ifS (tst (op2 eqQ (lett 0) (cst (.int 5)))) (raiM "NoDraft" L_NoDraft 0 anil) skp)
    (raiM "NothingLeft" L_NothingLeft 0 anil))))))) (⟨"Missing", some 3, (rtM (tupM (acons (cst (.str "missing")) (acons (exAt csT fsT 3 "code") anil))))⟩ :: (⟨"ShapeError", some 3, (rtM (tupM (acons (cst (.str "shape")) (acons (exAt csT fsT 3 "code") anil))))⟩ :: (⟨"PastEnd", some 3, (rtM (tupM (acons (cst (.str "end")) (acons (exAt csT fsT 3 "code") (acons (exAt csT fsT 3 "number") (acons (exAt csT fsT 3 "count") anil))))))⟩ :: (⟨"NothingLeft", some 3, (rtM (tupM (acons (cst (.str "left")) (acons (exAt csT fsT 3 "code") anil))))⟩ :: [])))))
def G_lupper : Fn := runD 3 4 g_lupper
abbrev N_law : List Str := ["_law_script", "_law_bag_here", "_law_words_here", "_law_turn", "_law_rows", "_law_others", "_law_errors", "_law_due", "_law_p", "_law_q", "_law_r", "_law_s", "_law_n", "_law_e", "_law_way", "_law_m"]
def s_law : Stmt := st 61
def g_law : Mo Fl :=
    (seqM (setF 1 (cawM G_lbag (acons (lett 0) anil)))
    (celM 1 (seqM (setM 2 (calM G_lwords (kwA 0 0 [] anil anil)))
    (seqM (forM (rngM1 (acons (cst (.int 2)) anil)) (tgN 3) (seqM (asgM (tupM (acons (calM G_lany (acons (lett 1) anil)) (acons (calM G_lany (acons (lett 1) anil)) (acons (calM G_lany (acons (lett 1) anil)) (acons (calM G_lany (acons (lett 1) anil)) anil))))) (tgT 4 (tgCons (tgN 8) (tgCons (tgN 9) (tgCons (tgN 10) (tgCons (tgN 11) tgNil))))))
    (seqM (setM 4 (lcM [12] (rngM1 (acons (cst (.int 45)) anil)) (tgN 12) (ret true) (ifM (tst (op2 inD (lett 12) (lstM (acons (cst (.int 9)) (acons (cst (.int 10)) (acons (cst (.int 13)) (acons (cst (.int 14)) (acons (cst (.int 15)) (acons (cst (.int 16)) (acons (cst (.int 20)) (acons (cst (.int 23)) (acons (cst (.int 37)) (acons (cst (.int 43)) anil))))))))))))) (tupM (acons (lett 8) (acons (lett 9) anil))) (tupM (acons (lett 8) anil)))))
    (seqM (setM 4 (lcM [12] (rngM1 (acons (cst (.int 45)) anil)) (tgN 12) (ret true) (ifM (tst (op2 inD (lett 12) (lstM (acons (cst (.int 26)) (acons (cst (.int 33)) (acons (cst (.int 34)) (acons (cst (.int 38)) (acons (cst (.int 39)) (acons (cst (.int 44)) anil))))))))) (tupM anil) (ifM (tst (op2 eqQ (lett 12) (cst (.int 19)))) (tupM (acons (lett 8) (acons (lett 9) (acons (lett 10) (acons (lett 11) anil))))) (op2v ixD 4 (lett 12))))))
    (seqM (setM 5 (calM G_lby_place (acons (lett 11) (acons (lett 10) (acons (lett 9) (acons (lett 8) anil))))))
    (seqM (forM (walkA (lstM (acons (calM G_lby_place (acons (lett 8) (acons (lett 9) (acons (lett 10) (acons (lett 11) anil))))) (acons (calM G_lby_name (acons (lett 8) (acons (lett 9) (acons (lett 10) (acons (lett 11) anil))))) anil)))) (tgN 6) (forM (rngM1 (acons (cst (.int 45)) anil)) (tgN 12) (seqM (setM 13 (op2v ixD 6 (lett 12)))
    (seqM (ifS (notM (tru (calM G_lsame (acons (lstM (acons (calM G_lfields (acons (lett 12) (acons (lett 13) anil))) (acons (erfV csT fsT "code" 13) anil))) (acons (lstM (acons (op2v ixD 4 (lett 12)) (acons (op2v ixD 2 (lett 12)) anil))) anil))))) (rtM (cst (.bl false))) skp)
    (seqM (ifS (notM (tru (calM G_lsame (acons (calM G_lsorts (acons (lett 13) anil)) (acons (lcM [15] (rngM1 (acons (cst (.int 45)) anil)) (tgN 15) (ret true) (op2 eqQ (lett 15) (pek 12))) anil))))) (rtM (cst (.bl false))) skp)
    (ifS (notM (tru (calM G_lsame (acons (calM G_lbases (acons (lett 13) anil)) (acons (lstM (acons (op2 ltA (lett 12) (cst (.int 40))) (acons (op2 ltA (lett 12) (cst (.int 40))) (acons (op2 inD (lett 12) (lstM (acons (cst (.int 40)) (acons (cst (.int 41)) (acons (cst (.int 42)) anil))))) (acons (op2 gtD (lett 12) (cst (.int 39))) (acons (op2 gtD (lett 12) (cst (.int 42))) (acons (cst (.bl false)) anil))))))) anil))))) (rtM (cst (.bl false))) skp))))))
    (seqM (ifS (notM (tru (calM G_lsame (acons (lcM [12] (walkA (lstM (acons (cst (.int 0)) (acons (cst (.int 9)) (acons (cst (.int 19)) (acons (cst (.int 37)) (acons (cst (.int 40)) (acons (cst (.int 43)) anil)))))))) (tgN 12) (ret true) (slM (calM G_lfields (acons (lett 12) (acons (op2v ixD 5 (lett 12)) anil))) noP (prt (cst (.int 1))))) (acons (op2 mulX (lstM (acons (tupM (acons (lett 11) anil)) anil)) (cst (.int 6))) anil))))) (rtM (cst (.bl false))) skp)
    (seqM (setM 7 (lstM (acons (tupM (acons (cst (.str "shape")) (acons (cst (.str "InvalidText")) anil))) (acons (tupM (acons (cst (.str "missing")) (acons (cst (.str "UnknownName")) anil))) (acons (tupM (acons (cst (.str "shape")) (acons (cst (.str "Barred")) anil))) (acons (tupM (acons (cst (.str "missing")) (acons (cst (.str "UnknownCell")) anil))) (acons (tupM (acons (cst (.str "end")) (acons (cst (.str "PastEnd")) (acons (lett 8) (acons (lett 9) anil))))) anil)))))))
    (seqM (setM 7 (op2 addD (lett 7) (lstM (acons (tupM (acons (cst (.str "shape")) (acons (cst (.str "NoDraft")) anil))) (acons (tupM (acons (cst (.str "left")) (acons (cst (.str "NothingLeft")) anil))) anil)))))
    (ifS (notM (tru (calM G_lsame (acons (lcM [14] (rngM1 (acons (cst (.int 7)) anil)) (tgN 14) (ret true) (calM G_lupper (acons (lett 14) (acons (lett 8) (acons (lett 9) anil))))) (acons (lett 7) anil))))) (rtM (cst (.bl false))) skp))))))))))
    (rtM (cst (.bl true)))))))
def G_law : Fn := runD 1 16 g_law
/-- what the texts of the defs lean on -/
structure Tx (K : PySem.W.Frag) (mg : Str → Option Value) : Prop where
  b_IndexError : mg "IndexError" = none
  b_KeyError : mg "KeyError" = none
  b_LookupError : mg "LookupError" = none
  b_ValueError : mg "ValueError" = none
  b_abs : mg "abs" = none
  b_all : mg "all" = none
  b_bool : mg "bool" = none
  b_int : mg "int" = none
  b_isinstance : mg "isinstance" = none
  b_len : mg "len" = none
  b_list : mg "list" = none
  b_range : mg "range" = none
  b_str : mg "str" = none
  b_tuple : mg "tuple" = none
  b_zip : mg "zip" = none
  e_ShapeError : ∃ C, mg "ShapeError" = some (.ref C)
  e_Missing : ∃ C, mg "Missing" = some (.ref C)
  e_PastEnd : ∃ C, mg "PastEnd" = some (.ref C)
  e_NothingLeft : ∃ C, mg "NothingLeft" = some (.ref C)
  t_Affordable : ∃ C, mg "Affordable" = some (.ref C)
  t_AlreadyLiving : ∃ C, mg "AlreadyLiving" = some (.ref C)
  t_Barred : ∃ C, mg "Barred" = some (.ref C)
  t_Comes : ∃ C, mg "Comes" = some (.ref C)
  t_DraftRunning : ∃ C, mg "DraftRunning" = some (.ref C)
  t_DuplicateKey : ∃ C, mg "DuplicateKey" = some (.ref C)
  t_DuplicateName : ∃ C, mg "DuplicateName" = some (.ref C)
  t_HasFilling : ∃ C, mg "HasFilling" = some (.ref C)
  t_Infeasible : ∃ C, mg "Infeasible" = some (.ref C)
  t_InvalidDeed : ∃ C, mg "InvalidDeed" = some (.ref C)
  t_InvalidEdge : ∃ C, mg "InvalidEdge" = some (.ref C)
  t_InvalidItem : ∃ C, mg "InvalidItem" = some (.ref C)
  t_InvalidKey : ∃ C, mg "InvalidKey" = some (.ref C)
  t_InvalidLot : ∃ C, mg "InvalidLot" = some (.ref C)
  t_InvalidMark : ∃ C, mg "InvalidMark" = some (.ref C)
  t_InvalidName : ∃ C, mg "InvalidName" = some (.ref C)
  t_InvalidNodes : ∃ C, mg "InvalidNodes" = some (.ref C)
  t_InvalidNumber : ∃ C, mg "InvalidNumber" = some (.ref C)
  t_InvalidNumbers : ∃ C, mg "InvalidNumbers" = some (.ref C)
  t_InvalidRow : ∃ C, mg "InvalidRow" = some (.ref C)
  t_InvalidRule : ∃ C, mg "InvalidRule" = some (.ref C)
  t_InvalidText : ∃ C, mg "InvalidText" = some (.ref C)
  t_InvalidWalk : ∃ C, mg "InvalidWalk" = some (.ref C)
  t_InvalidWall : ∃ C, mg "InvalidWall" = some (.ref C)
  t_InvalidWord : ∃ C, mg "InvalidWord" = some (.ref C)
  t_Missing : ∃ C, mg "Missing" = some (.ref C)
  t_NameTaken : ∃ C, mg "NameTaken" = some (.ref C)
  t_NeighbourMissed : ∃ C, mg "NeighbourMissed" = some (.ref C)
  t_NoDraft : ∃ C, mg "NoDraft" = some (.ref C)
  t_NoFilling : ∃ C, mg "NoFilling" = some (.ref C)
  t_NotClosed : ∃ C, mg "NotClosed" = some (.ref C)
  t_NotMeeting : ∃ C, mg "NotMeeting" = some (.ref C)
  t_NotSearch : ∃ C, mg "NotSearch" = some (.ref C)
  t_NotTop : ∃ C, mg "NotTop" = some (.ref C)
  t_NothingLeft : ∃ C, mg "NothingLeft" = some (.ref C)
  t_OtherKeys : ∃ C, mg "OtherKeys" = some (.ref C)
  t_PastEnd : ∃ C, mg "PastEnd" = some (.ref C)
  t_Refused : ∃ C, mg "Refused" = some (.ref C)
  t_ShapeError : ∃ C, mg "ShapeError" = some (.ref C)
  t_Stuck : ∃ C, mg "Stuck" = some (.ref C)
  t_TooMany : ∃ C, mg "TooMany" = some (.ref C)
  t_UnknownCell : ∃ C, mg "UnknownCell" = some (.ref C)
  t_UnknownKey : ∃ C, mg "UnknownKey" = some (.ref C)
  t_UnknownName : ∃ C, mg "UnknownName" = some (.ref C)
  t_Unresolved : ∃ C, mg "Unresolved" = some (.ref C)
  t_Unsafe : ∃ C, mg "Unsafe" = some (.ref C)
  t_Untouched : ∃ C, mg "Untouched" = some (.ref C)
  ft : FtOk K mg ftT
  oc : OcOk K mg ocT
  kt : KtOk K mg ktT
  et : EtOk K mg etT etG
  sub : SubOk K mg subT
  xft : XfT K mg csT fsT
variable {P : Program} {w : World} {K : PySem.W.Frag} {mg : Str → Option Value} {base : Heap}
def s_UnknownKey : Stmt := inClass (st 3) 0
theorem v_UnknownKey_0 {C fI : Addr} {fd : FuncData} {B nw ini : String} {bm0 : List Value} (E : ErrG K mg "UnknownKey" "UnknownKey.__init__" s_UnknownKey C fI fd B nw ini bm0) (hno : ∀ p ∈ L_UnknownKey, PySem.W.findIn K (.ref C) p.1 = some none) : Erv P w K mg base "UnknownKey" 1 1 L_UnknownKey 1 [] [0] :=
  E.erv (N := ["self", "key"]) (ps := ["self", "key"]) ⟨rfl, rfl, rfl, by decide +kernel, rfl, by decide +kernel, by decide +kernel⟩ hno rfl (fun cdv A outer s H E => by exact (pssx_all (ps_x1 (src_txt)) (pssx_cons (ps_x1 (src_par 1)) pssx_nil))) (Fun.kbn E.fn (ps := ["self", "key"]) (ks := []) (n := 2) (j := 1) (ix := [0]) fun _ _ _ _ _ _ us ws h1 h2 => match us, ws, h1, h2 with | [_, _], [], _, _ => rfl)
theorem v_UnknownKey_1 {C fI : Addr} {fd : FuncData} {B nw ini : String} {bm0 : List Value} (E : ErrG K mg "UnknownKey" "UnknownKey.__init__" s_UnknownKey C fI fd B nw ini bm0) (hno : ∀ p ∈ L_UnknownKey, PySem.W.findIn K (.ref C) p.1 = some none) : Erv P w K mg base "UnknownKey" 1 1 L_UnknownKey 0 ["key"] [0] :=
  E.erv (N := ["self", "key"]) (ps := ["self", "key"]) ⟨rfl, rfl, rfl, by decide +kernel, rfl, by decide +kernel, by decide +kernel⟩ hno rfl (fun cdv A outer s H E => by exact (pssx_all (ps_x1 (src_txt)) (pssx_cons (ps_x1 (src_par 1)) pssx_nil))) (Fun.kbn E.fn (ps := ["self", "key"]) (ks := ["key"]) (n := 1) (j := 1) (ix := [0]) fun _ _ _ _ _ _ us ws h1 h2 => match us, ws, h1, h2 with | [_], [_], _, _ => rfl)
def s_UnknownName : Stmt := inClass (st 4) 0
theorem r_UnknownName {C fI : Addr} {fd : FuncData} {B nw ini : String} {bm0 : List Value} (E : ErrG K mg "UnknownName" "UnknownName.__init__" s_UnknownName C fI fd B nw ini bm0) (hno : ∀ p ∈ L_UnknownName, PySem.W.findIn K (.ref C) p.1 = some none) : Erx P w K mg base "UnknownName" 1 1 L_UnknownName :=
  E.erx (N := ["self", "name"]) (ps := ["self", "name"]) ⟨rfl, rfl, rfl, by decide +kernel, rfl, by decide +kernel, by decide +kernel⟩ hno rfl (fun cdv A outer s H E => by exact (pssx_all (ps_x1 (src_txt)) (pssx_cons (ps_x1 (src_par 1)) pssx_nil))) (E.fn.binds fun _ _ _ _ _ _ us hl => match us, hl with | [_, _], _ => rfl)
theorem v_UnknownName_0 {C fI : Addr} {fd : FuncData} {B nw ini : String} {bm0 : List Value} (E : ErrG K mg "UnknownName" "UnknownName.__init__" s_UnknownName C fI fd B nw ini bm0) (hno : ∀ p ∈ L_UnknownName, PySem.W.findIn K (.ref C) p.1 = some none) : Erv P w K mg base "UnknownName" 1 1 L_UnknownName 1 [] [0] :=
  E.erv (N := ["self", "name"]) (ps := ["self", "name"]) ⟨rfl, rfl, rfl, by decide +kernel, rfl, by decide +kernel, by decide +kernel⟩ hno rfl (fun cdv A outer s H E => by exact (pssx_all (ps_x1 (src_txt)) (pssx_cons (ps_x1 (src_par 1)) pssx_nil))) (Fun.kbn E.fn (ps := ["self", "name"]) (ks := []) (n := 2) (j := 1) (ix := [0]) fun _ _ _ _ _ _ us ws h1 h2 => match us, ws, h1, h2 with | [_, _], [], _, _ => rfl)
theorem v_UnknownName_1 {C fI : Addr} {fd : FuncData} {B nw ini : String} {bm0 : List Value} (E : ErrG K mg "UnknownName" "UnknownName.__init__" s_UnknownName C fI fd B nw ini bm0) (hno : ∀ p ∈ L_UnknownName, PySem.W.findIn K (.ref C) p.1 = some none) : Erv P w K mg base "UnknownName" 1 1 L_UnknownName 0 ["name"] [0] :=
  E.erv (N := ["self", "name"]) (ps := ["self", "name"]) ⟨rfl, rfl, rfl, by decide +kernel, rfl, by decide +kernel, by decide +kernel⟩ hno rfl (fun cdv A outer s H E => by exact (pssx_all (ps_x1 (src_txt)) (pssx_cons (ps_x1 (src_par 1)) pssx_nil))) (Fun.kbn E.fn (ps := ["self", "name"]) (ks := ["name"]) (n := 1) (j := 1) (ix := [0]) fun _ _ _ _ _ _ us ws h1 h2 => match us, ws, h1, h2 with | [_], [_], _, _ => rfl)
def s_UnknownCell : Stmt := inClass (st 5) 0
theorem r_UnknownCell {C fI : Addr} {fd : FuncData} {B nw ini : String} {bm0 : List Value} (E : ErrG K mg "UnknownCell" "UnknownCell.__init__" s_UnknownCell C fI fd B nw ini bm0) (hno : ∀ p ∈ L_UnknownCell, PySem.W.findIn K (.ref C) p.1 = some none) : Erx P w K mg base "UnknownCell" 1 1 L_UnknownCell :=
  E.erx (N := ["self", "value"]) (ps := ["self", "value"]) ⟨rfl, rfl, rfl, by decide +kernel, rfl, by decide +kernel, by decide +kernel⟩ hno rfl (fun cdv A outer s H E => by exact (pssx_all (ps_x1 (src_txt)) (pssx_cons (ps_x1 (src_par 1)) pssx_nil))) (E.fn.binds fun _ _ _ _ _ _ us hl => match us, hl with | [_, _], _ => rfl)
theorem v_UnknownCell_0 {C fI : Addr} {fd : FuncData} {B nw ini : String} {bm0 : List Value} (E : ErrG K mg "UnknownCell" "UnknownCell.__init__" s_UnknownCell C fI fd B nw ini bm0) (hno : ∀ p ∈ L_UnknownCell, PySem.W.findIn K (.ref C) p.1 = some none) : Erv P w K mg base "UnknownCell" 1 1 L_UnknownCell 1 [] [0] :=
  E.erv (N := ["self", "value"]) (ps := ["self", "value"]) ⟨rfl, rfl, rfl, by decide +kernel, rfl, by decide +kernel, by decide +kernel⟩ hno rfl (fun cdv A outer s H E => by exact (pssx_all (ps_x1 (src_txt)) (pssx_cons (ps_x1 (src_par 1)) pssx_nil))) (Fun.kbn E.fn (ps := ["self", "value"]) (ks := []) (n := 2) (j := 1) (ix := [0]) fun _ _ _ _ _ _ us ws h1 h2 => match us, ws, h1, h2 with | [_, _], [], _, _ => rfl)
theorem v_UnknownCell_1 {C fI : Addr} {fd : FuncData} {B nw ini : String} {bm0 : List Value} (E : ErrG K mg "UnknownCell" "UnknownCell.__init__" s_UnknownCell C fI fd B nw ini bm0) (hno : ∀ p ∈ L_UnknownCell, PySem.W.findIn K (.ref C) p.1 = some none) : Erv P w K mg base "UnknownCell" 1 1 L_UnknownCell 0 ["value"] [0] :=
  E.erv (N := ["self", "value"]) (ps := ["self", "value"]) ⟨rfl, rfl, rfl, by decide +kernel, rfl, by decide +kernel, by decide +kernel⟩ hno rfl (fun cdv A outer s H E => by exact (pssx_all (ps_x1 (src_txt)) (pssx_cons (ps_x1 (src_par 1)) pssx_nil))) (Fun.kbn E.fn (ps := ["self", "value"]) (ks := ["value"]) (n := 1) (j := 1) (ix := [0]) fun _ _ _ _ _ _ us ws h1 h2 => match us, ws, h1, h2 with | [_], [_], _, _ => rfl)
def s_PastEnd : Stmt := inClass (st 6) 0
theorem r_PastEnd {C fI : Addr} {fd : FuncData} {B nw ini : String} {bm0 : List Value} (E : ErrG K mg "PastEnd" "PastEnd.__init__" s_PastEnd C fI fd B nw ini bm0) (hno : ∀ p ∈ L_PastEnd, PySem.W.findIn K (.ref C) p.1 = some none) : Erx P w K mg base "PastEnd" 1 2 L_PastEnd :=
  E.erx (N := ["self", "number", "count"]) (ps := ["self", "number", "count"]) ⟨rfl, rfl, rfl, by decide +kernel, rfl, by decide +kernel, by decide +kernel⟩ hno rfl (fun cdv A outer s H E => by exact (pssx_all (ps_x1 (src_txt)) (pssx_cons (ps_x1 (src_par 1)) (pssx_cons (ps_x1 (src_par 2)) pssx_nil)))) (E.fn.binds fun _ _ _ _ _ _ us hl => match us, hl with | [_, _, _], _ => rfl)
theorem v_PastEnd_0 {C fI : Addr} {fd : FuncData} {B nw ini : String} {bm0 : List Value} (E : ErrG K mg "PastEnd" "PastEnd.__init__" s_PastEnd C fI fd B nw ini bm0) (hno : ∀ p ∈ L_PastEnd, PySem.W.findIn K (.ref C) p.1 = some none) : Erv P w K mg base "PastEnd" 1 2 L_PastEnd 2 [] [0, 1] :=
  E.erv (N := ["self", "number", "count"]) (ps := ["self", "number", "count"]) ⟨rfl, rfl, rfl, by decide +kernel, rfl, by decide +kernel, by decide +kernel⟩ hno rfl (fun cdv A outer s H E => by exact (pssx_all (ps_x1 (src_txt)) (pssx_cons (ps_x1 (src_par 1)) (pssx_cons (ps_x1 (src_par 2)) pssx_nil)))) (Fun.kbn E.fn (ps := ["self", "number", "count"]) (ks := []) (n := 3) (j := 1) (ix := [0, 1]) fun _ _ _ _ _ _ us ws h1 h2 => match us, ws, h1, h2 with | [_, _, _], [], _, _ => rfl)
theorem v_PastEnd_1 {C fI : Addr} {fd : FuncData} {B nw ini : String} {bm0 : List Value} (E : ErrG K mg "PastEnd" "PastEnd.__init__" s_PastEnd C fI fd B nw ini bm0) (hno : ∀ p ∈ L_PastEnd, PySem.W.findIn K (.ref C) p.1 = some none) : Erv P w K mg base "PastEnd" 1 2 L_PastEnd 0 ["count", "number"] [1, 0] :=
  E.erv (N := ["self", "number", "count"]) (ps := ["self", "number", "count"]) ⟨rfl, rfl, rfl, by decide +kernel, rfl, by decide +kernel, by decide +kernel⟩ hno rfl (fun cdv A outer s H E => by exact (pssx_all (ps_x1 (src_txt)) (pssx_cons (ps_x1 (src_par 1)) (pssx_cons (ps_x1 (src_par 2)) pssx_nil)))) (Fun.kbn E.fn (ps := ["self", "number", "count"]) (ks := ["count", "number"]) (n := 1) (j := 1) (ix := [1, 0]) fun _ _ _ _ _ _ us ws h1 h2 => match us, ws, h1, h2 with | [_], [_, _], _, _ => rfl)
def s_NothingLeft : Stmt := inClass (st 7) 0
theorem r_NothingLeft {C fI : Addr} {fd : FuncData} {B nw ini : String} {bm0 : List Value} (E : ErrG K mg "NothingLeft" "NothingLeft.__init__" s_NothingLeft C fI fd B nw ini bm0) (hno : ∀ p ∈ L_NothingLeft, PySem.W.findIn K (.ref C) p.1 = some none) : Erx P w K mg base "NothingLeft" 1 0 L_NothingLeft :=
  E.erx (N := ["self"]) (ps := ["self"]) ⟨rfl, rfl, rfl, by decide +kernel, rfl, by decide +kernel, by decide +kernel⟩ hno rfl (fun cdv A outer s H E => by exact (pssx_all (ps_x1 (src_txt)) pssx_nil)) (E.fn.binds fun _ _ _ _ _ _ us hl => match us, hl with | [_], _ => rfl)
theorem v_NothingLeft_0 {C fI : Addr} {fd : FuncData} {B nw ini : String} {bm0 : List Value} (E : ErrG K mg "NothingLeft" "NothingLeft.__init__" s_NothingLeft C fI fd B nw ini bm0) (hno : ∀ p ∈ L_NothingLeft, PySem.W.findIn K (.ref C) p.1 = some none) : Erv P w K mg base "NothingLeft" 1 0 L_NothingLeft 0 [] [] :=
  E.erv (N := ["self"]) (ps := ["self"]) ⟨rfl, rfl, rfl, by decide +kernel, rfl, by decide +kernel, by decide +kernel⟩ hno rfl (fun cdv A outer s H E => by exact (pssx_all (ps_x1 (src_txt)) pssx_nil)) (Fun.kbn E.fn (ps := ["self"]) (ks := []) (n := 1) (j := 1) (ix := []) fun _ _ _ _ _ _ us ws h1 h2 => match us, ws, h1, h2 with | [_], [], _, _ => rfl)
def s_InvalidKey : Stmt := inClass (st 8) 0
theorem v_InvalidKey_0 {C fI : Addr} {fd : FuncData} {B nw ini : String} {bm0 : List Value} (E : ErrG K mg "InvalidKey" "InvalidKey.__init__" s_InvalidKey C fI fd B nw ini bm0) (hno : ∀ p ∈ L_InvalidKey, PySem.W.findIn K (.ref C) p.1 = some none) : Erv P w K mg base "InvalidKey" 1 1 L_InvalidKey 1 [] [0] :=
  E.erv (N := ["self", "value"]) (ps := ["self", "value"]) ⟨rfl, rfl, rfl, by decide +kernel, rfl, by decide +kernel, by decide +kernel⟩ hno rfl (fun cdv A outer s H E => by exact (pssx_all (ps_x1 (src_txt)) (pssx_cons (ps_x1 (src_par 1)) pssx_nil))) (Fun.kbn E.fn (ps := ["self", "value"]) (ks := []) (n := 2) (j := 1) (ix := [0]) fun _ _ _ _ _ _ us ws h1 h2 => match us, ws, h1, h2 with | [_, _], [], _, _ => rfl)
theorem v_InvalidKey_1 {C fI : Addr} {fd : FuncData} {B nw ini : String} {bm0 : List Value} (E : ErrG K mg "InvalidKey" "InvalidKey.__init__" s_InvalidKey C fI fd B nw ini bm0) (hno : ∀ p ∈ L_InvalidKey, PySem.W.findIn K (.ref C) p.1 = some none) : Erv P w K mg base "InvalidKey" 1 1 L_InvalidKey 0 ["value"] [0] :=
  E.erv (N := ["self", "value"]) (ps := ["self", "value"]) ⟨rfl, rfl, rfl, by decide +kernel, rfl, by decide +kernel, by decide +kernel⟩ hno rfl (fun cdv A outer s H E => by exact (pssx_all (ps_x1 (src_txt)) (pssx_cons (ps_x1 (src_par 1)) pssx_nil))) (Fun.kbn E.fn (ps := ["self", "value"]) (ks := ["value"]) (n := 1) (j := 1) (ix := [0]) fun _ _ _ _ _ _ us ws h1 h2 => match us, ws, h1, h2 with | [_], [_], _, _ => rfl)
def s_DuplicateKey : Stmt := inClass (st 9) 0
theorem v_DuplicateKey_0 {C fI : Addr} {fd : FuncData} {B nw ini : String} {bm0 : List Value} (E : ErrG K mg "DuplicateKey" "DuplicateKey.__init__" s_DuplicateKey C fI fd B nw ini bm0) (hno : ∀ p ∈ L_DuplicateKey, PySem.W.findIn K (.ref C) p.1 = some none) : Erv P w K mg base "DuplicateKey" 1 1 L_DuplicateKey 1 [] [0] :=
  E.erv (N := ["self", "key"]) (ps := ["self", "key"]) ⟨rfl, rfl, rfl, by decide +kernel, rfl, by decide +kernel, by decide +kernel⟩ hno rfl (fun cdv A outer s H E => by exact (pssx_all (ps_x1 (src_txt)) (pssx_cons (ps_x1 (src_par 1)) pssx_nil))) (Fun.kbn E.fn (ps := ["self", "key"]) (ks := []) (n := 2) (j := 1) (ix := [0]) fun _ _ _ _ _ _ us ws h1 h2 => match us, ws, h1, h2 with | [_, _], [], _, _ => rfl)
theorem v_DuplicateKey_1 {C fI : Addr} {fd : FuncData} {B nw ini : String} {bm0 : List Value} (E : ErrG K mg "DuplicateKey" "DuplicateKey.__init__" s_DuplicateKey C fI fd B nw ini bm0) (hno : ∀ p ∈ L_DuplicateKey, PySem.W.findIn K (.ref C) p.1 = some none) : Erv P w K mg base "DuplicateKey" 1 1 L_DuplicateKey 0 ["key"] [0] :=
  E.erv (N := ["self", "key"]) (ps := ["self", "key"]) ⟨rfl, rfl, rfl, by decide +kernel, rfl, by decide +kernel, by decide +kernel⟩ hno rfl (fun cdv A outer s H E => by exact (pssx_all (ps_x1 (src_txt)) (pssx_cons (ps_x1 (src_par 1)) pssx_nil))) (Fun.kbn E.fn (ps := ["self", "key"]) (ks := ["key"]) (n := 1) (j := 1) (ix := [0]) fun _ _ _ _ _ _ us ws h1 h2 => match us, ws, h1, h2 with | [_], [_], _, _ => rfl)
def s_InvalidLot : Stmt := inClass (st 10) 0
theorem v_InvalidLot_0 {C fI : Addr} {fd : FuncData} {B nw ini : String} {bm0 : List Value} (E : ErrG K mg "InvalidLot" "InvalidLot.__init__" s_InvalidLot C fI fd B nw ini bm0) (hno : ∀ p ∈ L_InvalidLot, PySem.W.findIn K (.ref C) p.1 = some none) : Erv P w K mg base "InvalidLot" 1 1 L_InvalidLot 1 [] [0] :=
  E.erv (N := ["self", "value"]) (ps := ["self", "value"]) ⟨rfl, rfl, rfl, by decide +kernel, rfl, by decide +kernel, by decide +kernel⟩ hno rfl (fun cdv A outer s H E => by exact (pssx_all (ps_x1 (src_txt)) (pssx_cons (ps_x1 (src_par 1)) pssx_nil))) (Fun.kbn E.fn (ps := ["self", "value"]) (ks := []) (n := 2) (j := 1) (ix := [0]) fun _ _ _ _ _ _ us ws h1 h2 => match us, ws, h1, h2 with | [_, _], [], _, _ => rfl)
theorem v_InvalidLot_1 {C fI : Addr} {fd : FuncData} {B nw ini : String} {bm0 : List Value} (E : ErrG K mg "InvalidLot" "InvalidLot.__init__" s_InvalidLot C fI fd B nw ini bm0) (hno : ∀ p ∈ L_InvalidLot, PySem.W.findIn K (.ref C) p.1 = some none) : Erv P w K mg base "InvalidLot" 1 1 L_InvalidLot 0 ["value"] [0] :=
  E.erv (N := ["self", "value"]) (ps := ["self", "value"]) ⟨rfl, rfl, rfl, by decide +kernel, rfl, by decide +kernel, by decide +kernel⟩ hno rfl (fun cdv A outer s H E => by exact (pssx_all (ps_x1 (src_txt)) (pssx_cons (ps_x1 (src_par 1)) pssx_nil))) (Fun.kbn E.fn (ps := ["self", "value"]) (ks := ["value"]) (n := 1) (j := 1) (ix := [0]) fun _ _ _ _ _ _ us ws h1 h2 => match us, ws, h1, h2 with | [_], [_], _, _ => rfl)
def s_InvalidMark : Stmt := inClass (st 11) 0
theorem v_InvalidMark_0 {C fI : Addr} {fd : FuncData} {B nw ini : String} {bm0 : List Value} (E : ErrG K mg "InvalidMark" "InvalidMark.__init__" s_InvalidMark C fI fd B nw ini bm0) (hno : ∀ p ∈ L_InvalidMark, PySem.W.findIn K (.ref C) p.1 = some none) : Erv P w K mg base "InvalidMark" 1 1 L_InvalidMark 1 [] [0] :=
  E.erv (N := ["self", "value"]) (ps := ["self", "value"]) ⟨rfl, rfl, rfl, by decide +kernel, rfl, by decide +kernel, by decide +kernel⟩ hno rfl (fun cdv A outer s H E => by exact (pssx_all (ps_x1 (src_txt)) (pssx_cons (ps_x1 (src_par 1)) pssx_nil))) (Fun.kbn E.fn (ps := ["self", "value"]) (ks := []) (n := 2) (j := 1) (ix := [0]) fun _ _ _ _ _ _ us ws h1 h2 => match us, ws, h1, h2 with | [_, _], [], _, _ => rfl)
theorem v_InvalidMark_1 {C fI : Addr} {fd : FuncData} {B nw ini : String} {bm0 : List Value} (E : ErrG K mg "InvalidMark" "InvalidMark.__init__" s_InvalidMark C fI fd B nw ini bm0) (hno : ∀ p ∈ L_InvalidMark, PySem.W.findIn K (.ref C) p.1 = some none) : Erv P w K mg base "InvalidMark" 1 1 L_InvalidMark 0 ["value"] [0] :=
  E.erv (N := ["self", "value"]) (ps := ["self", "value"]) ⟨rfl, rfl, rfl, by decide +kernel, rfl, by decide +kernel, by decide +kernel⟩ hno rfl (fun cdv A outer s H E => by exact (pssx_all (ps_x1 (src_txt)) (pssx_cons (ps_x1 (src_par 1)) pssx_nil))) (Fun.kbn E.fn (ps := ["self", "value"]) (ks := ["value"]) (n := 1) (j := 1) (ix := [0]) fun _ _ _ _ _ _ us ws h1 h2 => match us, ws, h1, h2 with | [_], [_], _, _ => rfl)
def s_InvalidRow : Stmt := inClass (st 12) 0
theorem v_InvalidRow_0 {C fI : Addr} {fd : FuncData} {B nw ini : String} {bm0 : List Value} (E : ErrG K mg "InvalidRow" "InvalidRow.__init__" s_InvalidRow C fI fd B nw ini bm0) (hno : ∀ p ∈ L_InvalidRow, PySem.W.findIn K (.ref C) p.1 = some none) : Erv P w K mg base "InvalidRow" 1 1 L_InvalidRow 1 [] [0] :=
  E.erv (N := ["self", "at"]) (ps := ["self", "at"]) ⟨rfl, rfl, rfl, by decide +kernel, rfl, by decide +kernel, by decide +kernel⟩ hno rfl (fun cdv A outer s H E => by exact (pssx_all (ps_x1 (src_txt)) (pssx_cons (ps_x1 (src_par 1)) pssx_nil))) (Fun.kbn E.fn (ps := ["self", "at"]) (ks := []) (n := 2) (j := 1) (ix := [0]) fun _ _ _ _ _ _ us ws h1 h2 => match us, ws, h1, h2 with | [_, _], [], _, _ => rfl)
theorem v_InvalidRow_1 {C fI : Addr} {fd : FuncData} {B nw ini : String} {bm0 : List Value} (E : ErrG K mg "InvalidRow" "InvalidRow.__init__" s_InvalidRow C fI fd B nw ini bm0) (hno : ∀ p ∈ L_InvalidRow, PySem.W.findIn K (.ref C) p.1 = some none) : Erv P w K mg base "InvalidRow" 1 1 L_InvalidRow 0 ["at"] [0] :=
  E.erv (N := ["self", "at"]) (ps := ["self", "at"]) ⟨rfl, rfl, rfl, by decide +kernel, rfl, by decide +kernel, by decide +kernel⟩ hno rfl (fun cdv A outer s H E => by exact (pssx_all (ps_x1 (src_txt)) (pssx_cons (ps_x1 (src_par 1)) pssx_nil))) (Fun.kbn E.fn (ps := ["self", "at"]) (ks := ["at"]) (n := 1) (j := 1) (ix := [0]) fun _ _ _ _ _ _ us ws h1 h2 => match us, ws, h1, h2 with | [_], [_], _, _ => rfl)
def s_InvalidText : Stmt := inClass (st 13) 0
theorem r_InvalidText {C fI : Addr} {fd : FuncData} {B nw ini : String} {bm0 : List Value} (E : ErrG K mg "InvalidText" "InvalidText.__init__" s_InvalidText C fI fd B nw ini bm0) (hno : ∀ p ∈ L_InvalidText, PySem.W.findIn K (.ref C) p.1 = some none) : Erx P w K mg base "InvalidText" 1 1 L_InvalidText :=
  E.erx (N := ["self", "at"]) (ps := ["self", "at"]) ⟨rfl, rfl, rfl, by decide +kernel, rfl, by decide +kernel, by decide +kernel⟩ hno rfl (fun cdv A outer s H E => by exact (pssx_all (ps_x1 (src_txt)) (pssx_cons (ps_x1 (src_par 1)) pssx_nil))) (E.fn.binds fun _ _ _ _ _ _ us hl => match us, hl with | [_, _], _ => rfl)
theorem v_InvalidText_0 {C fI : Addr} {fd : FuncData} {B nw ini : String} {bm0 : List Value} (E : ErrG K mg "InvalidText" "InvalidText.__init__" s_InvalidText C fI fd B nw ini bm0) (hno : ∀ p ∈ L_InvalidText, PySem.W.findIn K (.ref C) p.1 = some none) : Erv P w K mg base "InvalidText" 1 1 L_InvalidText 1 [] [0] :=
  E.erv (N := ["self", "at"]) (ps := ["self", "at"]) ⟨rfl, rfl, rfl, by decide +kernel, rfl, by decide +kernel, by decide +kernel⟩ hno rfl (fun cdv A outer s H E => by exact (pssx_all (ps_x1 (src_txt)) (pssx_cons (ps_x1 (src_par 1)) pssx_nil))) (Fun.kbn E.fn (ps := ["self", "at"]) (ks := []) (n := 2) (j := 1) (ix := [0]) fun _ _ _ _ _ _ us ws h1 h2 => match us, ws, h1, h2 with | [_, _], [], _, _ => rfl)
theorem v_InvalidText_1 {C fI : Addr} {fd : FuncData} {B nw ini : String} {bm0 : List Value} (E : ErrG K mg "InvalidText" "InvalidText.__init__" s_InvalidText C fI fd B nw ini bm0) (hno : ∀ p ∈ L_InvalidText, PySem.W.findIn K (.ref C) p.1 = some none) : Erv P w K mg base "InvalidText" 1 1 L_InvalidText 0 ["at"] [0] :=
  E.erv (N := ["self", "at"]) (ps := ["self", "at"]) ⟨rfl, rfl, rfl, by decide +kernel, rfl, by decide +kernel, by decide +kernel⟩ hno rfl (fun cdv A outer s H E => by exact (pssx_all (ps_x1 (src_txt)) (pssx_cons (ps_x1 (src_par 1)) pssx_nil))) (Fun.kbn E.fn (ps := ["self", "at"]) (ks := ["at"]) (n := 1) (j := 1) (ix := [0]) fun _ _ _ _ _ _ us ws h1 h2 => match us, ws, h1, h2 with | [_], [_], _, _ => rfl)
def s_NotSearch : Stmt := inClass (st 14) 0
theorem v_NotSearch_0 {C fI : Addr} {fd : FuncData} {B nw ini : String} {bm0 : List Value} (E : ErrG K mg "NotSearch" "NotSearch.__init__" s_NotSearch C fI fd B nw ini bm0) (hno : ∀ p ∈ L_NotSearch, PySem.W.findIn K (.ref C) p.1 = some none) : Erv P w K mg base "NotSearch" 1 1 L_NotSearch 1 [] [0] :=
  E.erv (N := ["self", "key"]) (ps := ["self", "key"]) ⟨rfl, rfl, rfl, by decide +kernel, rfl, by decide +kernel, by decide +kernel⟩ hno rfl (fun cdv A outer s H E => by exact (pssx_all (ps_x1 (src_txt)) (pssx_cons (ps_x1 (src_par 1)) pssx_nil))) (Fun.kbn E.fn (ps := ["self", "key"]) (ks := []) (n := 2) (j := 1) (ix := [0]) fun _ _ _ _ _ _ us ws h1 h2 => match us, ws, h1, h2 with | [_, _], [], _, _ => rfl)
theorem v_NotSearch_1 {C fI : Addr} {fd : FuncData} {B nw ini : String} {bm0 : List Value} (E : ErrG K mg "NotSearch" "NotSearch.__init__" s_NotSearch C fI fd B nw ini bm0) (hno : ∀ p ∈ L_NotSearch, PySem.W.findIn K (.ref C) p.1 = some none) : Erv P w K mg base "NotSearch" 1 1 L_NotSearch 0 ["key"] [0] :=
  E.erv (N := ["self", "key"]) (ps := ["self", "key"]) ⟨rfl, rfl, rfl, by decide +kernel, rfl, by decide +kernel, by decide +kernel⟩ hno rfl (fun cdv A outer s H E => by exact (pssx_all (ps_x1 (src_txt)) (pssx_cons (ps_x1 (src_par 1)) pssx_nil))) (Fun.kbn E.fn (ps := ["self", "key"]) (ks := ["key"]) (n := 1) (j := 1) (ix := [0]) fun _ _ _ _ _ _ us ws h1 h2 => match us, ws, h1, h2 with | [_], [_], _, _ => rfl)
def s_InvalidNumbers : Stmt := inClass (st 15) 0
theorem v_InvalidNumbers_0 {C fI : Addr} {fd : FuncData} {B nw ini : String} {bm0 : List Value} (E : ErrG K mg "InvalidNumbers" "InvalidNumbers.__init__" s_InvalidNumbers C fI fd B nw ini bm0) (hno : ∀ p ∈ L_InvalidNumbers, PySem.W.findIn K (.ref C) p.1 = some none) : Erv P w K mg base "InvalidNumbers" 1 1 L_InvalidNumbers 1 [] [0] :=
  E.erv (N := ["self", "at"]) (ps := ["self", "at"]) ⟨rfl, rfl, rfl, by decide +kernel, rfl, by decide +kernel, by decide +kernel⟩ hno rfl (fun cdv A outer s H E => by exact (pssx_all (ps_x1 (src_txt)) (pssx_cons (ps_x1 (src_par 1)) pssx_nil))) (Fun.kbn E.fn (ps := ["self", "at"]) (ks := []) (n := 2) (j := 1) (ix := [0]) fun _ _ _ _ _ _ us ws h1 h2 => match us, ws, h1, h2 with | [_, _], [], _, _ => rfl)
theorem v_InvalidNumbers_1 {C fI : Addr} {fd : FuncData} {B nw ini : String} {bm0 : List Value} (E : ErrG K mg "InvalidNumbers" "InvalidNumbers.__init__" s_InvalidNumbers C fI fd B nw ini bm0) (hno : ∀ p ∈ L_InvalidNumbers, PySem.W.findIn K (.ref C) p.1 = some none) : Erv P w K mg base "InvalidNumbers" 1 1 L_InvalidNumbers 0 ["at"] [0] :=
  E.erv (N := ["self", "at"]) (ps := ["self", "at"]) ⟨rfl, rfl, rfl, by decide +kernel, rfl, by decide +kernel, by decide +kernel⟩ hno rfl (fun cdv A outer s H E => by exact (pssx_all (ps_x1 (src_txt)) (pssx_cons (ps_x1 (src_par 1)) pssx_nil))) (Fun.kbn E.fn (ps := ["self", "at"]) (ks := ["at"]) (n := 1) (j := 1) (ix := [0]) fun _ _ _ _ _ _ us ws h1 h2 => match us, ws, h1, h2 with | [_], [_], _, _ => rfl)
def s_AlreadyLiving : Stmt := inClass (st 16) 0
theorem v_AlreadyLiving_0 {C fI : Addr} {fd : FuncData} {B nw ini : String} {bm0 : List Value} (E : ErrG K mg "AlreadyLiving" "AlreadyLiving.__init__" s_AlreadyLiving C fI fd B nw ini bm0) (hno : ∀ p ∈ L_AlreadyLiving, PySem.W.findIn K (.ref C) p.1 = some none) : Erv P w K mg base "AlreadyLiving" 1 1 L_AlreadyLiving 1 [] [0] :=
  E.erv (N := ["self", "key"]) (ps := ["self", "key"]) ⟨rfl, rfl, rfl, by decide +kernel, rfl, by decide +kernel, by decide +kernel⟩ hno rfl (fun cdv A outer s H E => by exact (pssx_all (ps_x1 (src_txt)) (pssx_cons (ps_x1 (src_par 1)) pssx_nil))) (Fun.kbn E.fn (ps := ["self", "key"]) (ks := []) (n := 2) (j := 1) (ix := [0]) fun _ _ _ _ _ _ us ws h1 h2 => match us, ws, h1, h2 with | [_, _], [], _, _ => rfl)
theorem v_AlreadyLiving_1 {C fI : Addr} {fd : FuncData} {B nw ini : String} {bm0 : List Value} (E : ErrG K mg "AlreadyLiving" "AlreadyLiving.__init__" s_AlreadyLiving C fI fd B nw ini bm0) (hno : ∀ p ∈ L_AlreadyLiving, PySem.W.findIn K (.ref C) p.1 = some none) : Erv P w K mg base "AlreadyLiving" 1 1 L_AlreadyLiving 0 ["key"] [0] :=
  E.erv (N := ["self", "key"]) (ps := ["self", "key"]) ⟨rfl, rfl, rfl, by decide +kernel, rfl, by decide +kernel, by decide +kernel⟩ hno rfl (fun cdv A outer s H E => by exact (pssx_all (ps_x1 (src_txt)) (pssx_cons (ps_x1 (src_par 1)) pssx_nil))) (Fun.kbn E.fn (ps := ["self", "key"]) (ks := ["key"]) (n := 1) (j := 1) (ix := [0]) fun _ _ _ _ _ _ us ws h1 h2 => match us, ws, h1, h2 with | [_], [_], _, _ => rfl)
def s_NeighbourMissed : Stmt := inClass (st 17) 0
theorem v_NeighbourMissed_0 {C fI : Addr} {fd : FuncData} {B nw ini : String} {bm0 : List Value} (E : ErrG K mg "NeighbourMissed" "NeighbourMissed.__init__" s_NeighbourMissed C fI fd B nw ini bm0) (hno : ∀ p ∈ L_NeighbourMissed, PySem.W.findIn K (.ref C) p.1 = some none) : Erv P w K mg base "NeighbourMissed" 1 2 L_NeighbourMissed 2 [] [0, 1] :=
  E.erv (N := ["self", "key", "neighbour"]) (ps := ["self", "key", "neighbour"]) ⟨rfl, rfl, rfl, by decide +kernel, rfl, by decide +kernel, by decide +kernel⟩ hno rfl (fun cdv A outer s H E => by exact (pssx_all (ps_x1 (src_txt)) (pssx_cons (ps_x1 (src_par 1)) (pssx_cons (ps_x1 (src_par 2)) pssx_nil)))) (Fun.kbn E.fn (ps := ["self", "key", "neighbour"]) (ks := []) (n := 3) (j := 1) (ix := [0, 1]) fun _ _ _ _ _ _ us ws h1 h2 => match us, ws, h1, h2 with | [_, _, _], [], _, _ => rfl)
theorem v_NeighbourMissed_1 {C fI : Addr} {fd : FuncData} {B nw ini : String} {bm0 : List Value} (E : ErrG K mg "NeighbourMissed" "NeighbourMissed.__init__" s_NeighbourMissed C fI fd B nw ini bm0) (hno : ∀ p ∈ L_NeighbourMissed, PySem.W.findIn K (.ref C) p.1 = some none) : Erv P w K mg base "NeighbourMissed" 1 2 L_NeighbourMissed 0 ["neighbour", "key"] [1, 0] :=
  E.erv (N := ["self", "key", "neighbour"]) (ps := ["self", "key", "neighbour"]) ⟨rfl, rfl, rfl, by decide +kernel, rfl, by decide +kernel, by decide +kernel⟩ hno rfl (fun cdv A outer s H E => by exact (pssx_all (ps_x1 (src_txt)) (pssx_cons (ps_x1 (src_par 1)) (pssx_cons (ps_x1 (src_par 2)) pssx_nil)))) (Fun.kbn E.fn (ps := ["self", "key", "neighbour"]) (ks := ["neighbour", "key"]) (n := 1) (j := 1) (ix := [1, 0]) fun _ _ _ _ _ _ us ws h1 h2 => match us, ws, h1, h2 with | [_], [_, _], _, _ => rfl)
def s_TooMany : Stmt := inClass (st 18) 0
theorem v_TooMany_0 {C fI : Addr} {fd : FuncData} {B nw ini : String} {bm0 : List Value} (E : ErrG K mg "TooMany" "TooMany.__init__" s_TooMany C fI fd B nw ini bm0) (hno : ∀ p ∈ L_TooMany, PySem.W.findIn K (.ref C) p.1 = some none) : Erv P w K mg base "TooMany" 1 2 L_TooMany 2 [] [0, 1] :=
  E.erv (N := ["self", "what", "count"]) (ps := ["self", "what", "count"]) ⟨rfl, rfl, rfl, by decide +kernel, rfl, by decide +kernel, by decide +kernel⟩ hno rfl (fun cdv A outer s H E => by exact (pssx_all (ps_x1 (src_txt)) (pssx_cons (ps_x1 (src_par 1)) (pssx_cons (ps_x1 (src_par 2)) pssx_nil)))) (Fun.kbn E.fn (ps := ["self", "what", "count"]) (ks := []) (n := 3) (j := 1) (ix := [0, 1]) fun _ _ _ _ _ _ us ws h1 h2 => match us, ws, h1, h2 with | [_, _, _], [], _, _ => rfl)
theorem v_TooMany_1 {C fI : Addr} {fd : FuncData} {B nw ini : String} {bm0 : List Value} (E : ErrG K mg "TooMany" "TooMany.__init__" s_TooMany C fI fd B nw ini bm0) (hno : ∀ p ∈ L_TooMany, PySem.W.findIn K (.ref C) p.1 = some none) : Erv P w K mg base "TooMany" 1 2 L_TooMany 0 ["count", "what"] [1, 0] :=
  E.erv (N := ["self", "what", "count"]) (ps := ["self", "what", "count"]) ⟨rfl, rfl, rfl, by decide +kernel, rfl, by decide +kernel, by decide +kernel⟩ hno rfl (fun cdv A outer s H E => by exact (pssx_all (ps_x1 (src_txt)) (pssx_cons (ps_x1 (src_par 1)) (pssx_cons (ps_x1 (src_par 2)) pssx_nil)))) (Fun.kbn E.fn (ps := ["self", "what", "count"]) (ks := ["count", "what"]) (n := 1) (j := 1) (ix := [1, 0]) fun _ _ _ _ _ _ us ws h1 h2 => match us, ws, h1, h2 with | [_], [_, _], _, _ => rfl)
def s_NotTop : Stmt := inClass (st 19) 0
theorem v_NotTop_0 {C fI : Addr} {fd : FuncData} {B nw ini : String} {bm0 : List Value} (E : ErrG K mg "NotTop" "NotTop.__init__" s_NotTop C fI fd B nw ini bm0) (hno : ∀ p ∈ L_NotTop, PySem.W.findIn K (.ref C) p.1 = some none) : Erv P w K mg base "NotTop" 1 1 L_NotTop 1 [] [0] :=
  E.erv (N := ["self", "key"]) (ps := ["self", "key"]) ⟨rfl, rfl, rfl, by decide +kernel, rfl, by decide +kernel, by decide +kernel⟩ hno rfl (fun cdv A outer s H E => by exact (pssx_all (ps_x1 (src_txt)) (pssx_cons (ps_x1 (src_par 1)) pssx_nil))) (Fun.kbn E.fn (ps := ["self", "key"]) (ks := []) (n := 2) (j := 1) (ix := [0]) fun _ _ _ _ _ _ us ws h1 h2 => match us, ws, h1, h2 with | [_, _], [], _, _ => rfl)
theorem v_NotTop_1 {C fI : Addr} {fd : FuncData} {B nw ini : String} {bm0 : List Value} (E : ErrG K mg "NotTop" "NotTop.__init__" s_NotTop C fI fd B nw ini bm0) (hno : ∀ p ∈ L_NotTop, PySem.W.findIn K (.ref C) p.1 = some none) : Erv P w K mg base "NotTop" 1 1 L_NotTop 0 ["key"] [0] :=
  E.erv (N := ["self", "key"]) (ps := ["self", "key"]) ⟨rfl, rfl, rfl, by decide +kernel, rfl, by decide +kernel, by decide +kernel⟩ hno rfl (fun cdv A outer s H E => by exact (pssx_all (ps_x1 (src_txt)) (pssx_cons (ps_x1 (src_par 1)) pssx_nil))) (Fun.kbn E.fn (ps := ["self", "key"]) (ks := ["key"]) (n := 1) (j := 1) (ix := [0]) fun _ _ _ _ _ _ us ws h1 h2 => match us, ws, h1, h2 with | [_], [_], _, _ => rfl)
def s_OtherKeys : Stmt := inClass (st 20) 0
theorem v_OtherKeys_0 {C fI : Addr} {fd : FuncData} {B nw ini : String} {bm0 : List Value} (E : ErrG K mg "OtherKeys" "OtherKeys.__init__" s_OtherKeys C fI fd B nw ini bm0) (hno : ∀ p ∈ L_OtherKeys, PySem.W.findIn K (.ref C) p.1 = some none) : Erv P w K mg base "OtherKeys" 1 1 L_OtherKeys 1 [] [0] :=
  E.erv (N := ["self", "key"]) (ps := ["self", "key"]) ⟨rfl, rfl, rfl, by decide +kernel, rfl, by decide +kernel, by decide +kernel⟩ hno rfl (fun cdv A outer s H E => by exact (pssx_all (ps_x1 (src_txt)) (pssx_cons (ps_x1 (src_par 1)) pssx_nil))) (Fun.kbn E.fn (ps := ["self", "key"]) (ks := []) (n := 2) (j := 1) (ix := [0]) fun _ _ _ _ _ _ us ws h1 h2 => match us, ws, h1, h2 with | [_, _], [], _, _ => rfl)
theorem v_OtherKeys_1 {C fI : Addr} {fd : FuncData} {B nw ini : String} {bm0 : List Value} (E : ErrG K mg "OtherKeys" "OtherKeys.__init__" s_OtherKeys C fI fd B nw ini bm0) (hno : ∀ p ∈ L_OtherKeys, PySem.W.findIn K (.ref C) p.1 = some none) : Erv P w K mg base "OtherKeys" 1 1 L_OtherKeys 0 ["key"] [0] :=
  E.erv (N := ["self", "key"]) (ps := ["self", "key"]) ⟨rfl, rfl, rfl, by decide +kernel, rfl, by decide +kernel, by decide +kernel⟩ hno rfl (fun cdv A outer s H E => by exact (pssx_all (ps_x1 (src_txt)) (pssx_cons (ps_x1 (src_par 1)) pssx_nil))) (Fun.kbn E.fn (ps := ["self", "key"]) (ks := ["key"]) (n := 1) (j := 1) (ix := [0]) fun _ _ _ _ _ _ us ws h1 h2 => match us, ws, h1, h2 with | [_], [_], _, _ => rfl)
def s_NotClosed : Stmt := inClass (st 21) 0
theorem v_NotClosed_0 {C fI : Addr} {fd : FuncData} {B nw ini : String} {bm0 : List Value} (E : ErrG K mg "NotClosed" "NotClosed.__init__" s_NotClosed C fI fd B nw ini bm0) (hno : ∀ p ∈ L_NotClosed, PySem.W.findIn K (.ref C) p.1 = some none) : Erv P w K mg base "NotClosed" 1 2 L_NotClosed 2 [] [0, 1] :=
  E.erv (N := ["self", "key", "needed"]) (ps := ["self", "key", "needed"]) ⟨rfl, rfl, rfl, by decide +kernel, rfl, by decide +kernel, by decide +kernel⟩ hno rfl (fun cdv A outer s H E => by exact (pssx_all (ps_x1 (src_txt)) (pssx_cons (ps_x1 (src_par 1)) (pssx_cons (ps_x1 (src_par 2)) pssx_nil)))) (Fun.kbn E.fn (ps := ["self", "key", "needed"]) (ks := []) (n := 3) (j := 1) (ix := [0, 1]) fun _ _ _ _ _ _ us ws h1 h2 => match us, ws, h1, h2 with | [_, _, _], [], _, _ => rfl)
theorem v_NotClosed_1 {C fI : Addr} {fd : FuncData} {B nw ini : String} {bm0 : List Value} (E : ErrG K mg "NotClosed" "NotClosed.__init__" s_NotClosed C fI fd B nw ini bm0) (hno : ∀ p ∈ L_NotClosed, PySem.W.findIn K (.ref C) p.1 = some none) : Erv P w K mg base "NotClosed" 1 2 L_NotClosed 0 ["needed", "key"] [1, 0] :=
  E.erv (N := ["self", "key", "needed"]) (ps := ["self", "key", "needed"]) ⟨rfl, rfl, rfl, by decide +kernel, rfl, by decide +kernel, by decide +kernel⟩ hno rfl (fun cdv A outer s H E => by exact (pssx_all (ps_x1 (src_txt)) (pssx_cons (ps_x1 (src_par 1)) (pssx_cons (ps_x1 (src_par 2)) pssx_nil)))) (Fun.kbn E.fn (ps := ["self", "key", "needed"]) (ks := ["needed", "key"]) (n := 1) (j := 1) (ix := [1, 0]) fun _ _ _ _ _ _ us ws h1 h2 => match us, ws, h1, h2 with | [_], [_, _], _, _ => rfl)
def s_Barred : Stmt := inClass (st 22) 0
theorem r_Barred {C fI : Addr} {fd : FuncData} {B nw ini : String} {bm0 : List Value} (E : ErrG K mg "Barred" "Barred.__init__" s_Barred C fI fd B nw ini bm0) (hno : ∀ p ∈ L_Barred, PySem.W.findIn K (.ref C) p.1 = some none) : Erx P w K mg base "Barred" 1 2 L_Barred :=
  E.erx (N := ["self", "key", "needed"]) (ps := ["self", "key", "needed"]) ⟨rfl, rfl, rfl, by decide +kernel, rfl, by decide +kernel, by decide +kernel⟩ hno rfl (fun cdv A outer s H E => by exact (pssx_all (ps_x1 (src_txt)) (pssx_cons (ps_x1 (src_par 1)) (pssx_cons (ps_x1 (src_par 2)) pssx_nil)))) (E.fn.binds fun _ _ _ _ _ _ us hl => match us, hl with | [_, _, _], _ => rfl)
theorem v_Barred_0 {C fI : Addr} {fd : FuncData} {B nw ini : String} {bm0 : List Value} (E : ErrG K mg "Barred" "Barred.__init__" s_Barred C fI fd B nw ini bm0) (hno : ∀ p ∈ L_Barred, PySem.W.findIn K (.ref C) p.1 = some none) : Erv P w K mg base "Barred" 1 2 L_Barred 2 [] [0, 1] :=
  E.erv (N := ["self", "key", "needed"]) (ps := ["self", "key", "needed"]) ⟨rfl, rfl, rfl, by decide +kernel, rfl, by decide +kernel, by decide +kernel⟩ hno rfl (fun cdv A outer s H E => by exact (pssx_all (ps_x1 (src_txt)) (pssx_cons (ps_x1 (src_par 1)) (pssx_cons (ps_x1 (src_par 2)) pssx_nil)))) (Fun.kbn E.fn (ps := ["self", "key", "needed"]) (ks := []) (n := 3) (j := 1) (ix := [0, 1]) fun _ _ _ _ _ _ us ws h1 h2 => match us, ws, h1, h2 with | [_, _, _], [], _, _ => rfl)
theorem v_Barred_1 {C fI : Addr} {fd : FuncData} {B nw ini : String} {bm0 : List Value} (E : ErrG K mg "Barred" "Barred.__init__" s_Barred C fI fd B nw ini bm0) (hno : ∀ p ∈ L_Barred, PySem.W.findIn K (.ref C) p.1 = some none) : Erv P w K mg base "Barred" 1 2 L_Barred 0 ["needed", "key"] [1, 0] :=
  E.erv (N := ["self", "key", "needed"]) (ps := ["self", "key", "needed"]) ⟨rfl, rfl, rfl, by decide +kernel, rfl, by decide +kernel, by decide +kernel⟩ hno rfl (fun cdv A outer s H E => by exact (pssx_all (ps_x1 (src_txt)) (pssx_cons (ps_x1 (src_par 1)) (pssx_cons (ps_x1 (src_par 2)) pssx_nil)))) (Fun.kbn E.fn (ps := ["self", "key", "needed"]) (ks := ["needed", "key"]) (n := 1) (j := 1) (ix := [1, 0]) fun _ _ _ _ _ _ us ws h1 h2 => match us, ws, h1, h2 with | [_], [_, _], _, _ => rfl)
def s_Unresolved : Stmt := inClass (st 23) 0
theorem v_Unresolved_0 {C fI : Addr} {fd : FuncData} {B nw ini : String} {bm0 : List Value} (E : ErrG K mg "Unresolved" "Unresolved.__init__" s_Unresolved C fI fd B nw ini bm0) (hno : ∀ p ∈ L_Unresolved, PySem.W.findIn K (.ref C) p.1 = some none) : Erv P w K mg base "Unresolved" 1 2 L_Unresolved 2 [] [0, 1] :=
  E.erv (N := ["self", "first", "last"]) (ps := ["self", "first", "last"]) ⟨rfl, rfl, rfl, by decide +kernel, rfl, by decide +kernel, by decide +kernel⟩ hno rfl (fun cdv A outer s H E => by exact (pssx_all (ps_x1 (src_txt)) (pssx_cons (ps_x1 (src_par 1)) (pssx_cons (ps_x1 (src_par 2)) pssx_nil)))) (Fun.kbn E.fn (ps := ["self", "first", "last"]) (ks := []) (n := 3) (j := 1) (ix := [0, 1]) fun _ _ _ _ _ _ us ws h1 h2 => match us, ws, h1, h2 with | [_, _, _], [], _, _ => rfl)
theorem v_Unresolved_1 {C fI : Addr} {fd : FuncData} {B nw ini : String} {bm0 : List Value} (E : ErrG K mg "Unresolved" "Unresolved.__init__" s_Unresolved C fI fd B nw ini bm0) (hno : ∀ p ∈ L_Unresolved, PySem.W.findIn K (.ref C) p.1 = some none) : Erv P w K mg base "Unresolved" 1 2 L_Unresolved 0 ["last", "first"] [1, 0] :=
  E.erv (N := ["self", "first", "last"]) (ps := ["self", "first", "last"]) ⟨rfl, rfl, rfl, by decide +kernel, rfl, by decide +kernel, by decide +kernel⟩ hno rfl (fun cdv A outer s H E => by exact (pssx_all (ps_x1 (src_txt)) (pssx_cons (ps_x1 (src_par 1)) (pssx_cons (ps_x1 (src_par 2)) pssx_nil)))) (Fun.kbn E.fn (ps := ["self", "first", "last"]) (ks := ["last", "first"]) (n := 1) (j := 1) (ix := [1, 0]) fun _ _ _ _ _ _ us ws h1 h2 => match us, ws, h1, h2 with | [_], [_, _], _, _ => rfl)
def s_NotMeeting : Stmt := inClass (st 24) 0
theorem v_NotMeeting_0 {C fI : Addr} {fd : FuncData} {B nw ini : String} {bm0 : List Value} (E : ErrG K mg "NotMeeting" "NotMeeting.__init__" s_NotMeeting C fI fd B nw ini bm0) (hno : ∀ p ∈ L_NotMeeting, PySem.W.findIn K (.ref C) p.1 = some none) : Erv P w K mg base "NotMeeting" 1 2 L_NotMeeting 2 [] [0, 1] :=
  E.erv (N := ["self", "k", "x"]) (ps := ["self", "k", "x"]) ⟨rfl, rfl, rfl, by decide +kernel, rfl, by decide +kernel, by decide +kernel⟩ hno rfl (fun cdv A outer s H E => by exact (pssx_all (ps_x1 (src_txt)) (pssx_cons (ps_x1 (src_par 1)) (pssx_cons (ps_x1 (src_par 2)) pssx_nil)))) (Fun.kbn E.fn (ps := ["self", "k", "x"]) (ks := []) (n := 3) (j := 1) (ix := [0, 1]) fun _ _ _ _ _ _ us ws h1 h2 => match us, ws, h1, h2 with | [_, _, _], [], _, _ => rfl)
theorem v_NotMeeting_1 {C fI : Addr} {fd : FuncData} {B nw ini : String} {bm0 : List Value} (E : ErrG K mg "NotMeeting" "NotMeeting.__init__" s_NotMeeting C fI fd B nw ini bm0) (hno : ∀ p ∈ L_NotMeeting, PySem.W.findIn K (.ref C) p.1 = some none) : Erv P w K mg base "NotMeeting" 1 2 L_NotMeeting 0 ["x", "k"] [1, 0] :=
  E.erv (N := ["self", "k", "x"]) (ps := ["self", "k", "x"]) ⟨rfl, rfl, rfl, by decide +kernel, rfl, by decide +kernel, by decide +kernel⟩ hno rfl (fun cdv A outer s H E => by exact (pssx_all (ps_x1 (src_txt)) (pssx_cons (ps_x1 (src_par 1)) (pssx_cons (ps_x1 (src_par 2)) pssx_nil)))) (Fun.kbn E.fn (ps := ["self", "k", "x"]) (ks := ["x", "k"]) (n := 1) (j := 1) (ix := [1, 0]) fun _ _ _ _ _ _ us ws h1 h2 => match us, ws, h1, h2 with | [_], [_, _], _, _ => rfl)
def s_InvalidWord : Stmt := inClass (st 25) 0
theorem v_InvalidWord_0 {C fI : Addr} {fd : FuncData} {B nw ini : String} {bm0 : List Value} (E : ErrG K mg "InvalidWord" "InvalidWord.__init__" s_InvalidWord C fI fd B nw ini bm0) (hno : ∀ p ∈ L_InvalidWord, PySem.W.findIn K (.ref C) p.1 = some none) : Erv P w K mg base "InvalidWord" 1 1 L_InvalidWord 1 [] [0] :=
  E.erv (N := ["self", "value"]) (ps := ["self", "value"]) ⟨rfl, rfl, rfl, by decide +kernel, rfl, by decide +kernel, by decide +kernel⟩ hno rfl (fun cdv A outer s H E => by exact (pssx_all (ps_x1 (src_txt)) (pssx_cons (ps_x1 (src_par 1)) pssx_nil))) (Fun.kbn E.fn (ps := ["self", "value"]) (ks := []) (n := 2) (j := 1) (ix := [0]) fun _ _ _ _ _ _ us ws h1 h2 => match us, ws, h1, h2 with | [_, _], [], _, _ => rfl)
theorem v_InvalidWord_1 {C fI : Addr} {fd : FuncData} {B nw ini : String} {bm0 : List Value} (E : ErrG K mg "InvalidWord" "InvalidWord.__init__" s_InvalidWord C fI fd B nw ini bm0) (hno : ∀ p ∈ L_InvalidWord, PySem.W.findIn K (.ref C) p.1 = some none) : Erv P w K mg base "InvalidWord" 1 1 L_InvalidWord 0 ["value"] [0] :=
  E.erv (N := ["self", "value"]) (ps := ["self", "value"]) ⟨rfl, rfl, rfl, by decide +kernel, rfl, by decide +kernel, by decide +kernel⟩ hno rfl (fun cdv A outer s H E => by exact (pssx_all (ps_x1 (src_txt)) (pssx_cons (ps_x1 (src_par 1)) pssx_nil))) (Fun.kbn E.fn (ps := ["self", "value"]) (ks := ["value"]) (n := 1) (j := 1) (ix := [0]) fun _ _ _ _ _ _ us ws h1 h2 => match us, ws, h1, h2 with | [_], [_], _, _ => rfl)
def s_InvalidNumber : Stmt := inClass (st 26) 0
theorem v_InvalidNumber_0 {C fI : Addr} {fd : FuncData} {B nw ini : String} {bm0 : List Value} (E : ErrG K mg "InvalidNumber" "InvalidNumber.__init__" s_InvalidNumber C fI fd B nw ini bm0) (hno : ∀ p ∈ L_InvalidNumber, PySem.W.findIn K (.ref C) p.1 = some none) : Erv P w K mg base "InvalidNumber" 1 1 L_InvalidNumber 1 [] [0] :=
  E.erv (N := ["self", "value"]) (ps := ["self", "value"]) ⟨rfl, rfl, rfl, by decide +kernel, rfl, by decide +kernel, by decide +kernel⟩ hno rfl (fun cdv A outer s H E => by exact (pssx_all (ps_x1 (src_txt)) (pssx_cons (ps_x1 (src_par 1)) pssx_nil))) (Fun.kbn E.fn (ps := ["self", "value"]) (ks := []) (n := 2) (j := 1) (ix := [0]) fun _ _ _ _ _ _ us ws h1 h2 => match us, ws, h1, h2 with | [_, _], [], _, _ => rfl)
theorem v_InvalidNumber_1 {C fI : Addr} {fd : FuncData} {B nw ini : String} {bm0 : List Value} (E : ErrG K mg "InvalidNumber" "InvalidNumber.__init__" s_InvalidNumber C fI fd B nw ini bm0) (hno : ∀ p ∈ L_InvalidNumber, PySem.W.findIn K (.ref C) p.1 = some none) : Erv P w K mg base "InvalidNumber" 1 1 L_InvalidNumber 0 ["value"] [0] :=
  E.erv (N := ["self", "value"]) (ps := ["self", "value"]) ⟨rfl, rfl, rfl, by decide +kernel, rfl, by decide +kernel, by decide +kernel⟩ hno rfl (fun cdv A outer s H E => by exact (pssx_all (ps_x1 (src_txt)) (pssx_cons (ps_x1 (src_par 1)) pssx_nil))) (Fun.kbn E.fn (ps := ["self", "value"]) (ks := ["value"]) (n := 1) (j := 1) (ix := [0]) fun _ _ _ _ _ _ us ws h1 h2 => match us, ws, h1, h2 with | [_], [_], _, _ => rfl)
def s_Infeasible : Stmt := inClass (st 27) 0
theorem v_Infeasible_0 {C fI : Addr} {fd : FuncData} {B nw ini : String} {bm0 : List Value} (E : ErrG K mg "Infeasible" "Infeasible.__init__" s_Infeasible C fI fd B nw ini bm0) (hno : ∀ p ∈ L_Infeasible, PySem.W.findIn K (.ref C) p.1 = some none) : Erv P w K mg base "Infeasible" 1 4 L_Infeasible 4 [] [0, 1, 2, 3] :=
  E.erv (N := ["self", "i", "j", "k", "x"]) (ps := ["self", "i", "j", "k", "x"]) ⟨rfl, rfl, rfl, by decide +kernel, rfl, by decide +kernel, by decide +kernel⟩ hno rfl (fun cdv A outer s H E => by exact (pssx_all (ps_x1 (src_txt)) (pssx_cons (ps_x1 (src_par 1)) (pssx_cons (ps_x1 (src_par 2)) (pssx_cons (ps_x1 (src_par 3)) (pssx_cons (ps_x1 (src_par 4)) pssx_nil)))))) (Fun.kbn E.fn (ps := ["self", "i", "j", "k", "x"]) (ks := []) (n := 5) (j := 1) (ix := [0, 1, 2, 3]) fun _ _ _ _ _ _ us ws h1 h2 => match us, ws, h1, h2 with | [_, _, _, _, _], [], _, _ => rfl)
theorem v_Infeasible_1 {C fI : Addr} {fd : FuncData} {B nw ini : String} {bm0 : List Value} (E : ErrG K mg "Infeasible" "Infeasible.__init__" s_Infeasible C fI fd B nw ini bm0) (hno : ∀ p ∈ L_Infeasible, PySem.W.findIn K (.ref C) p.1 = some none) : Erv P w K mg base "Infeasible" 1 4 L_Infeasible 0 ["x", "k", "j", "i"] [3, 2, 1, 0] :=
  E.erv (N := ["self", "i", "j", "k", "x"]) (ps := ["self", "i", "j", "k", "x"]) ⟨rfl, rfl, rfl, by decide +kernel, rfl, by decide +kernel, by decide +kernel⟩ hno rfl (fun cdv A outer s H E => by exact (pssx_all (ps_x1 (src_txt)) (pssx_cons (ps_x1 (src_par 1)) (pssx_cons (ps_x1 (src_par 2)) (pssx_cons (ps_x1 (src_par 3)) (pssx_cons (ps_x1 (src_par 4)) pssx_nil)))))) (Fun.kbn E.fn (ps := ["self", "i", "j", "k", "x"]) (ks := ["x", "k", "j", "i"]) (n := 1) (j := 1) (ix := [3, 2, 1, 0]) fun _ _ _ _ _ _ us ws h1 h2 => match us, ws, h1, h2 with | [_], [_, _, _, _], _, _ => rfl)
def s_Stuck : Stmt := inClass (st 28) 0
theorem v_Stuck_0 {C fI : Addr} {fd : FuncData} {B nw ini : String} {bm0 : List Value} (E : ErrG K mg "Stuck" "Stuck.__init__" s_Stuck C fI fd B nw ini bm0) (hno : ∀ p ∈ L_Stuck, PySem.W.findIn K (.ref C) p.1 = some none) : Erv P w K mg base "Stuck" 1 2 L_Stuck 2 [] [0, 1] :=
  E.erv (N := ["self", "moment", "key"]) (ps := ["self", "moment", "key"]) ⟨rfl, rfl, rfl, by decide +kernel, rfl, by decide +kernel, by decide +kernel⟩ hno rfl (fun cdv A outer s H E => by exact (pssx_all (ps_x1 (src_txt)) (pssx_cons (ps_x1 (src_par 1)) (pssx_cons (ps_x1 (src_par 2)) pssx_nil)))) (Fun.kbn E.fn (ps := ["self", "moment", "key"]) (ks := []) (n := 3) (j := 1) (ix := [0, 1]) fun _ _ _ _ _ _ us ws h1 h2 => match us, ws, h1, h2 with | [_, _, _], [], _, _ => rfl)
theorem v_Stuck_1 {C fI : Addr} {fd : FuncData} {B nw ini : String} {bm0 : List Value} (E : ErrG K mg "Stuck" "Stuck.__init__" s_Stuck C fI fd B nw ini bm0) (hno : ∀ p ∈ L_Stuck, PySem.W.findIn K (.ref C) p.1 = some none) : Erv P w K mg base "Stuck" 1 2 L_Stuck 0 ["key", "moment"] [1, 0] :=
  E.erv (N := ["self", "moment", "key"]) (ps := ["self", "moment", "key"]) ⟨rfl, rfl, rfl, by decide +kernel, rfl, by decide +kernel, by decide +kernel⟩ hno rfl (fun cdv A outer s H E => by exact (pssx_all (ps_x1 (src_txt)) (pssx_cons (ps_x1 (src_par 1)) (pssx_cons (ps_x1 (src_par 2)) pssx_nil)))) (Fun.kbn E.fn (ps := ["self", "moment", "key"]) (ks := ["key", "moment"]) (n := 1) (j := 1) (ix := [1, 0]) fun _ _ _ _ _ _ us ws h1 h2 => match us, ws, h1, h2 with | [_], [_, _], _, _ => rfl)
def s_Comes : Stmt := inClass (st 29) 0
theorem v_Comes_0 {C fI : Addr} {fd : FuncData} {B nw ini : String} {bm0 : List Value} (E : ErrG K mg "Comes" "Comes.__init__" s_Comes C fI fd B nw ini bm0) (hno : ∀ p ∈ L_Comes, PySem.W.findIn K (.ref C) p.1 = some none) : Erv P w K mg base "Comes" 1 1 L_Comes 1 [] [0] :=
  E.erv (N := ["self", "moment"]) (ps := ["self", "moment"]) ⟨rfl, rfl, rfl, by decide +kernel, rfl, by decide +kernel, by decide +kernel⟩ hno rfl (fun cdv A outer s H E => by exact (pssx_all (ps_x1 (src_txt)) (pssx_cons (ps_x1 (src_par 1)) pssx_nil))) (Fun.kbn E.fn (ps := ["self", "moment"]) (ks := []) (n := 2) (j := 1) (ix := [0]) fun _ _ _ _ _ _ us ws h1 h2 => match us, ws, h1, h2 with | [_, _], [], _, _ => rfl)
theorem v_Comes_1 {C fI : Addr} {fd : FuncData} {B nw ini : String} {bm0 : List Value} (E : ErrG K mg "Comes" "Comes.__init__" s_Comes C fI fd B nw ini bm0) (hno : ∀ p ∈ L_Comes, PySem.W.findIn K (.ref C) p.1 = some none) : Erv P w K mg base "Comes" 1 1 L_Comes 0 ["moment"] [0] :=
  E.erv (N := ["self", "moment"]) (ps := ["self", "moment"]) ⟨rfl, rfl, rfl, by decide +kernel, rfl, by decide +kernel, by decide +kernel⟩ hno rfl (fun cdv A outer s H E => by exact (pssx_all (ps_x1 (src_txt)) (pssx_cons (ps_x1 (src_par 1)) pssx_nil))) (Fun.kbn E.fn (ps := ["self", "moment"]) (ks := ["moment"]) (n := 1) (j := 1) (ix := [0]) fun _ _ _ _ _ _ us ws h1 h2 => match us, ws, h1, h2 with | [_], [_], _, _ => rfl)
def s_InvalidRule : Stmt := inClass (st 30) 0
theorem v_InvalidRule_0 {C fI : Addr} {fd : FuncData} {B nw ini : String} {bm0 : List Value} (E : ErrG K mg "InvalidRule" "InvalidRule.__init__" s_InvalidRule C fI fd B nw ini bm0) (hno : ∀ p ∈ L_InvalidRule, PySem.W.findIn K (.ref C) p.1 = some none) : Erv P w K mg base "InvalidRule" 1 1 L_InvalidRule 1 [] [0] :=
  E.erv (N := ["self", "at"]) (ps := ["self", "at"]) ⟨rfl, rfl, rfl, by decide +kernel, rfl, by decide +kernel, by decide +kernel⟩ hno rfl (fun cdv A outer s H E => by exact (pssx_all (ps_x1 (src_txt)) (pssx_cons (ps_x1 (src_par 1)) pssx_nil))) (Fun.kbn E.fn (ps := ["self", "at"]) (ks := []) (n := 2) (j := 1) (ix := [0]) fun _ _ _ _ _ _ us ws h1 h2 => match us, ws, h1, h2 with | [_, _], [], _, _ => rfl)
theorem v_InvalidRule_1 {C fI : Addr} {fd : FuncData} {B nw ini : String} {bm0 : List Value} (E : ErrG K mg "InvalidRule" "InvalidRule.__init__" s_InvalidRule C fI fd B nw ini bm0) (hno : ∀ p ∈ L_InvalidRule, PySem.W.findIn K (.ref C) p.1 = some none) : Erv P w K mg base "InvalidRule" 1 1 L_InvalidRule 0 ["at"] [0] :=
  E.erv (N := ["self", "at"]) (ps := ["self", "at"]) ⟨rfl, rfl, rfl, by decide +kernel, rfl, by decide +kernel, by decide +kernel⟩ hno rfl (fun cdv A outer s H E => by exact (pssx_all (ps_x1 (src_txt)) (pssx_cons (ps_x1 (src_par 1)) pssx_nil))) (Fun.kbn E.fn (ps := ["self", "at"]) (ks := ["at"]) (n := 1) (j := 1) (ix := [0]) fun _ _ _ _ _ _ us ws h1 h2 => match us, ws, h1, h2 with | [_], [_], _, _ => rfl)
def s_InvalidItem : Stmt := inClass (st 31) 0
theorem v_InvalidItem_0 {C fI : Addr} {fd : FuncData} {B nw ini : String} {bm0 : List Value} (E : ErrG K mg "InvalidItem" "InvalidItem.__init__" s_InvalidItem C fI fd B nw ini bm0) (hno : ∀ p ∈ L_InvalidItem, PySem.W.findIn K (.ref C) p.1 = some none) : Erv P w K mg base "InvalidItem" 1 2 L_InvalidItem 2 [] [0, 1] :=
  E.erv (N := ["self", "at", "item"]) (ps := ["self", "at", "item"]) ⟨rfl, rfl, rfl, by decide +kernel, rfl, by decide +kernel, by decide +kernel⟩ hno rfl (fun cdv A outer s H E => by exact (pssx_all (ps_x1 (src_txt)) (pssx_cons (ps_x1 (src_par 1)) (pssx_cons (ps_x1 (src_par 2)) pssx_nil)))) (Fun.kbn E.fn (ps := ["self", "at", "item"]) (ks := []) (n := 3) (j := 1) (ix := [0, 1]) fun _ _ _ _ _ _ us ws h1 h2 => match us, ws, h1, h2 with | [_, _, _], [], _, _ => rfl)
theorem v_InvalidItem_1 {C fI : Addr} {fd : FuncData} {B nw ini : String} {bm0 : List Value} (E : ErrG K mg "InvalidItem" "InvalidItem.__init__" s_InvalidItem C fI fd B nw ini bm0) (hno : ∀ p ∈ L_InvalidItem, PySem.W.findIn K (.ref C) p.1 = some none) : Erv P w K mg base "InvalidItem" 1 2 L_InvalidItem 0 ["item", "at"] [1, 0] :=
  E.erv (N := ["self", "at", "item"]) (ps := ["self", "at", "item"]) ⟨rfl, rfl, rfl, by decide +kernel, rfl, by decide +kernel, by decide +kernel⟩ hno rfl (fun cdv A outer s H E => by exact (pssx_all (ps_x1 (src_txt)) (pssx_cons (ps_x1 (src_par 1)) (pssx_cons (ps_x1 (src_par 2)) pssx_nil)))) (Fun.kbn E.fn (ps := ["self", "at", "item"]) (ks := ["item", "at"]) (n := 1) (j := 1) (ix := [1, 0]) fun _ _ _ _ _ _ us ws h1 h2 => match us, ws, h1, h2 with | [_], [_, _], _, _ => rfl)
def s_InvalidName : Stmt := inClass (st 32) 0
theorem v_InvalidName_0 {C fI : Addr} {fd : FuncData} {B nw ini : String} {bm0 : List Value} (E : ErrG K mg "InvalidName" "InvalidName.__init__" s_InvalidName C fI fd B nw ini bm0) (hno : ∀ p ∈ L_InvalidName, PySem.W.findIn K (.ref C) p.1 = some none) : Erv P w K mg base "InvalidName" 1 1 L_InvalidName 1 [] [0] :=
  E.erv (N := ["self", "value"]) (ps := ["self", "value"]) ⟨rfl, rfl, rfl, by decide +kernel, rfl, by decide +kernel, by decide +kernel⟩ hno rfl (fun cdv A outer s H E => by exact (pssx_all (ps_x1 (src_txt)) (pssx_cons (ps_x1 (src_par 1)) pssx_nil))) (Fun.kbn E.fn (ps := ["self", "value"]) (ks := []) (n := 2) (j := 1) (ix := [0]) fun _ _ _ _ _ _ us ws h1 h2 => match us, ws, h1, h2 with | [_, _], [], _, _ => rfl)
theorem v_InvalidName_1 {C fI : Addr} {fd : FuncData} {B nw ini : String} {bm0 : List Value} (E : ErrG K mg "InvalidName" "InvalidName.__init__" s_InvalidName C fI fd B nw ini bm0) (hno : ∀ p ∈ L_InvalidName, PySem.W.findIn K (.ref C) p.1 = some none) : Erv P w K mg base "InvalidName" 1 1 L_InvalidName 0 ["value"] [0] :=
  E.erv (N := ["self", "value"]) (ps := ["self", "value"]) ⟨rfl, rfl, rfl, by decide +kernel, rfl, by decide +kernel, by decide +kernel⟩ hno rfl (fun cdv A outer s H E => by exact (pssx_all (ps_x1 (src_txt)) (pssx_cons (ps_x1 (src_par 1)) pssx_nil))) (Fun.kbn E.fn (ps := ["self", "value"]) (ks := ["value"]) (n := 1) (j := 1) (ix := [0]) fun _ _ _ _ _ _ us ws h1 h2 => match us, ws, h1, h2 with | [_], [_], _, _ => rfl)
def s_DuplicateName : Stmt := inClass (st 33) 0
theorem v_DuplicateName_0 {C fI : Addr} {fd : FuncData} {B nw ini : String} {bm0 : List Value} (E : ErrG K mg "DuplicateName" "DuplicateName.__init__" s_DuplicateName C fI fd B nw ini bm0) (hno : ∀ p ∈ L_DuplicateName, PySem.W.findIn K (.ref C) p.1 = some none) : Erv P w K mg base "DuplicateName" 1 1 L_DuplicateName 1 [] [0] :=
  E.erv (N := ["self", "name"]) (ps := ["self", "name"]) ⟨rfl, rfl, rfl, by decide +kernel, rfl, by decide +kernel, by decide +kernel⟩ hno rfl (fun cdv A outer s H E => by exact (pssx_all (ps_x1 (src_txt)) (pssx_cons (ps_x1 (src_par 1)) pssx_nil))) (Fun.kbn E.fn (ps := ["self", "name"]) (ks := []) (n := 2) (j := 1) (ix := [0]) fun _ _ _ _ _ _ us ws h1 h2 => match us, ws, h1, h2 with | [_, _], [], _, _ => rfl)
theorem v_DuplicateName_1 {C fI : Addr} {fd : FuncData} {B nw ini : String} {bm0 : List Value} (E : ErrG K mg "DuplicateName" "DuplicateName.__init__" s_DuplicateName C fI fd B nw ini bm0) (hno : ∀ p ∈ L_DuplicateName, PySem.W.findIn K (.ref C) p.1 = some none) : Erv P w K mg base "DuplicateName" 1 1 L_DuplicateName 0 ["name"] [0] :=
  E.erv (N := ["self", "name"]) (ps := ["self", "name"]) ⟨rfl, rfl, rfl, by decide +kernel, rfl, by decide +kernel, by decide +kernel⟩ hno rfl (fun cdv A outer s H E => by exact (pssx_all (ps_x1 (src_txt)) (pssx_cons (ps_x1 (src_par 1)) pssx_nil))) (Fun.kbn E.fn (ps := ["self", "name"]) (ks := ["name"]) (n := 1) (j := 1) (ix := [0]) fun _ _ _ _ _ _ us ws h1 h2 => match us, ws, h1, h2 with | [_], [_], _, _ => rfl)
def s_InvalidNodes : Stmt := inClass (st 34) 0
theorem v_InvalidNodes_0 {C fI : Addr} {fd : FuncData} {B nw ini : String} {bm0 : List Value} (E : ErrG K mg "InvalidNodes" "InvalidNodes.__init__" s_InvalidNodes C fI fd B nw ini bm0) (hno : ∀ p ∈ L_InvalidNodes, PySem.W.findIn K (.ref C) p.1 = some none) : Erv P w K mg base "InvalidNodes" 1 0 L_InvalidNodes 0 [] [] :=
  E.erv (N := ["self"]) (ps := ["self"]) ⟨rfl, rfl, rfl, by decide +kernel, rfl, by decide +kernel, by decide +kernel⟩ hno rfl (fun cdv A outer s H E => by exact (pssx_all (ps_x1 (src_txt)) pssx_nil)) (Fun.kbn E.fn (ps := ["self"]) (ks := []) (n := 1) (j := 1) (ix := []) fun _ _ _ _ _ _ us ws h1 h2 => match us, ws, h1, h2 with | [_], [], _, _ => rfl)
def s_InvalidEdge : Stmt := inClass (st 35) 0
theorem v_InvalidEdge_0 {C fI : Addr} {fd : FuncData} {B nw ini : String} {bm0 : List Value} (E : ErrG K mg "InvalidEdge" "InvalidEdge.__init__" s_InvalidEdge C fI fd B nw ini bm0) (hno : ∀ p ∈ L_InvalidEdge, PySem.W.findIn K (.ref C) p.1 = some none) : Erv P w K mg base "InvalidEdge" 1 1 L_InvalidEdge 1 [] [0] :=
  E.erv (N := ["self", "at"]) (ps := ["self", "at"]) ⟨rfl, rfl, rfl, by decide +kernel, rfl, by decide +kernel, by decide +kernel⟩ hno rfl (fun cdv A outer s H E => by exact (pssx_all (ps_x1 (src_txt)) (pssx_cons (ps_x1 (src_par 1)) pssx_nil))) (Fun.kbn E.fn (ps := ["self", "at"]) (ks := []) (n := 2) (j := 1) (ix := [0]) fun _ _ _ _ _ _ us ws h1 h2 => match us, ws, h1, h2 with | [_, _], [], _, _ => rfl)
theorem v_InvalidEdge_1 {C fI : Addr} {fd : FuncData} {B nw ini : String} {bm0 : List Value} (E : ErrG K mg "InvalidEdge" "InvalidEdge.__init__" s_InvalidEdge C fI fd B nw ini bm0) (hno : ∀ p ∈ L_InvalidEdge, PySem.W.findIn K (.ref C) p.1 = some none) : Erv P w K mg base "InvalidEdge" 1 1 L_InvalidEdge 0 ["at"] [0] :=
  E.erv (N := ["self", "at"]) (ps := ["self", "at"]) ⟨rfl, rfl, rfl, by decide +kernel, rfl, by decide +kernel, by decide +kernel⟩ hno rfl (fun cdv A outer s H E => by exact (pssx_all (ps_x1 (src_txt)) (pssx_cons (ps_x1 (src_par 1)) pssx_nil))) (Fun.kbn E.fn (ps := ["self", "at"]) (ks := ["at"]) (n := 1) (j := 1) (ix := [0]) fun _ _ _ _ _ _ us ws h1 h2 => match us, ws, h1, h2 with | [_], [_], _, _ => rfl)
def s_InvalidWalk : Stmt := inClass (st 36) 0
theorem v_InvalidWalk_0 {C fI : Addr} {fd : FuncData} {B nw ini : String} {bm0 : List Value} (E : ErrG K mg "InvalidWalk" "InvalidWalk.__init__" s_InvalidWalk C fI fd B nw ini bm0) (hno : ∀ p ∈ L_InvalidWalk, PySem.W.findIn K (.ref C) p.1 = some none) : Erv P w K mg base "InvalidWalk" 1 1 L_InvalidWalk 1 [] [0] :=
  E.erv (N := ["self", "at"]) (ps := ["self", "at"]) ⟨rfl, rfl, rfl, by decide +kernel, rfl, by decide +kernel, by decide +kernel⟩ hno rfl (fun cdv A outer s H E => by exact (pssx_all (ps_x1 (src_txt)) (pssx_cons (ps_x1 (src_par 1)) pssx_nil))) (Fun.kbn E.fn (ps := ["self", "at"]) (ks := []) (n := 2) (j := 1) (ix := [0]) fun _ _ _ _ _ _ us ws h1 h2 => match us, ws, h1, h2 with | [_, _], [], _, _ => rfl)
theorem v_InvalidWalk_1 {C fI : Addr} {fd : FuncData} {B nw ini : String} {bm0 : List Value} (E : ErrG K mg "InvalidWalk" "InvalidWalk.__init__" s_InvalidWalk C fI fd B nw ini bm0) (hno : ∀ p ∈ L_InvalidWalk, PySem.W.findIn K (.ref C) p.1 = some none) : Erv P w K mg base "InvalidWalk" 1 1 L_InvalidWalk 0 ["at"] [0] :=
  E.erv (N := ["self", "at"]) (ps := ["self", "at"]) ⟨rfl, rfl, rfl, by decide +kernel, rfl, by decide +kernel, by decide +kernel⟩ hno rfl (fun cdv A outer s H E => by exact (pssx_all (ps_x1 (src_txt)) (pssx_cons (ps_x1 (src_par 1)) pssx_nil))) (Fun.kbn E.fn (ps := ["self", "at"]) (ks := ["at"]) (n := 1) (j := 1) (ix := [0]) fun _ _ _ _ _ _ us ws h1 h2 => match us, ws, h1, h2 with | [_], [_], _, _ => rfl)
def s_Unsafe : Stmt := inClass (st 37) 0
theorem v_Unsafe_0 {C fI : Addr} {fd : FuncData} {B nw ini : String} {bm0 : List Value} (E : ErrG K mg "Unsafe" "Unsafe.__init__" s_Unsafe C fI fd B nw ini bm0) (hno : ∀ p ∈ L_Unsafe, PySem.W.findIn K (.ref C) p.1 = some none) : Erv P w K mg base "Unsafe" 1 1 L_Unsafe 1 [] [0] :=
  E.erv (N := ["self", "walk"]) (ps := ["self", "walk"]) ⟨rfl, rfl, rfl, by decide +kernel, rfl, by decide +kernel, by decide +kernel⟩ hno rfl (fun cdv A outer s H E => by exact (pssx_all (ps_x1 (src_txt)) (pssx_cons (ps_x1 (src_par 1)) pssx_nil))) (Fun.kbn E.fn (ps := ["self", "walk"]) (ks := []) (n := 2) (j := 1) (ix := [0]) fun _ _ _ _ _ _ us ws h1 h2 => match us, ws, h1, h2 with | [_, _], [], _, _ => rfl)
theorem v_Unsafe_1 {C fI : Addr} {fd : FuncData} {B nw ini : String} {bm0 : List Value} (E : ErrG K mg "Unsafe" "Unsafe.__init__" s_Unsafe C fI fd B nw ini bm0) (hno : ∀ p ∈ L_Unsafe, PySem.W.findIn K (.ref C) p.1 = some none) : Erv P w K mg base "Unsafe" 1 1 L_Unsafe 0 ["walk"] [0] :=
  E.erv (N := ["self", "walk"]) (ps := ["self", "walk"]) ⟨rfl, rfl, rfl, by decide +kernel, rfl, by decide +kernel, by decide +kernel⟩ hno rfl (fun cdv A outer s H E => by exact (pssx_all (ps_x1 (src_txt)) (pssx_cons (ps_x1 (src_par 1)) pssx_nil))) (Fun.kbn E.fn (ps := ["self", "walk"]) (ks := ["walk"]) (n := 1) (j := 1) (ix := [0]) fun _ _ _ _ _ _ us ws h1 h2 => match us, ws, h1, h2 with | [_], [_], _, _ => rfl)
def s_InvalidWall : Stmt := inClass (st 38) 0
theorem v_InvalidWall_0 {C fI : Addr} {fd : FuncData} {B nw ini : String} {bm0 : List Value} (E : ErrG K mg "InvalidWall" "InvalidWall.__init__" s_InvalidWall C fI fd B nw ini bm0) (hno : ∀ p ∈ L_InvalidWall, PySem.W.findIn K (.ref C) p.1 = some none) : Erv P w K mg base "InvalidWall" 1 1 L_InvalidWall 1 [] [0] :=
  E.erv (N := ["self", "value"]) (ps := ["self", "value"]) ⟨rfl, rfl, rfl, by decide +kernel, rfl, by decide +kernel, by decide +kernel⟩ hno rfl (fun cdv A outer s H E => by exact (pssx_all (ps_x1 (src_txt)) (pssx_cons (ps_x1 (src_par 1)) pssx_nil))) (Fun.kbn E.fn (ps := ["self", "value"]) (ks := []) (n := 2) (j := 1) (ix := [0]) fun _ _ _ _ _ _ us ws h1 h2 => match us, ws, h1, h2 with | [_, _], [], _, _ => rfl)
theorem v_InvalidWall_1 {C fI : Addr} {fd : FuncData} {B nw ini : String} {bm0 : List Value} (E : ErrG K mg "InvalidWall" "InvalidWall.__init__" s_InvalidWall C fI fd B nw ini bm0) (hno : ∀ p ∈ L_InvalidWall, PySem.W.findIn K (.ref C) p.1 = some none) : Erv P w K mg base "InvalidWall" 1 1 L_InvalidWall 0 ["value"] [0] :=
  E.erv (N := ["self", "value"]) (ps := ["self", "value"]) ⟨rfl, rfl, rfl, by decide +kernel, rfl, by decide +kernel, by decide +kernel⟩ hno rfl (fun cdv A outer s H E => by exact (pssx_all (ps_x1 (src_txt)) (pssx_cons (ps_x1 (src_par 1)) pssx_nil))) (Fun.kbn E.fn (ps := ["self", "value"]) (ks := ["value"]) (n := 1) (j := 1) (ix := [0]) fun _ _ _ _ _ _ us ws h1 h2 => match us, ws, h1, h2 with | [_], [_], _, _ => rfl)
def s_Untouched : Stmt := inClass (st 39) 0
theorem v_Untouched_0 {C fI : Addr} {fd : FuncData} {B nw ini : String} {bm0 : List Value} (E : ErrG K mg "Untouched" "Untouched.__init__" s_Untouched C fI fd B nw ini bm0) (hno : ∀ p ∈ L_Untouched, PySem.W.findIn K (.ref C) p.1 = some none) : Erv P w K mg base "Untouched" 1 1 L_Untouched 1 [] [0] :=
  E.erv (N := ["self", "key"]) (ps := ["self", "key"]) ⟨rfl, rfl, rfl, by decide +kernel, rfl, by decide +kernel, by decide +kernel⟩ hno rfl (fun cdv A outer s H E => by exact (pssx_all (ps_x1 (src_txt)) (pssx_cons (ps_x1 (src_par 1)) pssx_nil))) (Fun.kbn E.fn (ps := ["self", "key"]) (ks := []) (n := 2) (j := 1) (ix := [0]) fun _ _ _ _ _ _ us ws h1 h2 => match us, ws, h1, h2 with | [_, _], [], _, _ => rfl)
theorem v_Untouched_1 {C fI : Addr} {fd : FuncData} {B nw ini : String} {bm0 : List Value} (E : ErrG K mg "Untouched" "Untouched.__init__" s_Untouched C fI fd B nw ini bm0) (hno : ∀ p ∈ L_Untouched, PySem.W.findIn K (.ref C) p.1 = some none) : Erv P w K mg base "Untouched" 1 1 L_Untouched 0 ["key"] [0] :=
  E.erv (N := ["self", "key"]) (ps := ["self", "key"]) ⟨rfl, rfl, rfl, by decide +kernel, rfl, by decide +kernel, by decide +kernel⟩ hno rfl (fun cdv A outer s H E => by exact (pssx_all (ps_x1 (src_txt)) (pssx_cons (ps_x1 (src_par 1)) pssx_nil))) (Fun.kbn E.fn (ps := ["self", "key"]) (ks := ["key"]) (n := 1) (j := 1) (ix := [0]) fun _ _ _ _ _ _ us ws h1 h2 => match us, ws, h1, h2 with | [_], [_], _, _ => rfl)
def s_Affordable : Stmt := inClass (st 40) 0
theorem v_Affordable_0 {C fI : Addr} {fd : FuncData} {B nw ini : String} {bm0 : List Value} (E : ErrG K mg "Affordable" "Affordable.__init__" s_Affordable C fI fd B nw ini bm0) (hno : ∀ p ∈ L_Affordable, PySem.W.findIn K (.ref C) p.1 = some none) : Erv P w K mg base "Affordable" 1 1 L_Affordable 1 [] [0] :=
  E.erv (N := ["self", "cells"]) (ps := ["self", "cells"]) ⟨rfl, rfl, rfl, by decide +kernel, rfl, by decide +kernel, by decide +kernel⟩ hno rfl (fun cdv A outer s H E => by exact (pssx_all (ps_x1 (src_txt)) (pssx_cons (ps_x1 (src_par 1)) pssx_nil))) (Fun.kbn E.fn (ps := ["self", "cells"]) (ks := []) (n := 2) (j := 1) (ix := [0]) fun _ _ _ _ _ _ us ws h1 h2 => match us, ws, h1, h2 with | [_, _], [], _, _ => rfl)
theorem v_Affordable_1 {C fI : Addr} {fd : FuncData} {B nw ini : String} {bm0 : List Value} (E : ErrG K mg "Affordable" "Affordable.__init__" s_Affordable C fI fd B nw ini bm0) (hno : ∀ p ∈ L_Affordable, PySem.W.findIn K (.ref C) p.1 = some none) : Erv P w K mg base "Affordable" 1 1 L_Affordable 0 ["cells"] [0] :=
  E.erv (N := ["self", "cells"]) (ps := ["self", "cells"]) ⟨rfl, rfl, rfl, by decide +kernel, rfl, by decide +kernel, by decide +kernel⟩ hno rfl (fun cdv A outer s H E => by exact (pssx_all (ps_x1 (src_txt)) (pssx_cons (ps_x1 (src_par 1)) pssx_nil))) (Fun.kbn E.fn (ps := ["self", "cells"]) (ks := ["cells"]) (n := 1) (j := 1) (ix := [0]) fun _ _ _ _ _ _ us ws h1 h2 => match us, ws, h1, h2 with | [_], [_], _, _ => rfl)
def s_NoFilling : Stmt := inClass (st 41) 0
theorem v_NoFilling_0 {C fI : Addr} {fd : FuncData} {B nw ini : String} {bm0 : List Value} (E : ErrG K mg "NoFilling" "NoFilling.__init__" s_NoFilling C fI fd B nw ini bm0) (hno : ∀ p ∈ L_NoFilling, PySem.W.findIn K (.ref C) p.1 = some none) : Erv P w K mg base "NoFilling" 1 0 L_NoFilling 0 [] [] :=
  E.erv (N := ["self"]) (ps := ["self"]) ⟨rfl, rfl, rfl, by decide +kernel, rfl, by decide +kernel, by decide +kernel⟩ hno rfl (fun cdv A outer s H E => by exact (pssx_all (ps_x1 (src_txt)) pssx_nil)) (Fun.kbn E.fn (ps := ["self"]) (ks := []) (n := 1) (j := 1) (ix := []) fun _ _ _ _ _ _ us ws h1 h2 => match us, ws, h1, h2 with | [_], [], _, _ => rfl)
def s_HasFilling : Stmt := inClass (st 42) 0
theorem v_HasFilling_0 {C fI : Addr} {fd : FuncData} {B nw ini : String} {bm0 : List Value} (E : ErrG K mg "HasFilling" "HasFilling.__init__" s_HasFilling C fI fd B nw ini bm0) (hno : ∀ p ∈ L_HasFilling, PySem.W.findIn K (.ref C) p.1 = some none) : Erv P w K mg base "HasFilling" 1 0 L_HasFilling 0 [] [] :=
  E.erv (N := ["self"]) (ps := ["self"]) ⟨rfl, rfl, rfl, by decide +kernel, rfl, by decide +kernel, by decide +kernel⟩ hno rfl (fun cdv A outer s H E => by exact (pssx_all (ps_x1 (src_txt)) pssx_nil)) (Fun.kbn E.fn (ps := ["self"]) (ks := []) (n := 1) (j := 1) (ix := []) fun _ _ _ _ _ _ us ws h1 h2 => match us, ws, h1, h2 with | [_], [], _, _ => rfl)
def s_InvalidDeed : Stmt := inClass (st 43) 0
theorem v_InvalidDeed_0 {C fI : Addr} {fd : FuncData} {B nw ini : String} {bm0 : List Value} (E : ErrG K mg "InvalidDeed" "InvalidDeed.__init__" s_InvalidDeed C fI fd B nw ini bm0) (hno : ∀ p ∈ L_InvalidDeed, PySem.W.findIn K (.ref C) p.1 = some none) : Erv P w K mg base "InvalidDeed" 1 1 L_InvalidDeed 1 [] [0] :=
  E.erv (N := ["self", "at"]) (ps := ["self", "at"]) ⟨rfl, rfl, rfl, by decide +kernel, rfl, by decide +kernel, by decide +kernel⟩ hno rfl (fun cdv A outer s H E => by exact (pssx_all (ps_x1 (src_txt)) (pssx_cons (ps_x1 (src_par 1)) pssx_nil))) (Fun.kbn E.fn (ps := ["self", "at"]) (ks := []) (n := 2) (j := 1) (ix := [0]) fun _ _ _ _ _ _ us ws h1 h2 => match us, ws, h1, h2 with | [_, _], [], _, _ => rfl)
theorem v_InvalidDeed_1 {C fI : Addr} {fd : FuncData} {B nw ini : String} {bm0 : List Value} (E : ErrG K mg "InvalidDeed" "InvalidDeed.__init__" s_InvalidDeed C fI fd B nw ini bm0) (hno : ∀ p ∈ L_InvalidDeed, PySem.W.findIn K (.ref C) p.1 = some none) : Erv P w K mg base "InvalidDeed" 1 1 L_InvalidDeed 0 ["at"] [0] :=
  E.erv (N := ["self", "at"]) (ps := ["self", "at"]) ⟨rfl, rfl, rfl, by decide +kernel, rfl, by decide +kernel, by decide +kernel⟩ hno rfl (fun cdv A outer s H E => by exact (pssx_all (ps_x1 (src_txt)) (pssx_cons (ps_x1 (src_par 1)) pssx_nil))) (Fun.kbn E.fn (ps := ["self", "at"]) (ks := ["at"]) (n := 1) (j := 1) (ix := [0]) fun _ _ _ _ _ _ us ws h1 h2 => match us, ws, h1, h2 with | [_], [_], _, _ => rfl)
def s_NameTaken : Stmt := inClass (st 44) 0
theorem v_NameTaken_0 {C fI : Addr} {fd : FuncData} {B nw ini : String} {bm0 : List Value} (E : ErrG K mg "NameTaken" "NameTaken.__init__" s_NameTaken C fI fd B nw ini bm0) (hno : ∀ p ∈ L_NameTaken, PySem.W.findIn K (.ref C) p.1 = some none) : Erv P w K mg base "NameTaken" 1 1 L_NameTaken 1 [] [0] :=
  E.erv (N := ["self", "name"]) (ps := ["self", "name"]) ⟨rfl, rfl, rfl, by decide +kernel, rfl, by decide +kernel, by decide +kernel⟩ hno rfl (fun cdv A outer s H E => by exact (pssx_all (ps_x1 (src_txt)) (pssx_cons (ps_x1 (src_par 1)) pssx_nil))) (Fun.kbn E.fn (ps := ["self", "name"]) (ks := []) (n := 2) (j := 1) (ix := [0]) fun _ _ _ _ _ _ us ws h1 h2 => match us, ws, h1, h2 with | [_, _], [], _, _ => rfl)
theorem v_NameTaken_1 {C fI : Addr} {fd : FuncData} {B nw ini : String} {bm0 : List Value} (E : ErrG K mg "NameTaken" "NameTaken.__init__" s_NameTaken C fI fd B nw ini bm0) (hno : ∀ p ∈ L_NameTaken, PySem.W.findIn K (.ref C) p.1 = some none) : Erv P w K mg base "NameTaken" 1 1 L_NameTaken 0 ["name"] [0] :=
  E.erv (N := ["self", "name"]) (ps := ["self", "name"]) ⟨rfl, rfl, rfl, by decide +kernel, rfl, by decide +kernel, by decide +kernel⟩ hno rfl (fun cdv A outer s H E => by exact (pssx_all (ps_x1 (src_txt)) (pssx_cons (ps_x1 (src_par 1)) pssx_nil))) (Fun.kbn E.fn (ps := ["self", "name"]) (ks := ["name"]) (n := 1) (j := 1) (ix := [0]) fun _ _ _ _ _ _ us ws h1 h2 => match us, ws, h1, h2 with | [_], [_], _, _ => rfl)
def s_Refused : Stmt := inClass (st 45) 0
theorem v_Refused_0 {C fI : Addr} {fd : FuncData} {B nw ini : String} {bm0 : List Value} (E : ErrG K mg "Refused" "Refused.__init__" s_Refused C fI fd B nw ini bm0) (hno : ∀ p ∈ L_Refused, PySem.W.findIn K (.ref C) p.1 = some none) : Erv P w K mg base "Refused" 1 2 L_Refused 2 [] [0, 1] :=
  E.erv (N := ["self", "at", "why"]) (ps := ["self", "at", "why"]) ⟨rfl, rfl, rfl, by decide +kernel, rfl, by decide +kernel, by decide +kernel⟩ hno rfl (fun cdv A outer s H E => by exact (pssx_all (ps_x1 (src_txt)) (pssx_cons (ps_x1 (src_par 1)) (pssx_cons (ps_x1 (src_par 2)) pssx_nil)))) (Fun.kbn E.fn (ps := ["self", "at", "why"]) (ks := []) (n := 3) (j := 1) (ix := [0, 1]) fun _ _ _ _ _ _ us ws h1 h2 => match us, ws, h1, h2 with | [_, _, _], [], _, _ => rfl)
theorem v_Refused_1 {C fI : Addr} {fd : FuncData} {B nw ini : String} {bm0 : List Value} (E : ErrG K mg "Refused" "Refused.__init__" s_Refused C fI fd B nw ini bm0) (hno : ∀ p ∈ L_Refused, PySem.W.findIn K (.ref C) p.1 = some none) : Erv P w K mg base "Refused" 1 2 L_Refused 0 ["why", "at"] [1, 0] :=
  E.erv (N := ["self", "at", "why"]) (ps := ["self", "at", "why"]) ⟨rfl, rfl, rfl, by decide +kernel, rfl, by decide +kernel, by decide +kernel⟩ hno rfl (fun cdv A outer s H E => by exact (pssx_all (ps_x1 (src_txt)) (pssx_cons (ps_x1 (src_par 1)) (pssx_cons (ps_x1 (src_par 2)) pssx_nil)))) (Fun.kbn E.fn (ps := ["self", "at", "why"]) (ks := ["why", "at"]) (n := 1) (j := 1) (ix := [1, 0]) fun _ _ _ _ _ _ us ws h1 h2 => match us, ws, h1, h2 with | [_], [_, _], _, _ => rfl)
def s_DraftRunning : Stmt := inClass (st 46) 0
theorem v_DraftRunning_0 {C fI : Addr} {fd : FuncData} {B nw ini : String} {bm0 : List Value} (E : ErrG K mg "DraftRunning" "DraftRunning.__init__" s_DraftRunning C fI fd B nw ini bm0) (hno : ∀ p ∈ L_DraftRunning, PySem.W.findIn K (.ref C) p.1 = some none) : Erv P w K mg base "DraftRunning" 1 0 L_DraftRunning 0 [] [] :=
  E.erv (N := ["self"]) (ps := ["self"]) ⟨rfl, rfl, rfl, by decide +kernel, rfl, by decide +kernel, by decide +kernel⟩ hno rfl (fun cdv A outer s H E => by exact (pssx_all (ps_x1 (src_txt)) pssx_nil)) (Fun.kbn E.fn (ps := ["self"]) (ks := []) (n := 1) (j := 1) (ix := []) fun _ _ _ _ _ _ us ws h1 h2 => match us, ws, h1, h2 with | [_], [], _, _ => rfl)
def s_NoDraft : Stmt := inClass (st 47) 0
theorem r_NoDraft {C fI : Addr} {fd : FuncData} {B nw ini : String} {bm0 : List Value} (E : ErrG K mg "NoDraft" "NoDraft.__init__" s_NoDraft C fI fd B nw ini bm0) (hno : ∀ p ∈ L_NoDraft, PySem.W.findIn K (.ref C) p.1 = some none) : Erx P w K mg base "NoDraft" 1 0 L_NoDraft :=
  E.erx (N := ["self"]) (ps := ["self"]) ⟨rfl, rfl, rfl, by decide +kernel, rfl, by decide +kernel, by decide +kernel⟩ hno rfl (fun cdv A outer s H E => by exact (pssx_all (ps_x1 (src_txt)) pssx_nil)) (E.fn.binds fun _ _ _ _ _ _ us hl => match us, hl with | [_], _ => rfl)
theorem v_NoDraft_0 {C fI : Addr} {fd : FuncData} {B nw ini : String} {bm0 : List Value} (E : ErrG K mg "NoDraft" "NoDraft.__init__" s_NoDraft C fI fd B nw ini bm0) (hno : ∀ p ∈ L_NoDraft, PySem.W.findIn K (.ref C) p.1 = some none) : Erv P w K mg base "NoDraft" 1 0 L_NoDraft 0 [] [] :=
  E.erv (N := ["self"]) (ps := ["self"]) ⟨rfl, rfl, rfl, by decide +kernel, rfl, by decide +kernel, by decide +kernel⟩ hno rfl (fun cdv A outer s H E => by exact (pssx_all (ps_x1 (src_txt)) pssx_nil)) (Fun.kbn E.fn (ps := ["self"]) (ks := []) (n := 1) (j := 1) (ix := []) fun _ _ _ _ _ _ us ws h1 h2 => match us, ws, h1, h2 with | [_], [], _, _ => rfl)
end L2.DL.K00

namespace L2.DL.K00
open PySem PySem.Spec PyProof.Rows
variable {P : Program} {w : World} {K : PySem.W.Frag} {mg : Str → Option Value} {base : Heap}
theorem sc_lbag : FnScope N_lbag ["_law_script"] (defScope s_lbag) := ⟨rfl, rfl, rfl, by decide +kernel, rfl, by decide +kernel, by decide +kernel⟩
theorem ok_lbag {f : Addr} {fd : FuncData} (T : Tx K mg) (F : Fun K "_law_bag" "_law_bag" s_lbag f fd) : FnOk P w K mg base (L2.CX P w) 1 f fd ["_law_script"] (spD K mg G_lbag) :=
  Fun.okD (k := 0) F sc_lbag fun Φ cdv A outer s H E cn nM => by
    exact (dss_cons (ds_set (i := 1) cn.nd de_int)
    (dss_cons (ds_for cn (di_any (de_sl (de_var (i := 0)) do_none (do_some de_int))) (dg_name (i := 2) cn.nd) nx_name (dss_one (ds_set (i := 1) cn.nd (de_mod (de_int1 T.b_int (DE.wk (de_add (de_add (de_mul (de_var (i := 1)) (DE.wk de_int)) (DE.wk (de_mul (de_mod (de_int1 T.b_int (db_var (i := 2))) (DE.wk de_int)) (DE.wk de_int)))) (DE.wk de_int)))) (DE.wk de_int)))))
    (dss_one (ds_retF (i := 3) (df_lst (da_cons (de_list T.b_list (DE.wk (de_sl (de_var (i := 0)) do_none (do_some de_int)))) (da_cons de_int (da_cons de_int (da_cons (de_var (i := 1)) (da_cons de_int da_nil))))))))))
theorem sc_lfields : FnScope N_lfields ["_law_n", "_law_e"] (defScope s_lfields) := ⟨rfl, rfl, rfl, by decide +kernel, rfl, by decide +kernel, by decide +kernel⟩
theorem ok_lfields {f : Addr} {fd : FuncData} (T : Tx K mg) (F : Fun K "_law_fields" "_law_fields" s_lfields f fd) : FnOk P w K mg base (L2.CX P w) 1 f fd ["_law_n", "_law_e"] (spD K mg G_lfields) :=
  Fun.okD (k := 0) F sc_lfields fun Φ cdv A outer s H E cn nM => by
    exact (dss_cons (ds_if (dt_in (de_var (i := 0)) (DE.wk (de_lst (da_cons de_int (da_cons de_int (da_cons de_int (da_cons de_int (da_cons de_int (da_cons de_int (da_cons de_int (da_cons de_int da_nil))))))))))) (dss_one (ds_ret (de_tup (da_cons (de_erf (i := 1) T.xft) da_nil)))) dss_nil)
    (dss_cons (ds_if (dt_in (de_var (i := 0)) (DE.wk (de_lst (da_cons de_int (da_cons de_int (da_cons de_int (da_cons de_int (da_cons de_int (da_cons de_int (da_cons de_int da_nil)))))))))) (dss_one (ds_ret (de_tup (da_cons (de_erf (i := 1) T.xft) da_nil)))) dss_nil)
    (dss_cons (ds_if (dt_in (de_var (i := 0)) (DE.wk (de_lst (da_cons de_int (da_cons de_int (da_cons de_int (da_cons de_int (da_cons de_int (da_cons de_int (da_cons de_int da_nil)))))))))) (dss_one (ds_ret (de_tup (da_cons (de_erf (i := 1) T.xft) da_nil)))) dss_nil)
    (dss_cons (ds_if (dt_eqQ cn.hu (de_var (i := 0)) (DE.wk de_int)) (dss_one (ds_ret (de_tup (da_cons (de_erf (i := 1) T.xft) (da_cons (de_erf (i := 1) T.xft) da_nil))))) dss_nil)
    (dss_cons (ds_if (dt_eqQ cn.hu (de_var (i := 0)) (DE.wk de_int)) (dss_one (ds_ret (de_tup (da_cons (de_erf (i := 1) T.xft) (da_cons (de_erf (i := 1) T.xft) da_nil))))) dss_nil)
    (dss_cons (ds_if (dt_in (de_var (i := 0)) (DE.wk (de_lst (da_cons de_int (da_cons de_int da_nil))))) (dss_one (ds_ret (de_tup (da_cons (de_erf (i := 1) T.xft) (da_cons (de_erf (i := 1) T.xft) da_nil))))) dss_nil)
    (dss_cons (ds_if (dt_eqQ cn.hu (de_var (i := 0)) (DE.wk de_int)) (dss_one (ds_ret (de_tup (da_cons (de_erf (i := 1) T.xft) (da_cons (de_erf (i := 1) T.xft) da_nil))))) dss_nil)
    (dss_cons (ds_if (dt_eqQ cn.hu (de_var (i := 0)) (DE.wk de_int)) (dss_one (ds_ret (de_tup (da_cons (de_erf (i := 1) T.xft) (da_cons (de_erf (i := 1) T.xft) da_nil))))) dss_nil)
    (dss_cons (ds_if (dt_eqQ cn.hu (de_var (i := 0)) (DE.wk de_int)) (dss_one (ds_ret (de_tup (da_cons (de_erf (i := 1) T.xft) (da_cons (de_erf (i := 1) T.xft) (da_cons (de_erf (i := 1) T.xft) (da_cons (de_erf (i := 1) T.xft) da_nil))))))) dss_nil)
    (dss_cons (ds_if (dt_eqQ cn.hu (de_var (i := 0)) (DE.wk de_int)) (dss_one (ds_ret (de_tup (da_cons (de_erf (i := 1) T.xft) (da_cons (de_erf (i := 1) T.xft) da_nil))))) dss_nil)
    (dss_cons (ds_if (dt_eqQ cn.hu (de_var (i := 0)) (DE.wk de_int)) (dss_one (ds_ret (de_tup (da_cons (de_erf (i := 1) T.xft) da_nil)))) dss_nil)
    (dss_cons (ds_if (dt_eqQ cn.hu (de_var (i := 0)) (DE.wk de_int)) (dss_one (ds_ret (de_tup (da_cons (de_erf (i := 1) T.xft) (da_cons (de_erf (i := 1) T.xft) da_nil))))) dss_nil)
    (dss_cons (ds_if (dt_in (de_var (i := 0)) (DE.wk (de_lst (da_cons de_int (da_cons de_int (da_cons de_int da_nil)))))) (dss_one (ds_ret (de_tup (da_cons (de_erf (i := 1) T.xft) da_nil)))) dss_nil)
    (dss_cons (ds_if (dt_eqQ cn.hu (de_var (i := 0)) (DE.wk de_int)) (dss_one (ds_ret (de_tup (da_cons (de_erf (i := 1) T.xft) da_nil)))) dss_nil)
    (dss_cons (ds_if (dt_eqQ cn.hu (de_var (i := 0)) (DE.wk de_int)) (dss_one (ds_ret (de_tup (da_cons (de_erf (i := 1) T.xft) da_nil)))) dss_nil)
    (dss_cons (ds_if (dt_eqQ cn.hu (de_var (i := 0)) (DE.wk de_int)) (dss_one (ds_ret (de_tup (da_cons (de_erf (i := 1) T.xft) (da_cons (de_erf (i := 1) T.xft) da_nil))))) dss_nil)
    (dss_one (ds_ret (de_if (dt_eqQ cn.hu (de_var (i := 0)) (DE.wk de_int)) (de_tup (da_cons (de_erf (i := 1) T.xft) (da_cons (de_erf (i := 1) T.xft) da_nil))) (de_tup da_nil))))))))))))))))))))
end L2.DL.K00

namespace L2.DL.K00
open PySem PySem.Spec PyProof.Rows
variable {P : Program} {w : World} {K : PySem.W.Frag} {mg : Str → Option Value} {base : Heap}
theorem sc_lwords : FnScope N_lwords [] (defScope s_lwords) := ⟨rfl, rfl, rfl, by decide +kernel, rfl, by decide +kernel, by decide +kernel⟩
theorem ok_lwords {f : Addr} {fd : FuncData} (T : Tx K mg) (F : Fun K "_law_words" "_law_words" s_lwords f fd) : FnOk P w K mg base (L2.CX P w) 1 f fd [] (spD K mg G_lwords) :=
  Fun.okD (k := 0) F sc_lwords fun Φ cdv A outer s H E cn nM => by
    exact (dss_one (ds_ret (de_split de_str de_str)))
theorem sc_lby_name : FnScope N_lby_name ["_law_p", "_law_q", "_law_r", "_law_s"] (defScope s_lby_name) := ⟨rfl, rfl, rfl, by decide +kernel, rfl, by decide +kernel, by decide +kernel⟩
theorem ok_lby_name {f : Addr} {fd : FuncData} (T : Tx K mg) (F : Fun K "_law_by_name" "_law_by_name" s_lby_name f fd) (V_NothingLeft_0 : Erv P w K mg base "NothingLeft" 1 0 L_NothingLeft 0 [] []) (V_PastEnd_1 : Erv P w K mg base "PastEnd" 1 2 L_PastEnd 0 ["count", "number"] [1, 0]) (V_UnknownCell_1 : Erv P w K mg base "UnknownCell" 1 1 L_UnknownCell 0 ["value"] [0]) (V_UnknownName_1 : Erv P w K mg base "UnknownName" 1 1 L_UnknownName 0 ["name"] [0]) (V_UnknownKey_1 : Erv P w K mg base "UnknownKey" 1 1 L_UnknownKey 0 ["key"] [0]) (V_NoDraft_0 : Erv P w K mg base "NoDraft" 1 0 L_NoDraft 0 [] []) (V_DraftRunning_0 : Erv P w K mg base "DraftRunning" 1 0 L_DraftRunning 0 [] []) (V_Refused_1 : Erv P w K mg base "Refused" 1 2 L_Refused 0 ["why", "at"] [1, 0]) (V_NameTaken_1 : Erv P w K mg base "NameTaken" 1 1 L_NameTaken 0 ["name"] [0]) (V_InvalidDeed_1 : Erv P w K mg base "InvalidDeed" 1 1 L_InvalidDeed 0 ["at"] [0]) (V_HasFilling_0 : Erv P w K mg base "HasFilling" 1 0 L_HasFilling 0 [] []) (V_NoFilling_0 : Erv P w K mg base "NoFilling" 1 0 L_NoFilling 0 [] []) (V_Affordable_1 : Erv P w K mg base "Affordable" 1 1 L_Affordable 0 ["cells"] [0]) (V_Untouched_1 : Erv P w K mg base "Untouched" 1 1 L_Untouched 0 ["key"] [0]) (V_InvalidWall_1 : Erv P w K mg base "InvalidWall" 1 1 L_InvalidWall 0 ["value"] [0]) (V_Unsafe_1 : Erv P w K mg base "Unsafe" 1 1 L_Unsafe 0 ["walk"] [0]) (V_InvalidWalk_1 : Erv P w K mg base "InvalidWalk" 1 1 L_InvalidWalk 0 ["at"] [0]) (V_InvalidEdge_1 : Erv P w K mg base "InvalidEdge" 1 1 L_InvalidEdge 0 ["at"] [0]) (V_InvalidNodes_0 : Erv P w K mg base "InvalidNodes" 1 0 L_InvalidNodes 0 [] []) (V_DuplicateName_1 : Erv P w K mg base "DuplicateName" 1 1 L_DuplicateName 0 ["name"] [0]) (V_InvalidName_1 : Erv P w K mg base "InvalidName" 1 1 L_InvalidName 0 ["value"] [0]) (V_InvalidItem_1 : Erv P w K mg base "InvalidItem" 1 2 L_InvalidItem 0 ["item", "at"] [1, 0]) (V_InvalidRule_1 : Erv P w K mg base "InvalidRule" 1 1 L_InvalidRule 0 ["at"] [0]) (V_Comes_1 : Erv P w K mg base "Comes" 1 1 L_Comes 0 ["moment"] [0]) (V_Stuck_1 : Erv P w K mg base "Stuck" 1 2 L_Stuck 0 ["key", "moment"] [1, 0]) (V_Infeasible_1 : Erv P w K mg base "Infeasible" 1 4 L_Infeasible 0 ["x", "k", "j", "i"] [3, 2, 1, 0]) (V_InvalidNumber_1 : Erv P w K mg base "InvalidNumber" 1 1 L_InvalidNumber 0 ["value"] [0]) (V_InvalidWord_1 : Erv P w K mg base "InvalidWord" 1 1 L_InvalidWord 0 ["value"] [0]) (V_NotMeeting_1 : Erv P w K mg base "NotMeeting" 1 2 L_NotMeeting 0 ["x", "k"] [1, 0]) (V_Unresolved_1 : Erv P w K mg base "Unresolved" 1 2 L_Unresolved 0 ["last", "first"] [1, 0]) (V_Barred_1 : Erv P w K mg base "Barred" 1 2 L_Barred 0 ["needed", "key"] [1, 0]) (V_NotClosed_1 : Erv P w K mg base "NotClosed" 1 2 L_NotClosed 0 ["needed", "key"] [1, 0]) (V_OtherKeys_1 : Erv P w K mg base "OtherKeys" 1 1 L_OtherKeys 0 ["key"] [0]) (V_NotTop_1 : Erv P w K mg base "NotTop" 1 1 L_NotTop 0 ["key"] [0]) (V_TooMany_1 : Erv P w K mg base "TooMany" 1 2 L_TooMany 0 ["count", "what"] [1, 0]) (V_NeighbourMissed_1 : Erv P w K mg base "NeighbourMissed" 1 2 L_NeighbourMissed 0 ["neighbour", "key"] [1, 0]) (V_AlreadyLiving_1 : Erv P w K mg base "AlreadyLiving" 1 1 L_AlreadyLiving 0 ["key"] [0]) (V_InvalidNumbers_1 : Erv P w K mg base "InvalidNumbers" 1 1 L_InvalidNumbers 0 ["at"] [0]) (V_NotSearch_1 : Erv P w K mg base "NotSearch" 1 1 L_NotSearch 0 ["key"] [0]) (V_InvalidText_1 : Erv P w K mg base "InvalidText" 1 1 L_InvalidText 0 ["at"] [0]) (V_InvalidRow_1 : Erv P w K mg base "InvalidRow" 1 1 L_InvalidRow 0 ["at"] [0]) (V_InvalidMark_1 : Erv P w K mg base "InvalidMark" 1 1 L_InvalidMark 0 ["value"] [0]) (V_InvalidLot_1 : Erv P w K mg base "InvalidLot" 1 1 L_InvalidLot 0 ["value"] [0]) (V_DuplicateKey_1 : Erv P w K mg base "DuplicateKey" 1 1 L_DuplicateKey 0 ["key"] [0]) (V_InvalidKey_1 : Erv P w K mg base "InvalidKey" 1 1 L_InvalidKey 0 ["value"] [0]) : FnOk P w K mg base (L2.CX P w) 3 f fd ["_law_p", "_law_q", "_law_r", "_law_s"] (spD K mg G_lby_name) :=
  Fun.okD (k := 2) F sc_lby_name fun Φ cdv A outer s H E cn nM => by
    exact (dss_one (ds_ret (de_lst (da_cons (de_err V_InvalidKey_1 cn.cc da_nil (dk_cons (de_var (i := 0)) dk_nil)) (da_cons (de_err V_DuplicateKey_1 cn.cc da_nil (dk_cons (de_var (i := 0)) dk_nil)) (da_cons (de_err V_InvalidLot_1 cn.cc da_nil (dk_cons (de_var (i := 0)) dk_nil)) (da_cons (de_err V_InvalidMark_1 cn.cc da_nil (dk_cons (de_var (i := 0)) dk_nil)) (da_cons (de_err V_InvalidRow_1 cn.cc da_nil (dk_cons (de_var (i := 0)) dk_nil)) (da_cons (de_err V_InvalidText_1 cn.cc da_nil (dk_cons (de_var (i := 0)) dk_nil)) (da_cons (de_err V_NotSearch_1 cn.cc da_nil (dk_cons (de_var (i := 0)) dk_nil)) (da_cons (de_err V_InvalidNumbers_1 cn.cc da_nil (dk_cons (de_var (i := 0)) dk_nil)) (da_cons (de_err V_AlreadyLiving_1 cn.cc da_nil (dk_cons (de_var (i := 0)) dk_nil)) (da_cons (de_err V_NeighbourMissed_1 cn.cc da_nil (dk_cons (de_var (i := 1)) (dk_cons (de_var (i := 0)) dk_nil))) (da_cons (de_err V_TooMany_1 cn.cc da_nil (dk_cons (de_var (i := 1)) (dk_cons (de_var (i := 0)) dk_nil))) (da_cons (de_err V_NotTop_1 cn.cc da_nil (dk_cons (de_var (i := 0)) dk_nil)) (da_cons (de_err V_OtherKeys_1 cn.cc da_nil (dk_cons (de_var (i := 0)) dk_nil)) (da_cons (de_err V_NotClosed_1 cn.cc da_nil (dk_cons (de_var (i := 1)) (dk_cons (de_var (i := 0)) dk_nil))) (da_cons (de_err V_Barred_1 cn.cc da_nil (dk_cons (de_var (i := 1)) (dk_cons (de_var (i := 0)) dk_nil))) (da_cons (de_err V_Unresolved_1 cn.cc da_nil (dk_cons (de_var (i := 1)) (dk_cons (de_var (i := 0)) dk_nil))) (da_cons (de_err V_NotMeeting_1 cn.cc da_nil (dk_cons (de_var (i := 1)) (dk_cons (de_var (i := 0)) dk_nil))) (da_cons (de_err V_InvalidWord_1 cn.cc da_nil (dk_cons (de_var (i := 0)) dk_nil)) (da_cons (de_err V_InvalidNumber_1 cn.cc da_nil (dk_cons (de_var (i := 0)) dk_nil)) (da_cons (de_err V_Infeasible_1 cn.cc da_nil (dk_cons (de_var (i := 3)) (dk_cons (de_var (i := 2)) (dk_cons (de_var (i := 1)) (dk_cons (de_var (i := 0)) dk_nil))))) (da_cons (de_err V_Stuck_1 cn.cc da_nil (dk_cons (de_var (i := 1)) (dk_cons (de_var (i := 0)) dk_nil))) (da_cons (de_err V_Comes_1 cn.cc da_nil (dk_cons (de_var (i := 0)) dk_nil)) (da_cons (de_err V_InvalidRule_1 cn.cc da_nil (dk_cons (de_var (i := 0)) dk_nil)) (da_cons (de_err V_InvalidItem_1 cn.cc da_nil (dk_cons (de_var (i := 1)) (dk_cons (de_var (i := 0)) dk_nil))) (da_cons (de_err V_InvalidName_1 cn.cc da_nil (dk_cons (de_var (i := 0)) dk_nil)) (da_cons (de_err V_DuplicateName_1 cn.cc da_nil (dk_cons (de_var (i := 0)) dk_nil)) (da_cons (de_err V_InvalidNodes_0 cn.cc da_nil dk_nil) (da_cons (de_err V_InvalidEdge_1 cn.cc da_nil (dk_cons (de_var (i := 0)) dk_nil)) (da_cons (de_err V_InvalidWalk_1 cn.cc da_nil (dk_cons (de_var (i := 0)) dk_nil)) (da_cons (de_err V_Unsafe_1 cn.cc da_nil (dk_cons (de_var (i := 0)) dk_nil)) (da_cons (de_err V_InvalidWall_1 cn.cc da_nil (dk_cons (de_var (i := 0)) dk_nil)) (da_cons (de_err V_Untouched_1 cn.cc da_nil (dk_cons (de_var (i := 0)) dk_nil)) (da_cons (de_err V_Affordable_1 cn.cc da_nil (dk_cons (de_var (i := 0)) dk_nil)) (da_cons (de_err V_NoFilling_0 cn.cc da_nil dk_nil) (da_cons (de_err V_HasFilling_0 cn.cc da_nil dk_nil) (da_cons (de_err V_InvalidDeed_1 cn.cc da_nil (dk_cons (de_var (i := 0)) dk_nil)) (da_cons (de_err V_NameTaken_1 cn.cc da_nil (dk_cons (de_var (i := 0)) dk_nil)) (da_cons (de_err V_Refused_1 cn.cc da_nil (dk_cons (de_var (i := 1)) (dk_cons (de_var (i := 0)) dk_nil))) (da_cons (de_err V_DraftRunning_0 cn.cc da_nil dk_nil) (da_cons (de_err V_NoDraft_0 cn.cc da_nil dk_nil) (da_cons (de_err V_UnknownKey_1 cn.cc da_nil (dk_cons (de_var (i := 0)) dk_nil)) (da_cons (de_err V_UnknownName_1 cn.cc da_nil (dk_cons (de_var (i := 0)) dk_nil)) (da_cons (de_err V_UnknownCell_1 cn.cc da_nil (dk_cons (de_var (i := 0)) dk_nil)) (da_cons (de_err V_PastEnd_1 cn.cc da_nil (dk_cons (de_var (i := 1)) (dk_cons (de_var (i := 0)) dk_nil))) (da_cons (de_err V_NothingLeft_0 cn.cc da_nil dk_nil) da_nil))))))))))))))))))))))))))))))))))))))))))))))))
end L2.DL.K00

namespace L2.DL.K00
open PySem PySem.Spec PyProof.Rows
variable {P : Program} {w : World} {K : PySem.W.Frag} {mg : Str → Option Value} {base : Heap}
theorem sc_ldraw : FnScope N_ldraw ["_law_bag_here", "_law_top"] (defScope s_ldraw) := ⟨rfl, rfl, rfl, by decide +kernel, rfl, by decide +kernel, by decide +kernel⟩
theorem ok_ldraw {f : Addr} {fd : FuncData} (T : Tx K mg) (F : Fun K "_law_draw" "_law_draw" s_ldraw f fd) : FnOk P w K mg base (L2.CX P w) 1 f fd ["_law_bag_here", "_law_top"] (spD K mg G_ldraw) :=
  Fun.okD (k := 0) F sc_ldraw fun Φ cdv A outer s H E cn nM => by
    exact (dss_cons (ds_sti (i := 0) (de_add (de_atv (i := 0) de_int) (DE.wk de_int)) de_int)
    (dss_cons (ds_if (DW.dt (dw_and (dt_eqQ cn.hu (de_atv (i := 0) de_int) (DE.wk de_int)) (dw_and1 (dt_lt (de_atv (i := 0) de_int) (DE.wk (de_len T.b_len (DE.wk (de_atv (i := 0) de_int)))))))) (dss_cons (ds_set (i := 3) cn.nd (de_int1 T.b_int (DE.wk (de_at (de_atv (i := 0) de_int) (de_atv (i := 0) de_int)))))
    (dss_cons (ds_sti (i := 0) (de_add (de_atv (i := 0) de_int) (DE.wk de_int)) de_int)
    (dss_one (ds_if (dt_ge (de_abs T.b_abs (db_var (i := 3))) (DE.wk (de_pow de_int (DE.wk de_int)))) (dss_one (ds_sti (i := 0) (de_abs T.b_abs (db_var (i := 3))) de_int)) (dss_one (ds_sti (i := 0) (de_mod (de_int1 T.b_int (DE.wk (de_add (de_add (de_mul (de_atv (i := 0) de_int) (DE.wk de_int)) (DE.wk (de_mul (de_mod (de_int1 T.b_int (db_var (i := 3))) (DE.wk de_int)) (DE.wk de_int)))) (DE.wk de_int)))) (DE.wk de_int)) de_int)))))) dss_nil)
    (dss_cons (ds_if (dt_gt (de_atv (i := 0) de_int) (DE.wk de_int)) (dss_cons (ds_set (i := 4) cn.nd (de_mod (de_int1 T.b_int (DE.wk (de_atv (i := 0) de_int))) (db_var (i := 1))))
    (dss_cons (ds_sti (i := 0) (de_fdiv (de_atv (i := 0) de_int) (db_var (i := 1))) de_int)
    (dss_one (ds_ret (de_var (i := 4)))))) dss_nil)
    (dss_cons (ds_set (i := 2) cn.nd (de_int1 T.b_int (DE.wk (de_atv (i := 0) de_int))))
    (dss_cons (ds_sti (i := 0) (de_mod (de_int1 T.b_int (DE.wk (de_add (de_add (de_add (de_pow (de_var (i := 2)) (DE.wk de_int)) (DE.wk (de_mul (de_var (i := 2)) (DE.wk de_int)))) (DE.wk (de_mul (de_atv (i := 0) de_int) (DE.wk de_int)))) (DE.wk de_int)))) (DE.wk de_int)) de_int)
    (dss_one (ds_ret (de_mod (de_int1 T.b_int (DE.wk (de_add (de_fdiv (de_atv (i := 0) de_int) (DE.wk de_int)) (DE.wk (de_mul (de_mod (de_int1 T.b_int (DE.wk (de_atv (i := 0) de_int))) (DE.wk de_int)) (DE.wk de_int)))))) (db_var (i := 1))))))))))
theorem sc_lbases : FnScope N_lbases ["_law_e"] (defScope s_lbases) := ⟨rfl, rfl, rfl, by decide +kernel, rfl, by decide +kernel, by decide +kernel⟩
theorem ok_lbases {f : Addr} {fd : FuncData} (T : Tx K mg) (F : Fun K "_law_bases" "_law_bases" s_lbases f fd) : FnOk P w K mg base (L2.CX P w) 1 f fd ["_law_e"] (spD K mg G_lbases) :=
  Fun.okD (k := 0) F sc_lbases fun Φ cdv A outer s H E cn nM => by
    exact (dss_one (ds_ret (de_lst (da_cons (de_isE T.et T.b_isinstance (de_var (i := 0)) (tyf_o T.t_ShapeError)) (da_cons (de_isE T.et T.b_isinstance (de_var (i := 0)) (tyf_b (s := "ValueError") T.b_ValueError)) (da_cons (de_isE T.et T.b_isinstance (de_var (i := 0)) (tyf_o T.t_Missing)) (da_cons (de_isE T.et T.b_isinstance (de_var (i := 0)) (tyf_b (s := "LookupError") T.b_LookupError)) (da_cons (de_isE T.et T.b_isinstance (de_var (i := 0)) (tyf_b (s := "IndexError") T.b_IndexError)) (da_cons (de_isE T.et T.b_isinstance (de_var (i := 0)) (tyf_b (s := "KeyError") T.b_KeyError)) da_nil)))))))))
theorem sc_lupper : FnScope N_lupper ["_law_way", "_law_p", "_law_q"] (defScope s_lupper) := ⟨rfl, rfl, rfl, by decide +kernel, rfl, by decide +kernel, by decide +kernel⟩
theorem ok_lupper {f : Addr} {fd : FuncData} (T : Tx K mg) (F : Fun K "_law_upper" "_law_upper" s_lupper f fd) (R_InvalidText : Erx P w K mg base "InvalidText" 1 1 L_InvalidText) (R_UnknownName : Erx P w K mg base "UnknownName" 1 1 L_UnknownName) (R_Barred : Erx P w K mg base "Barred" 1 2 L_Barred) (R_UnknownCell : Erx P w K mg base "UnknownCell" 1 1 L_UnknownCell) (R_PastEnd : Erx P w K mg base "PastEnd" 1 2 L_PastEnd) (R_NoDraft : Erx P w K mg base "NoDraft" 1 0 L_NoDraft) (R_NothingLeft : Erx P w K mg base "NothingLeft" 1 0 L_NothingLeft) : FnOk P w K mg base (L2.CX P w) 3 f fd ["_law_way", "_law_p", "_law_q"] (spD K mg G_lupper) :=
  Fun.okD (k := 2) F sc_lupper fun Φ cdv A outer s H E cn nM => by
    exact (dss_one (ds_try cn T.sub (fun W pn xe cn' => (dss_cons (ds_if (dt_eqQ cn'.hu (de_var (i := 0)) (DE.wk de_int)) (dss_one (ds_raise (L := L_InvalidText) (n := 1) R_InvalidText cn' (da_cons (de_var (i := 1)) da_nil) (by rfl))) dss_nil)
    (dss_cons (ds_if (dt_eqQ cn'.hu (de_var (i := 0)) (DE.wk de_int)) (dss_one (ds_raise (L := L_UnknownName) (n := 1) R_UnknownName cn' (da_cons (de_var (i := 1)) da_nil) (by rfl))) dss_nil)
    (dss_cons (ds_if (dt_eqQ cn'.hu (de_var (i := 0)) (DE.wk de_int)) (dss_one (ds_raise (L := L_Barred) (n := 2) R_Barred cn' (da_cons (de_var (i := 1)) (da_cons (de_var (i := 2)) da_nil)) (by rfl))) dss_nil)
    (dss_cons (ds_if (dt_eqQ cn'.hu (de_var (i := 0)) (DE.wk de_int)) (dss_one (ds_raise (L := L_UnknownCell) (n := 1) R_UnknownCell cn' (da_cons (de_var (i := 1)) da_nil) (by rfl))) dss_nil)
    (dss_cons (ds_if (dt_eqQ cn'.hu (de_var (i := 0)) (DE.wk de_int)) (dss_one (ds_raise (L := L_PastEnd) (n := 2) R_PastEnd cn' (da_cons (de_var (i := 1)) (da_cons (de_var (i := 2)) da_nil)) (by rfl))) dss_nil)
    (dss_cons (ds_if (dt_eqQ cn'.hu (de_var (i := 0)) (DE.wk de_int)) (dss_one (ds_raise0 (L := L_NoDraft) R_NoDraft cn' (by rfl))) dss_nil)
    (dss_one (ds_raise0 (L := L_NothingLeft) R_NothingLeft cn' (by rfl)))))))))) (.as (i := 3) (by rfl) T.e_Missing (by decide) (by rfl) (by rfl) (fun a dx c o pn EH => (dss_one (ds_ret (de_tup (da_cons de_str (da_cons (de_exat (i := 3) EH T.xft) da_nil)))))) (.as (i := 3) (by rfl) T.e_ShapeError (by decide) (by rfl) (by rfl) (fun a dx c o pn EH => (dss_one (ds_ret (de_tup (da_cons de_str (da_cons (de_exat (i := 3) EH T.xft) da_nil)))))) (.as (i := 3) (by rfl) T.e_PastEnd (by decide) (by rfl) (by rfl) (fun a dx c o pn EH => (dss_one (ds_ret (de_tup (da_cons de_str (da_cons (de_exat (i := 3) EH T.xft) (da_cons (de_exat (i := 3) EH T.xft) (da_cons (de_exat (i := 3) EH T.xft) da_nil)))))))) (.as (i := 3) (by rfl) T.e_NothingLeft (by decide) (by rfl) (by rfl) (fun a dx c o pn EH => (dss_one (ds_ret (de_tup (da_cons de_str (da_cons (de_exat (i := 3) EH T.xft) da_nil)))))) .nil))))))
end L2.DL.K00

namespace L2.DL.K00
open PySem PySem.Spec PyProof.Rows
variable {P : Program} {w : World} {K : PySem.W.Frag} {mg : Str → Option Value} {base : Heap}
theorem sc_lof : FnScope N_lof ["_law_bag_here", "_law_some"] (defScope s_lof) := ⟨rfl, rfl, rfl, by decide +kernel, rfl, by decide +kernel, by decide +kernel⟩
theorem ok_lof {f : Addr} {fd : FuncData} (T : Tx K mg) (F : Fun K "_law_of" "_law_of" s_lof f fd) (D_ldraw : Dfn P w K mg base "_law_draw" 1 G_ldraw) : FnOk P w K mg base (L2.CX P w) 2 f fd ["_law_bag_here", "_law_some"] (spD K mg G_lof) :=
  Fun.okD (k := 1) F sc_lof fun Φ cdv A outer s H E cn nM => by
    exact (dss_one (ds_ret (de_atv (i := 1) (de_cal D_ldraw cn.cc (da_cons (de_var (i := 0)) (da_cons (de_len T.b_len (db_var (i := 1))) da_nil)) (by rfl)))))
theorem sc_lsame : FnScope N_lsame ["_law_found", "_law_due"] (defScope s_lsame) := ⟨rfl, rfl, rfl, by decide +kernel, rfl, by decide +kernel, by decide +kernel⟩
theorem ok_lsame {f : Addr} {fd : FuncData} (T : Tx K mg) (F : FunG K mg "_law_same" s_lsame f fd) (hb : Binds K fd ["_law_found", "_law_due"] []) : ∀ n : Nat, FnOk P w K mg base (L2.CX P w) (0 + n) f fd ["_law_found", "_law_due"] (spD K mg (GN_lsame n))
  | 0 => fn_never
  | n + 1 => by
    have D_lsame : Dfn P w K mg base "_law_same" (0 + n) (GN_lsame n) := F.dfn (ok_lsame T F hb n) hb
    exact Fun.okD (k := 0 + n) F.fn sc_lsame fun Φ cdv A outer s H E cn nM => by
      exact (dss_cons (ds_if (dt_truth (DE.wk (de_isX2 T.kt T.oc T.et T.b_isinstance (de_var (i := 1)) (tye_b (s := "list") T.b_list) (tye_b (s := "tuple") T.b_tuple)))) (dss_cons (ds_if (DW.dt (dw_or (dt_ne cn.hu (de_isX T.kt T.oc T.et T.b_isinstance (de_var (i := 0)) (tye_b (s := "list") T.b_list)) (DE.wk (de_isX T.kt T.oc T.et T.b_isinstance (de_var (i := 1)) (tye_b (s := "list") T.b_list)))) (dw_or1 (dt_ne cn.hu (de_isX T.kt T.oc T.et T.b_isinstance (de_var (i := 0)) (tye_b (s := "tuple") T.b_tuple)) (DE.wk (de_isX T.kt T.oc T.et T.b_isinstance (de_var (i := 1)) (tye_b (s := "tuple") T.b_tuple))))))) (dss_one (ds_ret de_bl)) dss_nil)
    (dss_one (ds_ret (de_and (de_eqQ cn.hu (de_len T.b_len (db_var (i := 0))) (DE.wk (de_len T.b_len (db_var (i := 1))))) (de_one (de_all cn.calm T.b_all (DE.wk (de_lc (own := [("_law_p", 2), ("_law_q", 3)]) cn (blk_ok (N := N_lsame) (sc := defScope s_lsame) (by decide +kernel)) rfl (di_zip T.b_zip (da_cons (de_var (i := 0)) (da_cons (de_var (i := 1)) da_nil))) (fun _ _ _ _ _ => (dgp_tup cn.calm (dgsp_cons (dgp_name (i := 2) cn.nd) (dgsp_cons (dgp_name (i := 3) cn.nd) dgsp_nil)))) (fun _ _ _ _ _ => dts_nil) (fun _ _ _ _ _ => (de_cal (hj := Nat.le_refl _) D_lsame cn.blk (da_cons (de_var (i := 2)) (da_cons (de_var (i := 3)) da_nil)) (by rfl))))))))))) dss_nil)
    (dss_cons (ds_if (dt_truth (DE.wk (de_isX2 T.kt T.oc T.et T.b_isinstance (de_var (i := 0)) (tye_b (s := "list") T.b_list) (tye_b (s := "tuple") T.b_tuple)))) (dss_one (ds_ret de_bl)) dss_nil)
    (dss_cons (ds_if (DW.dt (dw_or (dt_isN (de_var (i := 1)) (DE.wk de_non)) (dw_or1 (dt_isN (de_var (i := 0)) (DE.wk de_non))))) (dss_one (ds_ret (de_and (de_isN (de_var (i := 1)) (DE.wk de_non)) (de_one (de_isN (de_var (i := 0)) (DE.wk de_non)))))) dss_nil)
    (dss_cons (ds_if (DW.dt (dw_or (dt_truth (DE.wk (de_isX T.kt T.oc T.et T.b_isinstance (de_var (i := 1)) (tye_b (s := "bool") T.b_bool)))) (dw_or1 (dt_truth (DE.wk (de_isX T.kt T.oc T.et T.b_isinstance (de_var (i := 0)) (tye_b (s := "bool") T.b_bool))))))) (dss_one (ds_ret (de_and (de_isX T.kt T.oc T.et T.b_isinstance (de_var (i := 1)) (tye_b (s := "bool") T.b_bool)) (de_and (de_isX T.kt T.oc T.et T.b_isinstance (de_var (i := 0)) (tye_b (s := "bool") T.b_bool)) (de_one (de_eqN (i := 0) (j := 1) cn.hu (ecs_ok T.et))))))) dss_nil)
    (dss_cons (ds_if (DW.dt (dw_or (dt_truth (DE.wk (de_isX T.kt T.oc T.et T.b_isinstance (de_var (i := 1)) (tye_b (s := "int") T.b_int)))) (dw_or1 (dt_truth (DE.wk (de_isX T.kt T.oc T.et T.b_isinstance (de_var (i := 0)) (tye_b (s := "int") T.b_int))))))) (dss_one (ds_ret (de_and (de_isX T.kt T.oc T.et T.b_isinstance (de_var (i := 1)) (tye_b (s := "int") T.b_int)) (de_and (de_isX T.kt T.oc T.et T.b_isinstance (de_var (i := 0)) (tye_b (s := "int") T.b_int)) (de_one (de_eqN (i := 0) (j := 1) cn.hu (ecs_ok T.et))))))) dss_nil)
    (dss_cons (ds_if (DW.dt (dw_or (dt_truth (DE.wk (de_isX T.kt T.oc T.et T.b_isinstance (de_var (i := 1)) (tye_b (s := "str") T.b_str)))) (dw_or1 (dt_truth (DE.wk (de_isX T.kt T.oc T.et T.b_isinstance (de_var (i := 0)) (tye_b (s := "str") T.b_str))))))) (dss_one (ds_ret (de_and (de_isX T.kt T.oc T.et T.b_isinstance (de_var (i := 1)) (tye_b (s := "str") T.b_str)) (de_and (de_isX T.kt T.oc T.et T.b_isinstance (de_var (i := 0)) (tye_b (s := "str") T.b_str)) (de_one (de_eqN (i := 0) (j := 1) cn.hu (ecs_ok T.et))))))) dss_nil)
    (dss_one (ds_ret (de_eqN (i := 0) (j := 1) cn.hu (ecs_ok T.et))))))))))
theorem sc_law : FnScope N_law ["_law_script"] (defScope s_law) := ⟨rfl, rfl, rfl, by decide +kernel, rfl, by decide +kernel, by decide +kernel⟩
theorem ok_law {f : Addr} {fd : FuncData} (T : Tx K mg) (F : Fun K "law" "law" s_law f fd) (D_lbag : Dfn P w K mg base "_law_bag" 1 G_lbag) (D_lwords : Dfn P w K mg base "_law_words" 1 G_lwords) (D_lwords_k0 : DfK P w K mg base "_law_words" 1 G_lwords 0 [] []) (D_lany : Dfn P w K mg base "_law_any" 3 G_lany) (D_lby_place : Dfn P w K mg base "_law_by_place" 3 G_lby_place) (D_lby_name : Dfn P w K mg base "_law_by_name" 3 G_lby_name) (D_lsame : Dfn P w K mg base "_law_same" 6 G_lsame) (D_lfields : Dfn P w K mg base "_law_fields" 1 G_lfields) (D_lsorts : Dfn P w K mg base "_law_sorts" 1 G_lsorts) (D_lbases : Dfn P w K mg base "_law_bases" 1 G_lbases) (D_lupper : Dfn P w K mg base "_law_upper" 3 G_lupper) : RunAt P w K mg base callerA f fd ["_law_script"] (spD K mg G_law) :=
  run_at (k := 6) F sc_law ⟨rfl, by decide, by decide⟩ fun Φ cdv outer s H E cn nM => by
    exact (dss_cons (ds_setF (i := 1) cn.nd (df_cal (i := 1) D_lbag cn.cc (da_cons (de_var (i := 0)) da_nil) (by rfl)))
    (dss_cel (i := 1) (dss_cons (ds_set (i := 2) cn.nd (de_callK D_lwords_k0 cn.cc da_nil dk_nil (by rfl)))
    (dss_cons (ds_for cn (di_rng1 T.b_range (da_cons de_int da_nil)) (dg_name (i := 3) cn.nd) nx_name (dss_cons (ds_asg (de_tup (da_cons (de_cal D_lany cn.cc (da_cons (de_var (i := 1)) da_nil) (by rfl)) (da_cons (de_cal D_lany cn.cc (da_cons (de_var (i := 1)) da_nil) (by rfl)) (da_cons (de_cal D_lany cn.cc (da_cons (de_var (i := 1)) da_nil) (by rfl)) (da_cons (de_cal D_lany cn.cc (da_cons (de_var (i := 1)) da_nil) (by rfl)) da_nil))))) ((dg_tup cn.calm (dgs_cons (dg_name (i := 8) cn.nd) (dgs_cons (dg_name (i := 9) cn.nd) (dgs_cons (dg_name (i := 10) cn.nd) (dgs_cons (dg_name (i := 11) cn.nd) dgs_nil)))))).rep (nx_tup (nxs_cons nx_name (nxs_cons nx_name (nxs_cons nx_name (nxs_cons nx_name nxs_nil))))))
    (dss_cons (ds_set (i := 4) cn.nd (de_lc (own := [("_law_n", 12)]) cn (blk_ok (N := N_law) (sc := defScope s_law) (by decide +kernel)) rfl (di_rng1 T.b_range (da_cons de_int da_nil)) (fun _ _ _ _ _ => (dgp_name (i := 12) cn.nd)) (fun _ _ _ _ _ => dts_nil) (fun _ _ _ _ _ => (de_if (dt_in (de_var (i := 12)) (DE.wk (de_lst (da_cons de_int (da_cons de_int (da_cons de_int (da_cons de_int (da_cons de_int (da_cons de_int (da_cons de_int (da_cons de_int (da_cons de_int (da_cons de_int da_nil))))))))))))) (de_tup (da_cons (de_var (i := 8)) (da_cons (de_var (i := 9)) da_nil))) (de_tup (da_cons (de_var (i := 8)) da_nil))))))
    (dss_cons (ds_set (i := 4) cn.nd (de_lc (own := [("_law_n", 12)]) cn (blk_ok (N := N_law) (sc := defScope s_law) (by decide +kernel)) rfl (di_rng1 T.b_range (da_cons de_int da_nil)) (fun _ _ _ _ _ => (dgp_name (i := 12) cn.nd)) (fun _ _ _ _ _ => dts_nil) (fun _ _ _ _ _ => (de_if (dt_in (de_var (i := 12)) (DE.wk (de_lst (da_cons de_int (da_cons de_int (da_cons de_int (da_cons de_int (da_cons de_int (da_cons de_int da_nil))))))))) (de_tup da_nil) (de_if (dt_eqQ cn.hu (de_var (i := 12)) (DE.wk de_int)) (de_tup (da_cons (de_var (i := 8)) (da_cons (de_var (i := 9)) (da_cons (de_var (i := 10)) (da_cons (de_var (i := 11)) da_nil))))) (de_atv (i := 4) (de_var (i := 12))))))))
    (dss_cons (ds_set (i := 5) cn.nd (de_cal D_lby_place cn.cc (da_cons (de_var (i := 11)) (da_cons (de_var (i := 10)) (da_cons (de_var (i := 9)) (da_cons (de_var (i := 8)) da_nil)))) (by rfl)))
    (dss_cons (ds_for cn (di_any (de_lst (da_cons (de_cal D_lby_place cn.cc (da_cons (de_var (i := 8)) (da_cons (de_var (i := 9)) (da_cons (de_var (i := 10)) (da_cons (de_var (i := 11)) da_nil)))) (by rfl)) (da_cons (de_cal D_lby_name cn.cc (da_cons (de_var (i := 8)) (da_cons (de_var (i := 9)) (da_cons (de_var (i := 10)) (da_cons (de_var (i := 11)) da_nil)))) (by rfl)) da_nil)))) (dg_name (i := 6) cn.nd) nx_name (dss_one (ds_for cn (di_rng1 T.b_range (da_cons de_int da_nil)) (dg_name (i := 12) cn.nd) nx_name (dss_cons (ds_set (i := 13) cn.nd (de_atv (i := 6) (de_var (i := 12))))
    (dss_cons (ds_if (dt_not (dt_truth (DE.wk (de_cal D_lsame cn.cc (da_cons (de_lst (da_cons (de_cal D_lfields cn.cc (da_cons (de_var (i := 12)) (da_cons (de_var (i := 13)) da_nil)) (by rfl)) (da_cons (de_erf (i := 13) T.xft) da_nil))) (da_cons (de_lst (da_cons (de_atv (i := 4) (de_var (i := 12))) (da_cons (de_atv (i := 2) (de_var (i := 12))) da_nil))) da_nil)) (by rfl))))) (dss_one (ds_ret de_bl)) dss_nil)
    (dss_cons (ds_if (dt_not (dt_truth (DE.wk (de_cal D_lsame cn.cc (da_cons (de_cal D_lsorts cn.cc (da_cons (de_var (i := 13)) da_nil) (by rfl)) (da_cons (de_lc (own := [("_law_m", 15)]) cn (blk_ok (N := N_law) (sc := defScope s_law) (by decide +kernel)) rfl (di_rng1 T.b_range (da_cons de_int da_nil)) (fun _ _ _ _ _ => (dgp_name (i := 15) cn.nd)) (fun _ _ _ _ _ => dts_nil) (fun _ _ _ _ _ => (de_eqQ cn.hu (de_var (i := 15)) (db_var (i := 12))))) da_nil)) (by rfl))))) (dss_one (ds_ret de_bl)) dss_nil)
    (dss_one (ds_if (dt_not (dt_truth (DE.wk (de_cal D_lsame cn.cc (da_cons (de_cal D_lbases cn.cc (da_cons (de_var (i := 13)) da_nil) (by rfl)) (da_cons (de_lst (da_cons (de_lt (de_var (i := 12)) (DE.wk de_int)) (da_cons (de_lt (de_var (i := 12)) (DE.wk de_int)) (da_cons (de_in (de_var (i := 12)) (DE.wk (de_lst (da_cons de_int (da_cons de_int (da_cons de_int da_nil)))))) (da_cons (de_gt (de_var (i := 12)) (DE.wk de_int)) (da_cons (de_gt (de_var (i := 12)) (DE.wk de_int)) (da_cons de_bl da_nil))))))) da_nil)) (by rfl))))) (dss_one (ds_ret de_bl)) dss_nil))))))))
    (dss_cons (ds_if (dt_not (dt_truth (DE.wk (de_cal D_lsame cn.cc (da_cons (de_lc (own := [("_law_n", 12)]) cn (blk_ok (N := N_law) (sc := defScope s_law) (by decide +kernel)) rfl (di_any (de_lst (da_cons de_int (da_cons de_int (da_cons de_int (da_cons de_int (da_cons de_int (da_cons de_int da_nil)))))))) (fun _ _ _ _ _ => (dgp_name (i := 12) cn.nd)) (fun _ _ _ _ _ => dts_nil) (fun _ _ _ _ _ => (de_sl (de_cal D_lfields cn.blk (da_cons (de_var (i := 12)) (da_cons (de_atv (i := 5) (de_var (i := 12))) da_nil)) (by rfl)) do_none (do_some de_int)))) (da_cons (de_mulX (de_lst (da_cons (de_tup (da_cons (de_var (i := 11)) da_nil)) da_nil)) (DE.wk de_int)) da_nil)) (by rfl))))) (dss_one (ds_ret de_bl)) dss_nil)
    (dss_cons (ds_set (i := 7) cn.nd (de_lst (da_cons (de_tup (da_cons de_str (da_cons de_str da_nil))) (da_cons (de_tup (da_cons de_str (da_cons de_str da_nil))) (da_cons (de_tup (da_cons de_str (da_cons de_str da_nil))) (da_cons (de_tup (da_cons de_str (da_cons de_str da_nil))) (da_cons (de_tup (da_cons de_str (da_cons de_str (da_cons (de_var (i := 8)) (da_cons (de_var (i := 9)) da_nil))))) da_nil)))))))
    (dss_cons (ds_set (i := 7) cn.nd (de_add (de_var (i := 7)) (DE.wk (de_lst (da_cons (de_tup (da_cons de_str (da_cons de_str da_nil))) (da_cons (de_tup (da_cons de_str (da_cons de_str da_nil))) da_nil))))))
    (dss_one (ds_if (dt_not (dt_truth (DE.wk (de_cal D_lsame cn.cc (da_cons (de_lc (own := [("_law_way", 14)]) cn (blk_ok (N := N_law) (sc := defScope s_law) (by decide +kernel)) rfl (di_rng1 T.b_range (da_cons de_int da_nil)) (fun _ _ _ _ _ => (dgp_name (i := 14) cn.nd)) (fun _ _ _ _ _ => dts_nil) (fun _ _ _ _ _ => (de_cal D_lupper cn.blk (da_cons (de_var (i := 14)) (da_cons (de_var (i := 8)) (da_cons (de_var (i := 9)) da_nil))) (by rfl)))) (da_cons (de_var (i := 7)) da_nil)) (by rfl))))) (dss_one (ds_ret de_bl)) dss_nil)))))))))))
    (dss_one (ds_ret de_bl)))) nM))
end L2.DL.K00

namespace L2.DL.K00
open PySem PySem.Spec PyProof.Rows
variable {P : Program} {w : World} {K : PySem.W.Frag} {mg : Str → Option Value} {base : Heap}
theorem sc_lany : FnScope N_lany ["_law_bag_here"] (defScope s_lany) := ⟨rfl, rfl, rfl, by decide +kernel, rfl, by decide +kernel, by decide +kernel⟩
theorem ok_lany {f : Addr} {fd : FuncData} (T : Tx K mg) (F : Fun K "_law_any" "_law_any" s_lany f fd) (D_lof : Dfn P w K mg base "_law_of" 2 G_lof) (D_ldraw : Dfn P w K mg base "_law_draw" 1 G_ldraw) (V_UnknownKey_0 : Erv P w K mg base "UnknownKey" 1 1 L_UnknownKey 1 [] [0]) : FnOk P w K mg base (L2.CX P w) 3 f fd ["_law_bag_here"] (spD K mg G_lany) :=
  Fun.okD (k := 2) F sc_lany fun Φ cdv A outer s H E cn nM => by
    exact (dss_cons (ds_set (i := 1) cn.nd (de_lst (da_cons de_non (da_cons de_bl (da_cons de_bl (da_cons de_int (da_cons de_int (da_cons (de_neg (DE.wk de_int)) (da_cons (de_pow de_int (DE.wk de_int)) (da_cons de_str (da_cons de_str (da_cons de_str (da_cons (de_tup da_nil) (da_cons (de_lst da_nil) (da_cons (de_tup (da_cons de_int (da_cons de_int da_nil))) (da_cons (de_lst (da_cons de_bl da_nil)) (da_cons de_new (da_cons (de_disp (dps_cons de_str (de_lst (da_cons de_int da_nil)) dps_nil)) (da_cons (de_tup (da_cons de_int (da_cons de_int (da_cons (de_tup (da_cons (de_tup da_nil) (da_cons de_str da_nil))) da_nil)))) (da_cons (de_lst (da_cons (de_tup (da_cons de_int (da_cons de_int da_nil))) da_nil)) (da_cons (de_err V_UnknownKey_0 cn.cc (da_cons de_int da_nil) dk_nil) da_nil)))))))))))))))))))))
    (dss_one (ds_ret (de_cal D_lof cn.cc (da_cons (de_var (i := 0)) (da_cons (de_add (de_var (i := 1)) (DE.wk (de_lst (da_cons (de_cal D_ldraw cn.cc (da_cons (de_var (i := 0)) (da_cons de_int da_nil)) (by rfl)) (da_cons (de_cal D_ldraw cn.cc (da_cons (de_var (i := 0)) (da_cons (de_pow de_int (DE.wk de_int)) da_nil)) (by rfl)) da_nil))))) da_nil)) (by rfl)))))
theorem sc_lsorts : FnScope N_lsorts ["_law_e"] (defScope s_lsorts) := ⟨rfl, rfl, rfl, by decide +kernel, rfl, by decide +kernel, by decide +kernel⟩
theorem ok_lsorts {f : Addr} {fd : FuncData} (T : Tx K mg) (F : Fun K "_law_sorts" "_law_sorts" s_lsorts f fd) : FnOk P w K mg base (L2.CX P w) 1 f fd ["_law_e"] (spD K mg G_lsorts) :=
  Fun.okD (k := 0) F sc_lsorts fun Φ cdv A outer s H E cn nM => by
    exact (dss_one (ds_ret (de_lst (da_cons (de_isE T.et T.b_isinstance (de_var (i := 0)) (tyf_o T.t_InvalidKey)) (da_cons (de_isE T.et T.b_isinstance (de_var (i := 0)) (tyf_o T.t_DuplicateKey)) (da_cons (de_isE T.et T.b_isinstance (de_var (i := 0)) (tyf_o T.t_InvalidLot)) (da_cons (de_isE T.et T.b_isinstance (de_var (i := 0)) (tyf_o T.t_InvalidMark)) (da_cons (de_isE T.et T.b_isinstance (de_var (i := 0)) (tyf_o T.t_InvalidRow)) (da_cons (de_isE T.et T.b_isinstance (de_var (i := 0)) (tyf_o T.t_InvalidText)) (da_cons (de_isE T.et T.b_isinstance (de_var (i := 0)) (tyf_o T.t_NotSearch)) (da_cons (de_isE T.et T.b_isinstance (de_var (i := 0)) (tyf_o T.t_InvalidNumbers)) (da_cons (de_isE T.et T.b_isinstance (de_var (i := 0)) (tyf_o T.t_AlreadyLiving)) (da_cons (de_isE T.et T.b_isinstance (de_var (i := 0)) (tyf_o T.t_NeighbourMissed)) (da_cons (de_isE T.et T.b_isinstance (de_var (i := 0)) (tyf_o T.t_TooMany)) (da_cons (de_isE T.et T.b_isinstance (de_var (i := 0)) (tyf_o T.t_NotTop)) (da_cons (de_isE T.et T.b_isinstance (de_var (i := 0)) (tyf_o T.t_OtherKeys)) (da_cons (de_isE T.et T.b_isinstance (de_var (i := 0)) (tyf_o T.t_NotClosed)) (da_cons (de_isE T.et T.b_isinstance (de_var (i := 0)) (tyf_o T.t_Barred)) (da_cons (de_isE T.et T.b_isinstance (de_var (i := 0)) (tyf_o T.t_Unresolved)) (da_cons (de_isE T.et T.b_isinstance (de_var (i := 0)) (tyf_o T.t_NotMeeting)) (da_cons (de_isE T.et T.b_isinstance (de_var (i := 0)) (tyf_o T.t_InvalidWord)) (da_cons (de_isE T.et T.b_isinstance (de_var (i := 0)) (tyf_o T.t_InvalidNumber)) (da_cons (de_isE T.et T.b_isinstance (de_var (i := 0)) (tyf_o T.t_Infeasible)) (da_cons (de_isE T.et T.b_isinstance (de_var (i := 0)) (tyf_o T.t_Stuck)) (da_cons (de_isE T.et T.b_isinstance (de_var (i := 0)) (tyf_o T.t_Comes)) (da_cons (de_isE T.et T.b_isinstance (de_var (i := 0)) (tyf_o T.t_InvalidRule)) (da_cons (de_isE T.et T.b_isinstance (de_var (i := 0)) (tyf_o T.t_InvalidItem)) (da_cons (de_isE T.et T.b_isinstance (de_var (i := 0)) (tyf_o T.t_InvalidName)) (da_cons (de_isE T.et T.b_isinstance (de_var (i := 0)) (tyf_o T.t_DuplicateName)) (da_cons (de_isE T.et T.b_isinstance (de_var (i := 0)) (tyf_o T.t_InvalidNodes)) (da_cons (de_isE T.et T.b_isinstance (de_var (i := 0)) (tyf_o T.t_InvalidEdge)) (da_cons (de_isE T.et T.b_isinstance (de_var (i := 0)) (tyf_o T.t_InvalidWalk)) (da_cons (de_isE T.et T.b_isinstance (de_var (i := 0)) (tyf_o T.t_Unsafe)) (da_cons (de_isE T.et T.b_isinstance (de_var (i := 0)) (tyf_o T.t_InvalidWall)) (da_cons (de_isE T.et T.b_isinstance (de_var (i := 0)) (tyf_o T.t_Untouched)) (da_cons (de_isE T.et T.b_isinstance (de_var (i := 0)) (tyf_o T.t_Affordable)) (da_cons (de_isE T.et T.b_isinstance (de_var (i := 0)) (tyf_o T.t_NoFilling)) (da_cons (de_isE T.et T.b_isinstance (de_var (i := 0)) (tyf_o T.t_HasFilling)) (da_cons (de_isE T.et T.b_isinstance (de_var (i := 0)) (tyf_o T.t_InvalidDeed)) (da_cons (de_isE T.et T.b_isinstance (de_var (i := 0)) (tyf_o T.t_NameTaken)) (da_cons (de_isE T.et T.b_isinstance (de_var (i := 0)) (tyf_o T.t_Refused)) (da_cons (de_isE T.et T.b_isinstance (de_var (i := 0)) (tyf_o T.t_DraftRunning)) (da_cons (de_isE T.et T.b_isinstance (de_var (i := 0)) (tyf_o T.t_NoDraft)) (da_cons (de_isE T.et T.b_isinstance (de_var (i := 0)) (tyf_o T.t_UnknownKey)) (da_cons (de_isE T.et T.b_isinstance (de_var (i := 0)) (tyf_o T.t_UnknownName)) (da_cons (de_isE T.et T.b_isinstance (de_var (i := 0)) (tyf_o T.t_UnknownCell)) (da_cons (de_isE T.et T.b_isinstance (de_var (i := 0)) (tyf_o T.t_PastEnd)) (da_cons (de_isE T.et T.b_isinstance (de_var (i := 0)) (tyf_o T.t_NothingLeft)) da_nil))))))))))))))))))))))))))))))))))))))))))))))))
end L2.DL.K00

namespace L2.DL.K00
open PySem PySem.Spec PyProof.Rows
variable {P : Program} {w : World} {K : PySem.W.Frag} {mg : Str → Option Value} {base : Heap}
theorem sc_lby_place : FnScope N_lby_place ["_law_p", "_law_q", "_law_r", "_law_s"] (defScope s_lby_place) := ⟨rfl, rfl, rfl, by decide +kernel, rfl, by decide +kernel, by decide +kernel⟩
theorem ok_lby_place {f : Addr} {fd : FuncData} (T : Tx K mg) (F : Fun K "_law_by_place" "_law_by_place" s_lby_place f fd) (V_NothingLeft_0 : Erv P w K mg base "NothingLeft" 1 0 L_NothingLeft 0 [] []) (V_PastEnd_0 : Erv P w K mg base "PastEnd" 1 2 L_PastEnd 2 [] [0, 1]) (V_UnknownCell_0 : Erv P w K mg base "UnknownCell" 1 1 L_UnknownCell 1 [] [0]) (V_UnknownName_0 : Erv P w K mg base "UnknownName" 1 1 L_UnknownName 1 [] [0]) (V_UnknownKey_0 : Erv P w K mg base "UnknownKey" 1 1 L_UnknownKey 1 [] [0]) (V_NoDraft_0 : Erv P w K mg base "NoDraft" 1 0 L_NoDraft 0 [] []) (V_DraftRunning_0 : Erv P w K mg base "DraftRunning" 1 0 L_DraftRunning 0 [] []) (V_Refused_0 : Erv P w K mg base "Refused" 1 2 L_Refused 2 [] [0, 1]) (V_NameTaken_0 : Erv P w K mg base "NameTaken" 1 1 L_NameTaken 1 [] [0]) (V_InvalidDeed_0 : Erv P w K mg base "InvalidDeed" 1 1 L_InvalidDeed 1 [] [0]) (V_HasFilling_0 : Erv P w K mg base "HasFilling" 1 0 L_HasFilling 0 [] []) (V_NoFilling_0 : Erv P w K mg base "NoFilling" 1 0 L_NoFilling 0 [] []) (V_Affordable_0 : Erv P w K mg base "Affordable" 1 1 L_Affordable 1 [] [0]) (V_Untouched_0 : Erv P w K mg base "Untouched" 1 1 L_Untouched 1 [] [0]) (V_InvalidWall_0 : Erv P w K mg base "InvalidWall" 1 1 L_InvalidWall 1 [] [0]) (V_Unsafe_0 : Erv P w K mg base "Unsafe" 1 1 L_Unsafe 1 [] [0]) (V_InvalidWalk_0 : Erv P w K mg base "InvalidWalk" 1 1 L_InvalidWalk 1 [] [0]) (V_InvalidEdge_0 : Erv P w K mg base "InvalidEdge" 1 1 L_InvalidEdge 1 [] [0]) (V_InvalidNodes_0 : Erv P w K mg base "InvalidNodes" 1 0 L_InvalidNodes 0 [] []) (V_DuplicateName_0 : Erv P w K mg base "DuplicateName" 1 1 L_DuplicateName 1 [] [0]) (V_InvalidName_0 : Erv P w K mg base "InvalidName" 1 1 L_InvalidName 1 [] [0]) (V_InvalidItem_0 : Erv P w K mg base "InvalidItem" 1 2 L_InvalidItem 2 [] [0, 1]) (V_InvalidRule_0 : Erv P w K mg base "InvalidRule" 1 1 L_InvalidRule 1 [] [0]) (V_Comes_0 : Erv P w K mg base "Comes" 1 1 L_Comes 1 [] [0]) (V_Stuck_0 : Erv P w K mg base "Stuck" 1 2 L_Stuck 2 [] [0, 1]) (V_Infeasible_0 : Erv P w K mg base "Infeasible" 1 4 L_Infeasible 4 [] [0, 1, 2, 3]) (V_InvalidNumber_0 : Erv P w K mg base "InvalidNumber" 1 1 L_InvalidNumber 1 [] [0]) (V_InvalidWord_0 : Erv P w K mg base "InvalidWord" 1 1 L_InvalidWord 1 [] [0]) (V_NotMeeting_0 : Erv P w K mg base "NotMeeting" 1 2 L_NotMeeting 2 [] [0, 1]) (V_Unresolved_0 : Erv P w K mg base "Unresolved" 1 2 L_Unresolved 2 [] [0, 1]) (V_Barred_0 : Erv P w K mg base "Barred" 1 2 L_Barred 2 [] [0, 1]) (V_NotClosed_0 : Erv P w K mg base "NotClosed" 1 2 L_NotClosed 2 [] [0, 1]) (V_OtherKeys_0 : Erv P w K mg base "OtherKeys" 1 1 L_OtherKeys 1 [] [0]) (V_NotTop_0 : Erv P w K mg base "NotTop" 1 1 L_NotTop 1 [] [0]) (V_TooMany_0 : Erv P w K mg base "TooMany" 1 2 L_TooMany 2 [] [0, 1]) (V_NeighbourMissed_0 : Erv P w K mg base "NeighbourMissed" 1 2 L_NeighbourMissed 2 [] [0, 1]) (V_AlreadyLiving_0 : Erv P w K mg base "AlreadyLiving" 1 1 L_AlreadyLiving 1 [] [0]) (V_InvalidNumbers_0 : Erv P w K mg base "InvalidNumbers" 1 1 L_InvalidNumbers 1 [] [0]) (V_NotSearch_0 : Erv P w K mg base "NotSearch" 1 1 L_NotSearch 1 [] [0]) (V_InvalidText_0 : Erv P w K mg base "InvalidText" 1 1 L_InvalidText 1 [] [0]) (V_InvalidRow_0 : Erv P w K mg base "InvalidRow" 1 1 L_InvalidRow 1 [] [0]) (V_InvalidMark_0 : Erv P w K mg base "InvalidMark" 1 1 L_InvalidMark 1 [] [0]) (V_InvalidLot_0 : Erv P w K mg base "InvalidLot" 1 1 L_InvalidLot 1 [] [0]) (V_DuplicateKey_0 : Erv P w K mg base "DuplicateKey" 1 1 L_DuplicateKey 1 [] [0]) (V_InvalidKey_0 : Erv P w K mg base "InvalidKey" 1 1 L_InvalidKey 1 [] [0]) : FnOk P w K mg base (L2.CX P w) 3 f fd ["_law_p", "_law_q", "_law_r", "_law_s"] (spD K mg G_lby_place) :=
  Fun.okD (k := 2) F sc_lby_place fun Φ cdv A outer s H E cn nM => by
    exact (dss_one (ds_ret (de_lst (da_cons (de_err V_InvalidKey_0 cn.cc (da_cons (de_var (i := 0)) da_nil) dk_nil) (da_cons (de_err V_DuplicateKey_0 cn.cc (da_cons (de_var (i := 0)) da_nil) dk_nil) (da_cons (de_err V_InvalidLot_0 cn.cc (da_cons (de_var (i := 0)) da_nil) dk_nil) (da_cons (de_err V_InvalidMark_0 cn.cc (da_cons (de_var (i := 0)) da_nil) dk_nil) (da_cons (de_err V_InvalidRow_0 cn.cc (da_cons (de_var (i := 0)) da_nil) dk_nil) (da_cons (de_err V_InvalidText_0 cn.cc (da_cons (de_var (i := 0)) da_nil) dk_nil) (da_cons (de_err V_NotSearch_0 cn.cc (da_cons (de_var (i := 0)) da_nil) dk_nil) (da_cons (de_err V_InvalidNumbers_0 cn.cc (da_cons (de_var (i := 0)) da_nil) dk_nil) (da_cons (de_err V_AlreadyLiving_0 cn.cc (da_cons (de_var (i := 0)) da_nil) dk_nil) (da_cons (de_err V_NeighbourMissed_0 cn.cc (da_cons (de_var (i := 0)) (da_cons (de_var (i := 1)) da_nil)) dk_nil) (da_cons (de_err V_TooMany_0 cn.cc (da_cons (de_var (i := 0)) (da_cons (de_var (i := 1)) da_nil)) dk_nil) (da_cons (de_err V_NotTop_0 cn.cc (da_cons (de_var (i := 0)) da_nil) dk_nil) (da_cons (de_err V_OtherKeys_0 cn.cc (da_cons (de_var (i := 0)) da_nil) dk_nil) (da_cons (de_err V_NotClosed_0 cn.cc (da_cons (de_var (i := 0)) (da_cons (de_var (i := 1)) da_nil)) dk_nil) (da_cons (de_err V_Barred_0 cn.cc (da_cons (de_var (i := 0)) (da_cons (de_var (i := 1)) da_nil)) dk_nil) (da_cons (de_err V_Unresolved_0 cn.cc (da_cons (de_var (i := 0)) (da_cons (de_var (i := 1)) da_nil)) dk_nil) (da_cons (de_err V_NotMeeting_0 cn.cc (da_cons (de_var (i := 0)) (da_cons (de_var (i := 1)) da_nil)) dk_nil) (da_cons (de_err V_InvalidWord_0 cn.cc (da_cons (de_var (i := 0)) da_nil) dk_nil) (da_cons (de_err V_InvalidNumber_0 cn.cc (da_cons (de_var (i := 0)) da_nil) dk_nil) (da_cons (de_err V_Infeasible_0 cn.cc (da_cons (de_var (i := 0)) (da_cons (de_var (i := 1)) (da_cons (de_var (i := 2)) (da_cons (de_var (i := 3)) da_nil)))) dk_nil) (da_cons (de_err V_Stuck_0 cn.cc (da_cons (de_var (i := 0)) (da_cons (de_var (i := 1)) da_nil)) dk_nil) (da_cons (de_err V_Comes_0 cn.cc (da_cons (de_var (i := 0)) da_nil) dk_nil) (da_cons (de_err V_InvalidRule_0 cn.cc (da_cons (de_var (i := 0)) da_nil) dk_nil) (da_cons (de_err V_InvalidItem_0 cn.cc (da_cons (de_var (i := 0)) (da_cons (de_var (i := 1)) da_nil)) dk_nil) (da_cons (de_err V_InvalidName_0 cn.cc (da_cons (de_var (i := 0)) da_nil) dk_nil) (da_cons (de_err V_DuplicateName_0 cn.cc (da_cons (de_var (i := 0)) da_nil) dk_nil) (da_cons (de_err V_InvalidNodes_0 cn.cc da_nil dk_nil) (da_cons (de_err V_InvalidEdge_0 cn.cc (da_cons (de_var (i := 0)) da_nil) dk_nil) (da_cons (de_err V_InvalidWalk_0 cn.cc (da_cons (de_var (i := 0)) da_nil) dk_nil) (da_cons (de_err V_Unsafe_0 cn.cc (da_cons (de_var (i := 0)) da_nil) dk_nil) (da_cons (de_err V_InvalidWall_0 cn.cc (da_cons (de_var (i := 0)) da_nil) dk_nil) (da_cons (de_err V_Untouched_0 cn.cc (da_cons (de_var (i := 0)) da_nil) dk_nil) (da_cons (de_err V_Affordable_0 cn.cc (da_cons (de_var (i := 0)) da_nil) dk_nil) (da_cons (de_err V_NoFilling_0 cn.cc da_nil dk_nil) (da_cons (de_err V_HasFilling_0 cn.cc da_nil dk_nil) (da_cons (de_err V_InvalidDeed_0 cn.cc (da_cons (de_var (i := 0)) da_nil) dk_nil) (da_cons (de_err V_NameTaken_0 cn.cc (da_cons (de_var (i := 0)) da_nil) dk_nil) (da_cons (de_err V_Refused_0 cn.cc (da_cons (de_var (i := 0)) (da_cons (de_var (i := 1)) da_nil)) dk_nil) (da_cons (de_err V_DraftRunning_0 cn.cc da_nil dk_nil) (da_cons (de_err V_NoDraft_0 cn.cc da_nil dk_nil) (da_cons (de_err V_UnknownKey_0 cn.cc (da_cons (de_var (i := 0)) da_nil) dk_nil) (da_cons (de_err V_UnknownName_0 cn.cc (da_cons (de_var (i := 0)) da_nil) dk_nil) (da_cons (de_err V_UnknownCell_0 cn.cc (da_cons (de_var (i := 0)) da_nil) dk_nil) (da_cons (de_err V_PastEnd_0 cn.cc (da_cons (de_var (i := 0)) (da_cons (de_var (i := 1)) da_nil)) dk_nil) (da_cons (de_err V_NothingLeft_0 cn.cc da_nil dk_nil) da_nil))))))))))))))))))))))))))))))))))))))))))))))))
end L2.DL.K00

namespace L2.DL.K00
open PySem PySem.Spec PyProof.Rows
variable {P : Program} {w : World} {K : PySem.W.Frag} {mg : Str → Option Value} {base : Heap}
/-- all defs together, from what the run tells -/
def dM (x : Str) (st : Stmt) : He.DefD := ⟨(x, none), x, x, defArgs st, defBody st, defScope st, [], []⟩
def dI (c q : Str) (st : Stmt) : He.DefD := ⟨(c, some "__init__"), "__init__", q, defArgs st, defBody st, defScope st, [], []⟩
def row_UnknownKey : ERow := ⟨"UnknownKey", [.o "Missing", .b "LookupError", .b "Exception", .b "BaseException", .b "object"], "LookupError.__new__", [.type "LookupError", .type "Exception", .type "BaseException", .type "object"]⟩
def row_UnknownName : ERow := ⟨"UnknownName", [.o "Missing", .b "LookupError", .b "Exception", .b "BaseException", .b "object"], "LookupError.__new__", [.type "LookupError", .type "Exception", .type "BaseException", .type "object"]⟩
def row_UnknownCell : ERow := ⟨"UnknownCell", [.o "Missing", .b "LookupError", .b "Exception", .b "BaseException", .b "object"], "LookupError.__new__", [.type "LookupError", .type "Exception", .type "BaseException", .type "object"]⟩
def row_PastEnd : ERow := ⟨"PastEnd", [.b "IndexError", .b "LookupError", .b "Exception", .b "BaseException", .b "object"], "IndexError.__new__", [.type "IndexError", .type "LookupError", .type "Exception", .type "BaseException", .type "object"]⟩
def row_NothingLeft : ERow := ⟨"NothingLeft", [.b "IndexError", .b "LookupError", .b "Exception", .b "BaseException", .b "object"], "IndexError.__new__", [.type "IndexError", .type "LookupError", .type "Exception", .type "BaseException", .type "object"]⟩
def row_InvalidKey : ERow := ⟨"InvalidKey", [.o "ShapeError", .b "ValueError", .b "Exception", .b "BaseException", .b "object"], "ValueError.__new__", [.type "ValueError", .type "Exception", .type "BaseException", .type "object"]⟩
def row_DuplicateKey : ERow := ⟨"DuplicateKey", [.o "ShapeError", .b "ValueError", .b "Exception", .b "BaseException", .b "object"], "ValueError.__new__", [.type "ValueError", .type "Exception", .type "BaseException", .type "object"]⟩
def row_InvalidLot : ERow := ⟨"InvalidLot", [.o "ShapeError", .b "ValueError", .b "Exception", .b "BaseException", .b "object"], "ValueError.__new__", [.type "ValueError", .type "Exception", .type "BaseException", .type "object"]⟩
def row_InvalidMark : ERow := ⟨"InvalidMark", [.o "ShapeError", .b "ValueError", .b "Exception", .b "BaseException", .b "object"], "ValueError.__new__", [.type "ValueError", .type "Exception", .type "BaseException", .type "object"]⟩
def row_InvalidRow : ERow := ⟨"InvalidRow", [.o "ShapeError", .b "ValueError", .b "Exception", .b "BaseException", .b "object"], "ValueError.__new__", [.type "ValueError", .type "Exception", .type "BaseException", .type "object"]⟩
def row_InvalidText : ERow := ⟨"InvalidText", [.o "ShapeError", .b "ValueError", .b "Exception", .b "BaseException", .b "object"], "ValueError.__new__", [.type "ValueError", .type "Exception", .type "BaseException", .type "object"]⟩
def row_NotSearch : ERow := ⟨"NotSearch", [.o "ShapeError", .b "ValueError", .b "Exception", .b "BaseException", .b "object"], "ValueError.__new__", [.type "ValueError", .type "Exception", .type "BaseException", .type "object"]⟩
def row_InvalidNumbers : ERow := ⟨"InvalidNumbers", [.o "ShapeError", .b "ValueError", .b "Exception", .b "BaseException", .b "object"], "ValueError.__new__", [.type "ValueError", .type "Exception", .type "BaseException", .type "object"]⟩
def row_AlreadyLiving : ERow := ⟨"AlreadyLiving", [.o "ShapeError", .b "ValueError", .b "Exception", .b "BaseException", .b "object"], "ValueError.__new__", [.type "ValueError", .type "Exception", .type "BaseException", .type "object"]⟩
def row_NeighbourMissed : ERow := ⟨"NeighbourMissed", [.o "ShapeError", .b "ValueError", .b "Exception", .b "BaseException", .b "object"], "ValueError.__new__", [.type "ValueError", .type "Exception", .type "BaseException", .type "object"]⟩
def row_TooMany : ERow := ⟨"TooMany", [.o "ShapeError", .b "ValueError", .b "Exception", .b "BaseException", .b "object"], "ValueError.__new__", [.type "ValueError", .type "Exception", .type "BaseException", .type "object"]⟩
def row_NotTop : ERow := ⟨"NotTop", [.o "ShapeError", .b "ValueError", .b "Exception", .b "BaseException", .b "object"], "ValueError.__new__", [.type "ValueError", .type "Exception", .type "BaseException", .type "object"]⟩
def row_OtherKeys : ERow := ⟨"OtherKeys", [.o "ShapeError", .b "ValueError", .b "Exception", .b "BaseException", .b "object"], "ValueError.__new__", [.type "ValueError", .type "Exception", .type "BaseException", .type "object"]⟩
def row_NotClosed : ERow := ⟨"NotClosed", [.o "ShapeError", .b "ValueError", .b "Exception", .b "BaseException", .b "object"], "ValueError.__new__", [.type "ValueError", .type "Exception", .type "BaseException", .type "object"]⟩
def row_Barred : ERow := ⟨"Barred", [.o "ShapeError", .b "ValueError", .b "Exception", .b "BaseException", .b "object"], "ValueError.__new__", [.type "ValueError", .type "Exception", .type "BaseException", .type "object"]⟩
def row_Unresolved : ERow := ⟨"Unresolved", [.o "ShapeError", .b "ValueError", .b "Exception", .b "BaseException", .b "object"], "ValueError.__new__", [.type "ValueError", .type "Exception", .type "BaseException", .type "object"]⟩
def row_NotMeeting : ERow := ⟨"NotMeeting", [.o "ShapeError", .b "ValueError", .b "Exception", .b "BaseException", .b "object"], "ValueError.__new__", [.type "ValueError", .type "Exception", .type "BaseException", .type "object"]⟩
def row_InvalidWord : ERow := ⟨"InvalidWord", [.o "ShapeError", .b "ValueError", .b "Exception", .b "BaseException", .b "object"], "ValueError.__new__", [.type "ValueError", .type "Exception", .type "BaseException", .type "object"]⟩
def row_InvalidNumber : ERow := ⟨"InvalidNumber", [.o "ShapeError", .b "ValueError", .b "Exception", .b "BaseException", .b "object"], "ValueError.__new__", [.type "ValueError", .type "Exception", .type "BaseException", .type "object"]⟩
def row_Infeasible : ERow := ⟨"Infeasible", [.o "ShapeError", .b "ValueError", .b "Exception", .b "BaseException", .b "object"], "ValueError.__new__", [.type "ValueError", .type "Exception", .type "BaseException", .type "object"]⟩
def row_Stuck : ERow := ⟨"Stuck", [.o "ShapeError", .b "ValueError", .b "Exception", .b "BaseException", .b "object"], "ValueError.__new__", [.type "ValueError", .type "Exception", .type "BaseException", .type "object"]⟩
def row_Comes : ERow := ⟨"Comes", [.o "ShapeError", .b "ValueError", .b "Exception", .b "BaseException", .b "object"], "ValueError.__new__", [.type "ValueError", .type "Exception", .type "BaseException", .type "object"]⟩
def row_InvalidRule : ERow := ⟨"InvalidRule", [.o "ShapeError", .b "ValueError", .b "Exception", .b "BaseException", .b "object"], "ValueError.__new__", [.type "ValueError", .type "Exception", .type "BaseException", .type "object"]⟩
def row_InvalidItem : ERow := ⟨"InvalidItem", [.o "ShapeError", .b "ValueError", .b "Exception", .b "BaseException", .b "object"], "ValueError.__new__", [.type "ValueError", .type "Exception", .type "BaseException", .type "object"]⟩
def row_InvalidName : ERow := ⟨"InvalidName", [.o "ShapeError", .b "ValueError", .b "Exception", .b "BaseException", .b "object"], "ValueError.__new__", [.type "ValueError", .type "Exception", .type "BaseException", .type "object"]⟩
def row_DuplicateName : ERow := ⟨"DuplicateName", [.o "ShapeError", .b "ValueError", .b "Exception", .b "BaseException", .b "object"], "ValueError.__new__", [.type "ValueError", .type "Exception", .type "BaseException", .type "object"]⟩
def row_InvalidNodes : ERow := ⟨"InvalidNodes", [.o "ShapeError", .b "ValueError", .b "Exception", .b "BaseException", .b "object"], "ValueError.__new__", [.type "ValueError", .type "Exception", .type "BaseException", .type "object"]⟩
def row_InvalidEdge : ERow := ⟨"InvalidEdge", [.o "ShapeError", .b "ValueError", .b "Exception", .b "BaseException", .b "object"], "ValueError.__new__", [.type "ValueError", .type "Exception", .type "BaseException", .type "object"]⟩
def row_InvalidWalk : ERow := ⟨"InvalidWalk", [.o "ShapeError", .b "ValueError", .b "Exception", .b "BaseException", .b "object"], "ValueError.__new__", [.type "ValueError", .type "Exception", .type "BaseException", .type "object"]⟩
def row_Unsafe : ERow := ⟨"Unsafe", [.o "ShapeError", .b "ValueError", .b "Exception", .b "BaseException", .b "object"], "ValueError.__new__", [.type "ValueError", .type "Exception", .type "BaseException", .type "object"]⟩
def row_InvalidWall : ERow := ⟨"InvalidWall", [.o "ShapeError", .b "ValueError", .b "Exception", .b "BaseException", .b "object"], "ValueError.__new__", [.type "ValueError", .type "Exception", .type "BaseException", .type "object"]⟩
def row_Untouched : ERow := ⟨"Untouched", [.o "ShapeError", .b "ValueError", .b "Exception", .b "BaseException", .b "object"], "ValueError.__new__", [.type "ValueError", .type "Exception", .type "BaseException", .type "object"]⟩
def row_Affordable : ERow := ⟨"Affordable", [.o "ShapeError", .b "ValueError", .b "Exception", .b "BaseException", .b "object"], "ValueError.__new__", [.type "ValueError", .type "Exception", .type "BaseException", .type "object"]⟩
def row_NoFilling : ERow := ⟨"NoFilling", [.o "ShapeError", .b "ValueError", .b "Exception", .b "BaseException", .b "object"], "ValueError.__new__", [.type "ValueError", .type "Exception", .type "BaseException", .type "object"]⟩
def row_HasFilling : ERow := ⟨"HasFilling", [.o "ShapeError", .b "ValueError", .b "Exception", .b "BaseException", .b "object"], "ValueError.__new__", [.type "ValueError", .type "Exception", .type "BaseException", .type "object"]⟩
def row_InvalidDeed : ERow := ⟨"InvalidDeed", [.o "ShapeError", .b "ValueError", .b "Exception", .b "BaseException", .b "object"], "ValueError.__new__", [.type "ValueError", .type "Exception", .type "BaseException", .type "object"]⟩
def row_NameTaken : ERow := ⟨"NameTaken", [.o "ShapeError", .b "ValueError", .b "Exception", .b "BaseException", .b "object"], "ValueError.__new__", [.type "ValueError", .type "Exception", .type "BaseException", .type "object"]⟩
def row_Refused : ERow := ⟨"Refused", [.o "ShapeError", .b "ValueError", .b "Exception", .b "BaseException", .b "object"], "ValueError.__new__", [.type "ValueError", .type "Exception", .type "BaseException", .type "object"]⟩
def row_DraftRunning : ERow := ⟨"DraftRunning", [.o "ShapeError", .b "ValueError", .b "Exception", .b "BaseException", .b "object"], "ValueError.__new__", [.type "ValueError", .type "Exception", .type "BaseException", .type "object"]⟩
def row_NoDraft : ERow := ⟨"NoDraft", [.o "ShapeError", .b "ValueError", .b "Exception", .b "BaseException", .b "object"], "ValueError.__new__", [.type "ValueError", .type "Exception", .type "BaseException", .type "object"]⟩
def rowsT : List ERow := (row_UnknownKey :: row_UnknownName :: row_UnknownCell :: row_PastEnd :: row_NothingLeft :: row_InvalidKey :: row_DuplicateKey :: row_InvalidLot :: row_InvalidMark :: row_InvalidRow :: row_InvalidText :: row_NotSearch :: row_InvalidNumbers :: row_AlreadyLiving :: row_NeighbourMissed :: row_TooMany :: row_NotTop :: row_OtherKeys :: row_NotClosed :: row_Barred :: row_Unresolved :: row_NotMeeting :: row_InvalidWord :: row_InvalidNumber :: row_Infeasible :: row_Stuck :: row_Comes :: row_InvalidRule :: row_InvalidItem :: row_InvalidName :: row_DuplicateName :: row_InvalidNodes :: row_InvalidEdge :: row_InvalidWalk :: row_Unsafe :: row_InvalidWall :: row_Untouched :: row_Affordable :: row_NoFilling :: row_HasFilling :: row_InvalidDeed :: row_NameTaken :: row_Refused :: row_DraftRunning :: row_NoDraft :: [])
def upsT : List Str := ["Missing", "ShapeError"]
def faT : List He.Fa := (.glo "_law_bag" :: .glo "_law_words" :: .glo "_law_draw" :: .glo "_law_of" :: .glo "_law_any" :: .glo "_law_by_place" :: .glo "_law_by_name" :: .glo "_law_same" :: .glo "_law_fields" :: .glo "_law_sorts" :: .glo "_law_bases" :: .glo "_law_upper" :: .glo "law" :: .free "IndexError" :: .free "KeyError" :: .free "LookupError" :: .free "ValueError" :: .free "abs" :: .free "all" :: .free "bool" :: .free "int" :: .free "isinstance" :: .free "len" :: .free "list" :: .free "range" :: .free "str" :: .free "tuple" :: .free "zip" :: .exm "UnknownName" "ShapeError" false :: .exm "UnknownName" "Missing" true :: .exm "UnknownName" "PastEnd" false :: .exm "UnknownName" "NothingLeft" false :: .exm "UnknownCell" "ShapeError" false :: .exm "UnknownCell" "Missing" true :: .exm "UnknownCell" "PastEnd" false :: .exm "UnknownCell" "NothingLeft" false :: .exm "PastEnd" "ShapeError" false :: .exm "PastEnd" "Missing" false :: .exm "PastEnd" "PastEnd" true :: .exm "PastEnd" "NothingLeft" false :: .exm "NothingLeft" "ShapeError" false :: .exm "NothingLeft" "Missing" false :: .exm "NothingLeft" "PastEnd" false :: .exm "NothingLeft" "NothingLeft" true :: .exm "InvalidText" "ShapeError" true :: .exm "InvalidText" "Missing" false :: .exm "InvalidText" "PastEnd" false :: .exm "InvalidText" "NothingLeft" false :: .exm "Barred" "ShapeError" true :: .exm "Barred" "Missing" false :: .exm "Barred" "PastEnd" false :: .exm "Barred" "NothingLeft" false :: .exm "NoDraft" "ShapeError" true :: .exm "NoDraft" "Missing" false :: .exm "NoDraft" "PastEnd" false :: .exm "NoDraft" "NothingLeft" false :: [])
def fnT : List He.DefD := (dM "_law_bag" s_lbag :: dM "_law_words" s_lwords :: dM "_law_draw" s_ldraw :: dM "_law_of" s_lof :: dM "_law_any" s_lany :: dM "_law_by_place" s_lby_place :: dM "_law_by_name" s_lby_name :: dM "_law_same" s_lsame :: dM "_law_fields" s_lfields :: dM "_law_sorts" s_lsorts :: dM "_law_bases" s_lbases :: dM "_law_upper" s_lupper :: dM "law" s_law :: dI "UnknownKey" "UnknownKey.__init__" s_UnknownKey :: dI "UnknownName" "UnknownName.__init__" s_UnknownName :: dI "UnknownCell" "UnknownCell.__init__" s_UnknownCell :: dI "PastEnd" "PastEnd.__init__" s_PastEnd :: dI "NothingLeft" "NothingLeft.__init__" s_NothingLeft :: dI "InvalidKey" "InvalidKey.__init__" s_InvalidKey :: dI "DuplicateKey" "DuplicateKey.__init__" s_DuplicateKey :: dI "InvalidLot" "InvalidLot.__init__" s_InvalidLot :: dI "InvalidMark" "InvalidMark.__init__" s_InvalidMark :: dI "InvalidRow" "InvalidRow.__init__" s_InvalidRow :: dI "InvalidText" "InvalidText.__init__" s_InvalidText :: dI "NotSearch" "NotSearch.__init__" s_NotSearch :: dI "InvalidNumbers" "InvalidNumbers.__init__" s_InvalidNumbers :: dI "AlreadyLiving" "AlreadyLiving.__init__" s_AlreadyLiving :: dI "NeighbourMissed" "NeighbourMissed.__init__" s_NeighbourMissed :: dI "TooMany" "TooMany.__init__" s_TooMany :: dI "NotTop" "NotTop.__init__" s_NotTop :: dI "OtherKeys" "OtherKeys.__init__" s_OtherKeys :: dI "NotClosed" "NotClosed.__init__" s_NotClosed :: dI "Barred" "Barred.__init__" s_Barred :: dI "Unresolved" "Unresolved.__init__" s_Unresolved :: dI "NotMeeting" "NotMeeting.__init__" s_NotMeeting :: dI "InvalidWord" "InvalidWord.__init__" s_InvalidWord :: dI "InvalidNumber" "InvalidNumber.__init__" s_InvalidNumber :: dI "Infeasible" "Infeasible.__init__" s_Infeasible :: dI "Stuck" "Stuck.__init__" s_Stuck :: dI "Comes" "Comes.__init__" s_Comes :: dI "InvalidRule" "InvalidRule.__init__" s_InvalidRule :: dI "InvalidItem" "InvalidItem.__init__" s_InvalidItem :: dI "InvalidName" "InvalidName.__init__" s_InvalidName :: dI "DuplicateName" "DuplicateName.__init__" s_DuplicateName :: dI "InvalidNodes" "InvalidNodes.__init__" s_InvalidNodes :: dI "InvalidEdge" "InvalidEdge.__init__" s_InvalidEdge :: dI "InvalidWalk" "InvalidWalk.__init__" s_InvalidWalk :: dI "Unsafe" "Unsafe.__init__" s_Unsafe :: dI "InvalidWall" "InvalidWall.__init__" s_InvalidWall :: dI "Untouched" "Untouched.__init__" s_Untouched :: dI "Affordable" "Affordable.__init__" s_Affordable :: dI "NoFilling" "NoFilling.__init__" s_NoFilling :: dI "HasFilling" "HasFilling.__init__" s_HasFilling :: dI "InvalidDeed" "InvalidDeed.__init__" s_InvalidDeed :: dI "NameTaken" "NameTaken.__init__" s_NameTaken :: dI "Refused" "Refused.__init__" s_Refused :: dI "DraftRunning" "DraftRunning.__init__" s_DraftRunning :: dI "NoDraft" "NoDraft.__init__" s_NoDraft :: [])
def exT (K : PySem.W.Frag) : Bool := errB K fsT upsT rowsT
theorem all_mkH {P : Program} {w : World} {h : Heap} {K : PySem.W.Frag} {mg : Str → Option Value} {faL : Addr} (X : K.In h) (G : h.Ns mainGlobals mg) (hfa : mg "law" = some (.ref faL)) (S : He.SaysD faT fnT K) (hE : exT K = true) :
    ∃ fd : FuncData, (∀ (s : Shared) (u : Value), BindsTo s fd ⟨[u], []⟩ [("_law_script", u)]) ∧ ∀ base : Heap, K.In base → base.Ns mainGlobals mg → RunAt P w K mg base callerA faL fd ["_law_script"] (spD K mg G_law) := by
  have E := errB_ok hE
  have R_UnknownKey := E.r row_UnknownKey (List.mem_of_getElem? (i := 0) (by rfl))
  obtain ⟨fd_UnknownKey, D_UnknownKey⟩ := S.def_ 13 (d := dI "UnknownKey" "UnknownKey.__init__" s_UnknownKey) (by rfl)
  have Fu_UnknownKey : Fun K "__init__" "UnknownKey.__init__" s_UnknownKey (iniA K "UnknownKey") fd_UnknownKey := He5.fun_of (st := s_UnknownKey) D_UnknownKey
  have Eg_UnknownKey : ErrG K mg "UnknownKey" "UnknownKey.__init__" s_UnknownKey (He.ga K "UnknownKey") (iniA K "UnknownKey") fd_UnknownKey "LookupError" "LookupError.__new__" "LookupError.__init__" [.type "LookupError", .type "Exception", .type "BaseException", .type "object"] := RowK.errG R_UnknownKey X G Fu_UnknownKey PySem.F.excBase_LookupError PySem.F.store_LookupError.passes
  have no_UnknownKey : ∀ p ∈ L_UnknownKey, PySem.W.findIn K (.ref (He.ga K "UnknownKey")) p.1 = some none := no_ok R_UnknownKey.n (by decide +kernel)
  have R_UnknownName := E.r row_UnknownName (List.mem_of_getElem? (i := 1) (by rfl))
  obtain ⟨fd_UnknownName, D_UnknownName⟩ := S.def_ 14 (d := dI "UnknownName" "UnknownName.__init__" s_UnknownName) (by rfl)
  have Fu_UnknownName : Fun K "__init__" "UnknownName.__init__" s_UnknownName (iniA K "UnknownName") fd_UnknownName := He5.fun_of (st := s_UnknownName) D_UnknownName
  have Eg_UnknownName : ErrG K mg "UnknownName" "UnknownName.__init__" s_UnknownName (He.ga K "UnknownName") (iniA K "UnknownName") fd_UnknownName "LookupError" "LookupError.__new__" "LookupError.__init__" [.type "LookupError", .type "Exception", .type "BaseException", .type "object"] := RowK.errG R_UnknownName X G Fu_UnknownName PySem.F.excBase_LookupError PySem.F.store_LookupError.passes
  have no_UnknownName : ∀ p ∈ L_UnknownName, PySem.W.findIn K (.ref (He.ga K "UnknownName")) p.1 = some none := no_ok R_UnknownName.n (by decide +kernel)
  have R_UnknownCell := E.r row_UnknownCell (List.mem_of_getElem? (i := 2) (by rfl))
  obtain ⟨fd_UnknownCell, D_UnknownCell⟩ := S.def_ 15 (d := dI "UnknownCell" "UnknownCell.__init__" s_UnknownCell) (by rfl)
  have Fu_UnknownCell : Fun K "__init__" "UnknownCell.__init__" s_UnknownCell (iniA K "UnknownCell") fd_UnknownCell := He5.fun_of (st := s_UnknownCell) D_UnknownCell
  have Eg_UnknownCell : ErrG K mg "UnknownCell" "UnknownCell.__init__" s_UnknownCell (He.ga K "UnknownCell") (iniA K "UnknownCell") fd_UnknownCell "LookupError" "LookupError.__new__" "LookupError.__init__" [.type "LookupError", .type "Exception", .type "BaseException", .type "object"] := RowK.errG R_UnknownCell X G Fu_UnknownCell PySem.F.excBase_LookupError PySem.F.store_LookupError.passes
  have no_UnknownCell : ∀ p ∈ L_UnknownCell, PySem.W.findIn K (.ref (He.ga K "UnknownCell")) p.1 = some none := no_ok R_UnknownCell.n (by decide +kernel)
  have R_PastEnd := E.r row_PastEnd (List.mem_of_getElem? (i := 3) (by rfl))
  obtain ⟨fd_PastEnd, D_PastEnd⟩ := S.def_ 16 (d := dI "PastEnd" "PastEnd.__init__" s_PastEnd) (by rfl)
  have Fu_PastEnd : Fun K "__init__" "PastEnd.__init__" s_PastEnd (iniA K "PastEnd") fd_PastEnd := He5.fun_of (st := s_PastEnd) D_PastEnd
  have Eg_PastEnd : ErrG K mg "PastEnd" "PastEnd.__init__" s_PastEnd (He.ga K "PastEnd") (iniA K "PastEnd") fd_PastEnd "IndexError" "IndexError.__new__" "IndexError.__init__" [.type "IndexError", .type "LookupError", .type "Exception", .type "BaseException", .type "object"] := RowK.errG R_PastEnd X G Fu_PastEnd PySem.F.excBase_IndexError PySem.F.store_IndexError.passes
  have no_PastEnd : ∀ p ∈ L_PastEnd, PySem.W.findIn K (.ref (He.ga K "PastEnd")) p.1 = some none := no_ok R_PastEnd.n (by decide +kernel)
  have R_NothingLeft := E.r row_NothingLeft (List.mem_of_getElem? (i := 4) (by rfl))
  obtain ⟨fd_NothingLeft, D_NothingLeft⟩ := S.def_ 17 (d := dI "NothingLeft" "NothingLeft.__init__" s_NothingLeft) (by rfl)
  have Fu_NothingLeft : Fun K "__init__" "NothingLeft.__init__" s_NothingLeft (iniA K "NothingLeft") fd_NothingLeft := He5.fun_of (st := s_NothingLeft) D_NothingLeft
  have Eg_NothingLeft : ErrG K mg "NothingLeft" "NothingLeft.__init__" s_NothingLeft (He.ga K "NothingLeft") (iniA K "NothingLeft") fd_NothingLeft "IndexError" "IndexError.__new__" "IndexError.__init__" [.type "IndexError", .type "LookupError", .type "Exception", .type "BaseException", .type "object"] := RowK.errG R_NothingLeft X G Fu_NothingLeft PySem.F.excBase_IndexError PySem.F.store_IndexError.passes
  have no_NothingLeft : ∀ p ∈ L_NothingLeft, PySem.W.findIn K (.ref (He.ga K "NothingLeft")) p.1 = some none := no_ok R_NothingLeft.n (by decide +kernel)
  have R_InvalidKey := E.r row_InvalidKey (List.mem_of_getElem? (i := 5) (by rfl))
  obtain ⟨fd_InvalidKey, D_InvalidKey⟩ := S.def_ 18 (d := dI "InvalidKey" "InvalidKey.__init__" s_InvalidKey) (by rfl)
  have Fu_InvalidKey : Fun K "__init__" "InvalidKey.__init__" s_InvalidKey (iniA K "InvalidKey") fd_InvalidKey := He5.fun_of (st := s_InvalidKey) D_InvalidKey
  have Eg_InvalidKey : ErrG K mg "InvalidKey" "InvalidKey.__init__" s_InvalidKey (He.ga K "InvalidKey") (iniA K "InvalidKey") fd_InvalidKey "ValueError" "ValueError.__new__" "ValueError.__init__" [.type "ValueError", .type "Exception", .type "BaseException", .type "object"] := RowK.errG R_InvalidKey X G Fu_InvalidKey PySem.F.excBase_ValueError PySem.F.store_ValueError.passes
  have no_InvalidKey : ∀ p ∈ L_InvalidKey, PySem.W.findIn K (.ref (He.ga K "InvalidKey")) p.1 = some none := no_ok R_InvalidKey.n (by decide +kernel)
  have R_DuplicateKey := E.r row_DuplicateKey (List.mem_of_getElem? (i := 6) (by rfl))
  obtain ⟨fd_DuplicateKey, D_DuplicateKey⟩ := S.def_ 19 (d := dI "DuplicateKey" "DuplicateKey.__init__" s_DuplicateKey) (by rfl)
  have Fu_DuplicateKey : Fun K "__init__" "DuplicateKey.__init__" s_DuplicateKey (iniA K "DuplicateKey") fd_DuplicateKey := He5.fun_of (st := s_DuplicateKey) D_DuplicateKey
  have Eg_DuplicateKey : ErrG K mg "DuplicateKey" "DuplicateKey.__init__" s_DuplicateKey (He.ga K "DuplicateKey") (iniA K "DuplicateKey") fd_DuplicateKey "ValueError" "ValueError.__new__" "ValueError.__init__" [.type "ValueError", .type "Exception", .type "BaseException", .type "object"] := RowK.errG R_DuplicateKey X G Fu_DuplicateKey PySem.F.excBase_ValueError PySem.F.store_ValueError.passes
  have no_DuplicateKey : ∀ p ∈ L_DuplicateKey, PySem.W.findIn K (.ref (He.ga K "DuplicateKey")) p.1 = some none := no_ok R_DuplicateKey.n (by decide +kernel)
  have R_InvalidLot := E.r row_InvalidLot (List.mem_of_getElem? (i := 7) (by rfl))
  obtain ⟨fd_InvalidLot, D_InvalidLot⟩ := S.def_ 20 (d := dI "InvalidLot" "InvalidLot.__init__" s_InvalidLot) (by rfl)
  have Fu_InvalidLot : Fun K "__init__" "InvalidLot.__init__" s_InvalidLot (iniA K "InvalidLot") fd_InvalidLot := He5.fun_of (st := s_InvalidLot) D_InvalidLot
  have Eg_InvalidLot : ErrG K mg "InvalidLot" "InvalidLot.__init__" s_InvalidLot (He.ga K "InvalidLot") (iniA K "InvalidLot") fd_InvalidLot "ValueError" "ValueError.__new__" "ValueError.__init__" [.type "ValueError", .type "Exception", .type "BaseException", .type "object"] := RowK.errG R_InvalidLot X G Fu_InvalidLot PySem.F.excBase_ValueError PySem.F.store_ValueError.passes
  have no_InvalidLot : ∀ p ∈ L_InvalidLot, PySem.W.findIn K (.ref (He.ga K "InvalidLot")) p.1 = some none := no_ok R_InvalidLot.n (by decide +kernel)
  have R_InvalidMark := E.r row_InvalidMark (List.mem_of_getElem? (i := 8) (by rfl))
  obtain ⟨fd_InvalidMark, D_InvalidMark⟩ := S.def_ 21 (d := dI "InvalidMark" "InvalidMark.__init__" s_InvalidMark) (by rfl)
  have Fu_InvalidMark : Fun K "__init__" "InvalidMark.__init__" s_InvalidMark (iniA K "InvalidMark") fd_InvalidMark := He5.fun_of (st := s_InvalidMark) D_InvalidMark
  have Eg_InvalidMark : ErrG K mg "InvalidMark" "InvalidMark.__init__" s_InvalidMark (He.ga K "InvalidMark") (iniA K "InvalidMark") fd_InvalidMark "ValueError" "ValueError.__new__" "ValueError.__init__" [.type "ValueError", .type "Exception", .type "BaseException", .type "object"] := RowK.errG R_InvalidMark X G Fu_InvalidMark PySem.F.excBase_ValueError PySem.F.store_ValueError.passes
  have no_InvalidMark : ∀ p ∈ L_InvalidMark, PySem.W.findIn K (.ref (He.ga K "InvalidMark")) p.1 = some none := no_ok R_InvalidMark.n (by decide +kernel)
  have R_InvalidRow := E.r row_InvalidRow (List.mem_of_getElem? (i := 9) (by rfl))
  obtain ⟨fd_InvalidRow, D_InvalidRow⟩ := S.def_ 22 (d := dI "InvalidRow" "InvalidRow.__init__" s_InvalidRow) (by rfl)
  have Fu_InvalidRow : Fun K "__init__" "InvalidRow.__init__" s_InvalidRow (iniA K "InvalidRow") fd_InvalidRow := He5.fun_of (st := s_InvalidRow) D_InvalidRow
  have Eg_InvalidRow : ErrG K mg "InvalidRow" "InvalidRow.__init__" s_InvalidRow (He.ga K "InvalidRow") (iniA K "InvalidRow") fd_InvalidRow "ValueError" "ValueError.__new__" "ValueError.__init__" [.type "ValueError", .type "Exception", .type "BaseException", .type "object"] := RowK.errG R_InvalidRow X G Fu_InvalidRow PySem.F.excBase_ValueError PySem.F.store_ValueError.passes
  have no_InvalidRow : ∀ p ∈ L_InvalidRow, PySem.W.findIn K (.ref (He.ga K "InvalidRow")) p.1 = some none := no_ok R_InvalidRow.n (by decide +kernel)
  have R_InvalidText := E.r row_InvalidText (List.mem_of_getElem? (i := 10) (by rfl))
  obtain ⟨fd_InvalidText, D_InvalidText⟩ := S.def_ 23 (d := dI "InvalidText" "InvalidText.__init__" s_InvalidText) (by rfl)
  have Fu_InvalidText : Fun K "__init__" "InvalidText.__init__" s_InvalidText (iniA K "InvalidText") fd_InvalidText := He5.fun_of (st := s_InvalidText) D_InvalidText
  have Eg_InvalidText : ErrG K mg "InvalidText" "InvalidText.__init__" s_InvalidText (He.ga K "InvalidText") (iniA K "InvalidText") fd_InvalidText "ValueError" "ValueError.__new__" "ValueError.__init__" [.type "ValueError", .type "Exception", .type "BaseException", .type "object"] := RowK.errG R_InvalidText X G Fu_InvalidText PySem.F.excBase_ValueError PySem.F.store_ValueError.passes
  have no_InvalidText : ∀ p ∈ L_InvalidText, PySem.W.findIn K (.ref (He.ga K "InvalidText")) p.1 = some none := no_ok R_InvalidText.n (by decide +kernel)
  have R_NotSearch := E.r row_NotSearch (List.mem_of_getElem? (i := 11) (by rfl))
  obtain ⟨fd_NotSearch, D_NotSearch⟩ := S.def_ 24 (d := dI "NotSearch" "NotSearch.__init__" s_NotSearch) (by rfl)
  have Fu_NotSearch : Fun K "__init__" "NotSearch.__init__" s_NotSearch (iniA K "NotSearch") fd_NotSearch := He5.fun_of (st := s_NotSearch) D_NotSearch
  have Eg_NotSearch : ErrG K mg "NotSearch" "NotSearch.__init__" s_NotSearch (He.ga K "NotSearch") (iniA K "NotSearch") fd_NotSearch "ValueError" "ValueError.__new__" "ValueError.__init__" [.type "ValueError", .type "Exception", .type "BaseException", .type "object"] := RowK.errG R_NotSearch X G Fu_NotSearch PySem.F.excBase_ValueError PySem.F.store_ValueError.passes
  have no_NotSearch : ∀ p ∈ L_NotSearch, PySem.W.findIn K (.ref (He.ga K "NotSearch")) p.1 = some none := no_ok R_NotSearch.n (by decide +kernel)
  have R_InvalidNumbers := E.r row_InvalidNumbers (List.mem_of_getElem? (i := 12) (by rfl))
  obtain ⟨fd_InvalidNumbers, D_InvalidNumbers⟩ := S.def_ 25 (d := dI "InvalidNumbers" "InvalidNumbers.__init__" s_InvalidNumbers) (by rfl)
  have Fu_InvalidNumbers : Fun K "__init__" "InvalidNumbers.__init__" s_InvalidNumbers (iniA K "InvalidNumbers") fd_InvalidNumbers := He5.fun_of (st := s_InvalidNumbers) D_InvalidNumbers
  have Eg_InvalidNumbers : ErrG K mg "InvalidNumbers" "InvalidNumbers.__init__" s_InvalidNumbers (He.ga K "InvalidNumbers") (iniA K "InvalidNumbers") fd_InvalidNumbers "ValueError" "ValueError.__new__" "ValueError.__init__" [.type "ValueError", .type "Exception", .type "BaseException", .type "object"] := RowK.errG R_InvalidNumbers X G Fu_InvalidNumbers PySem.F.excBase_ValueError PySem.F.store_ValueError.passes
  have no_InvalidNumbers : ∀ p ∈ L_InvalidNumbers, PySem.W.findIn K (.ref (He.ga K "InvalidNumbers")) p.1 = some none := no_ok R_InvalidNumbers.n (by decide +kernel)
  have R_AlreadyLiving := E.r row_AlreadyLiving (List.mem_of_getElem? (i := 13) (by rfl))
  obtain ⟨fd_AlreadyLiving, D_AlreadyLiving⟩ := S.def_ 26 (d := dI "AlreadyLiving" "AlreadyLiving.__init__" s_AlreadyLiving) (by rfl)
  have Fu_AlreadyLiving : Fun K "__init__" "AlreadyLiving.__init__" s_AlreadyLiving (iniA K "AlreadyLiving") fd_AlreadyLiving := He5.fun_of (st := s_AlreadyLiving) D_AlreadyLiving
  have Eg_AlreadyLiving : ErrG K mg "AlreadyLiving" "AlreadyLiving.__init__" s_AlreadyLiving (He.ga K "AlreadyLiving") (iniA K "AlreadyLiving") fd_AlreadyLiving "ValueError" "ValueError.__new__" "ValueError.__init__" [.type "ValueError", .type "Exception", .type "BaseException", .type "object"] := RowK.errG R_AlreadyLiving X G Fu_AlreadyLiving PySem.F.excBase_ValueError PySem.F.store_ValueError.passes
  have no_AlreadyLiving : ∀ p ∈ L_AlreadyLiving, PySem.W.findIn K (.ref (He.ga K "AlreadyLiving")) p.1 = some none := no_ok R_AlreadyLiving.n (by decide +kernel)
  have R_NeighbourMissed := E.r row_NeighbourMissed (List.mem_of_getElem? (i := 14) (by rfl))
  obtain ⟨fd_NeighbourMissed, D_NeighbourMissed⟩ := S.def_ 27 (d := dI "NeighbourMissed" "NeighbourMissed.__init__" s_NeighbourMissed) (by rfl)
  have Fu_NeighbourMissed : Fun K "__init__" "NeighbourMissed.__init__" s_NeighbourMissed (iniA K "NeighbourMissed") fd_NeighbourMissed := He5.fun_of (st := s_NeighbourMissed) D_NeighbourMissed
  have Eg_NeighbourMissed : ErrG K mg "NeighbourMissed" "NeighbourMissed.__init__" s_NeighbourMissed (He.ga K "NeighbourMissed") (iniA K "NeighbourMissed") fd_NeighbourMissed "ValueError" "ValueError.__new__" "ValueError.__init__" [.type "ValueError", .type "Exception", .type "BaseException", .type "object"] := RowK.errG R_NeighbourMissed X G Fu_NeighbourMissed PySem.F.excBase_ValueError PySem.F.store_ValueError.passes
  have no_NeighbourMissed : ∀ p ∈ L_NeighbourMissed, PySem.W.findIn K (.ref (He.ga K "NeighbourMissed")) p.1 = some none := no_ok R_NeighbourMissed.n (by decide +kernel)
  have R_TooMany := E.r row_TooMany (List.mem_of_getElem? (i := 15) (by rfl))
  obtain ⟨fd_TooMany, D_TooMany⟩ := S.def_ 28 (d := dI "TooMany" "TooMany.__init__" s_TooMany) (by rfl)
  have Fu_TooMany : Fun K "__init__" "TooMany.__init__" s_TooMany (iniA K "TooMany") fd_TooMany := He5.fun_of (st := s_TooMany) D_TooMany
  have Eg_TooMany : ErrG K mg "TooMany" "TooMany.__init__" s_TooMany (He.ga K "TooMany") (iniA K "TooMany") fd_TooMany "ValueError" "ValueError.__new__" "ValueError.__init__" [.type "ValueError", .type "Exception", .type "BaseException", .type "object"] := RowK.errG R_TooMany X G Fu_TooMany PySem.F.excBase_ValueError PySem.F.store_ValueError.passes
  have no_TooMany : ∀ p ∈ L_TooMany, PySem.W.findIn K (.ref (He.ga K "TooMany")) p.1 = some none := no_ok R_TooMany.n (by decide +kernel)
  have R_NotTop := E.r row_NotTop (List.mem_of_getElem? (i := 16) (by rfl))
  obtain ⟨fd_NotTop, D_NotTop⟩ := S.def_ 29 (d := dI "NotTop" "NotTop.__init__" s_NotTop) (by rfl)
  have Fu_NotTop : Fun K "__init__" "NotTop.__init__" s_NotTop (iniA K "NotTop") fd_NotTop := He5.fun_of (st := s_NotTop) D_NotTop
  have Eg_NotTop : ErrG K mg "NotTop" "NotTop.__init__" s_NotTop (He.ga K "NotTop") (iniA K "NotTop") fd_NotTop "ValueError" "ValueError.__new__" "ValueError.__init__" [.type "ValueError", .type "Exception", .type "BaseException", .type "object"] := RowK.errG R_NotTop X G Fu_NotTop PySem.F.excBase_ValueError PySem.F.store_ValueError.passes
  have no_NotTop : ∀ p ∈ L_NotTop, PySem.W.findIn K (.ref (He.ga K "NotTop")) p.1 = some none := no_ok R_NotTop.n (by decide +kernel)
  have R_OtherKeys := E.r row_OtherKeys (List.mem_of_getElem? (i := 17) (by rfl))
  obtain ⟨fd_OtherKeys, D_OtherKeys⟩ := S.def_ 30 (d := dI "OtherKeys" "OtherKeys.__init__" s_OtherKeys) (by rfl)
  have Fu_OtherKeys : Fun K "__init__" "OtherKeys.__init__" s_OtherKeys (iniA K "OtherKeys") fd_OtherKeys := He5.fun_of (st := s_OtherKeys) D_OtherKeys
  have Eg_OtherKeys : ErrG K mg "OtherKeys" "OtherKeys.__init__" s_OtherKeys (He.ga K "OtherKeys") (iniA K "OtherKeys") fd_OtherKeys "ValueError" "ValueError.__new__" "ValueError.__init__" [.type "ValueError", .type "Exception", .type "BaseException", .type "object"] := RowK.errG R_OtherKeys X G Fu_OtherKeys PySem.F.excBase_ValueError PySem.F.store_ValueError.passes
  have no_OtherKeys : ∀ p ∈ L_OtherKeys, PySem.W.findIn K (.ref (He.ga K "OtherKeys")) p.1 = some none := no_ok R_OtherKeys.n (by decide +kernel)
  have R_NotClosed := E.r row_NotClosed (List.mem_of_getElem? (i := 18) (by rfl))
  obtain ⟨fd_NotClosed, D_NotClosed⟩ := S.def_ 31 (d := dI "NotClosed" "NotClosed.__init__" s_NotClosed) (by rfl)
  have Fu_NotClosed : Fun K "__init__" "NotClosed.__init__" s_NotClosed (iniA K "NotClosed") fd_NotClosed := He5.fun_of (st := s_NotClosed) D_NotClosed
  have Eg_NotClosed : ErrG K mg "NotClosed" "NotClosed.__init__" s_NotClosed (He.ga K "NotClosed") (iniA K "NotClosed") fd_NotClosed "ValueError" "ValueError.__new__" "ValueError.__init__" [.type "ValueError", .type "Exception", .type "BaseException", .type "object"] := RowK.errG R_NotClosed X G Fu_NotClosed PySem.F.excBase_ValueError PySem.F.store_ValueError.passes
  have no_NotClosed : ∀ p ∈ L_NotClosed, PySem.W.findIn K (.ref (He.ga K "NotClosed")) p.1 = some none := no_ok R_NotClosed.n (by decide +kernel)
  have R_Barred := E.r row_Barred (List.mem_of_getElem? (i := 19) (by rfl))
  obtain ⟨fd_Barred, D_Barred⟩ := S.def_ 32 (d := dI "Barred" "Barred.__init__" s_Barred) (by rfl)
  have Fu_Barred : Fun K "__init__" "Barred.__init__" s_Barred (iniA K "Barred") fd_Barred := He5.fun_of (st := s_Barred) D_Barred
  have Eg_Barred : ErrG K mg "Barred" "Barred.__init__" s_Barred (He.ga K "Barred") (iniA K "Barred") fd_Barred "ValueError" "ValueError.__new__" "ValueError.__init__" [.type "ValueError", .type "Exception", .type "BaseException", .type "object"] := RowK.errG R_Barred X G Fu_Barred PySem.F.excBase_ValueError PySem.F.store_ValueError.passes
  have no_Barred : ∀ p ∈ L_Barred, PySem.W.findIn K (.ref (He.ga K "Barred")) p.1 = some none := no_ok R_Barred.n (by decide +kernel)
  have R_Unresolved := E.r row_Unresolved (List.mem_of_getElem? (i := 20) (by rfl))
  obtain ⟨fd_Unresolved, D_Unresolved⟩ := S.def_ 33 (d := dI "Unresolved" "Unresolved.__init__" s_Unresolved) (by rfl)
  have Fu_Unresolved : Fun K "__init__" "Unresolved.__init__" s_Unresolved (iniA K "Unresolved") fd_Unresolved := He5.fun_of (st := s_Unresolved) D_Unresolved
  have Eg_Unresolved : ErrG K mg "Unresolved" "Unresolved.__init__" s_Unresolved (He.ga K "Unresolved") (iniA K "Unresolved") fd_Unresolved "ValueError" "ValueError.__new__" "ValueError.__init__" [.type "ValueError", .type "Exception", .type "BaseException", .type "object"] := RowK.errG R_Unresolved X G Fu_Unresolved PySem.F.excBase_ValueError PySem.F.store_ValueError.passes
  have no_Unresolved : ∀ p ∈ L_Unresolved, PySem.W.findIn K (.ref (He.ga K "Unresolved")) p.1 = some none := no_ok R_Unresolved.n (by decide +kernel)
  have R_NotMeeting := E.r row_NotMeeting (List.mem_of_getElem? (i := 21) (by rfl))
  obtain ⟨fd_NotMeeting, D_NotMeeting⟩ := S.def_ 34 (d := dI "NotMeeting" "NotMeeting.__init__" s_NotMeeting) (by rfl)
  have Fu_NotMeeting : Fun K "__init__" "NotMeeting.__init__" s_NotMeeting (iniA K "NotMeeting") fd_NotMeeting := He5.fun_of (st := s_NotMeeting) D_NotMeeting
  have Eg_NotMeeting : ErrG K mg "NotMeeting" "NotMeeting.__init__" s_NotMeeting (He.ga K "NotMeeting") (iniA K "NotMeeting") fd_NotMeeting "ValueError" "ValueError.__new__" "ValueError.__init__" [.type "ValueError", .type "Exception", .type "BaseException", .type "object"] := RowK.errG R_NotMeeting X G Fu_NotMeeting PySem.F.excBase_ValueError PySem.F.store_ValueError.passes
  have no_NotMeeting : ∀ p ∈ L_NotMeeting, PySem.W.findIn K (.ref (He.ga K "NotMeeting")) p.1 = some none := no_ok R_NotMeeting.n (by decide +kernel)
  have R_InvalidWord := E.r row_InvalidWord (List.mem_of_getElem? (i := 22) (by rfl))
  obtain ⟨fd_InvalidWord, D_InvalidWord⟩ := S.def_ 35 (d := dI "InvalidWord" "InvalidWord.__init__" s_InvalidWord) (by rfl)
  have Fu_InvalidWord : Fun K "__init__" "InvalidWord.__init__" s_InvalidWord (iniA K "InvalidWord") fd_InvalidWord := He5.fun_of (st := s_InvalidWord) D_InvalidWord
  have Eg_InvalidWord : ErrG K mg "InvalidWord" "InvalidWord.__init__" s_InvalidWord (He.ga K "InvalidWord") (iniA K "InvalidWord") fd_InvalidWord "ValueError" "ValueError.__new__" "ValueError.__init__" [.type "ValueError", .type "Exception", .type "BaseException", .type "object"] := RowK.errG R_InvalidWord X G Fu_InvalidWord PySem.F.excBase_ValueError PySem.F.store_ValueError.passes
  have no_InvalidWord : ∀ p ∈ L_InvalidWord, PySem.W.findIn K (.ref (He.ga K "InvalidWord")) p.1 = some none := no_ok R_InvalidWord.n (by decide +kernel)
  have R_InvalidNumber := E.r row_InvalidNumber (List.mem_of_getElem? (i := 23) (by rfl))
  obtain ⟨fd_InvalidNumber, D_InvalidNumber⟩ := S.def_ 36 (d := dI "InvalidNumber" "InvalidNumber.__init__" s_InvalidNumber) (by rfl)
  have Fu_InvalidNumber : Fun K "__init__" "InvalidNumber.__init__" s_InvalidNumber (iniA K "InvalidNumber") fd_InvalidNumber := He5.fun_of (st := s_InvalidNumber) D_InvalidNumber
  have Eg_InvalidNumber : ErrG K mg "InvalidNumber" "InvalidNumber.__init__" s_InvalidNumber (He.ga K "InvalidNumber") (iniA K "InvalidNumber") fd_InvalidNumber "ValueError" "ValueError.__new__" "ValueError.__init__" [.type "ValueError", .type "Exception", .type "BaseException", .type "object"] := RowK.errG R_InvalidNumber X G Fu_InvalidNumber PySem.F.excBase_ValueError PySem.F.store_ValueError.passes
  have no_InvalidNumber : ∀ p ∈ L_InvalidNumber, PySem.W.findIn K (.ref (He.ga K "InvalidNumber")) p.1 = some none := no_ok R_InvalidNumber.n (by decide +kernel)
  have R_Infeasible := E.r row_Infeasible (List.mem_of_getElem? (i := 24) (by rfl))
  obtain ⟨fd_Infeasible, D_Infeasible⟩ := S.def_ 37 (d := dI "Infeasible" "Infeasible.__init__" s_Infeasible) (by rfl)
  have Fu_Infeasible : Fun K "__init__" "Infeasible.__init__" s_Infeasible (iniA K "Infeasible") fd_Infeasible := He5.fun_of (st := s_Infeasible) D_Infeasible
  have Eg_Infeasible : ErrG K mg "Infeasible" "Infeasible.__init__" s_Infeasible (He.ga K "Infeasible") (iniA K "Infeasible") fd_Infeasible "ValueError" "ValueError.__new__" "ValueError.__init__" [.type "ValueError", .type "Exception", .type "BaseException", .type "object"] := RowK.errG R_Infeasible X G Fu_Infeasible PySem.F.excBase_ValueError PySem.F.store_ValueError.passes
  have no_Infeasible : ∀ p ∈ L_Infeasible, PySem.W.findIn K (.ref (He.ga K "Infeasible")) p.1 = some none := no_ok R_Infeasible.n (by decide +kernel)
  have R_Stuck := E.r row_Stuck (List.mem_of_getElem? (i := 25) (by rfl))
  obtain ⟨fd_Stuck, D_Stuck⟩ := S.def_ 38 (d := dI "Stuck" "Stuck.__init__" s_Stuck) (by rfl)
  have Fu_Stuck : Fun K "__init__" "Stuck.__init__" s_Stuck (iniA K "Stuck") fd_Stuck := He5.fun_of (st := s_Stuck) D_Stuck
  have Eg_Stuck : ErrG K mg "Stuck" "Stuck.__init__" s_Stuck (He.ga K "Stuck") (iniA K "Stuck") fd_Stuck "ValueError" "ValueError.__new__" "ValueError.__init__" [.type "ValueError", .type "Exception", .type "BaseException", .type "object"] := RowK.errG R_Stuck X G Fu_Stuck PySem.F.excBase_ValueError PySem.F.store_ValueError.passes
  have no_Stuck : ∀ p ∈ L_Stuck, PySem.W.findIn K (.ref (He.ga K "Stuck")) p.1 = some none := no_ok R_Stuck.n (by decide +kernel)
  have R_Comes := E.r row_Comes (List.mem_of_getElem? (i := 26) (by rfl))
  obtain ⟨fd_Comes, D_Comes⟩ := S.def_ 39 (d := dI "Comes" "Comes.__init__" s_Comes) (by rfl)
  have Fu_Comes : Fun K "__init__" "Comes.__init__" s_Comes (iniA K "Comes") fd_Comes := He5.fun_of (st := s_Comes) D_Comes
  have Eg_Comes : ErrG K mg "Comes" "Comes.__init__" s_Comes (He.ga K "Comes") (iniA K "Comes") fd_Comes "ValueError" "ValueError.__new__" "ValueError.__init__" [.type "ValueError", .type "Exception", .type "BaseException", .type "object"] := RowK.errG R_Comes X G Fu_Comes PySem.F.excBase_ValueError PySem.F.store_ValueError.passes
  have no_Comes : ∀ p ∈ L_Comes, PySem.W.findIn K (.ref (He.ga K "Comes")) p.1 = some none := no_ok R_Comes.n (by decide +kernel)
  have R_InvalidRule := E.r row_InvalidRule (List.mem_of_getElem? (i := 27) (by rfl))
  obtain ⟨fd_InvalidRule, D_InvalidRule⟩ := S.def_ 40 (d := dI "InvalidRule" "InvalidRule.__init__" s_InvalidRule) (by rfl)
  have Fu_InvalidRule : Fun K "__init__" "InvalidRule.__init__" s_InvalidRule (iniA K "InvalidRule") fd_InvalidRule := He5.fun_of (st := s_InvalidRule) D_InvalidRule
  have Eg_InvalidRule : ErrG K mg "InvalidRule" "InvalidRule.__init__" s_InvalidRule (He.ga K "InvalidRule") (iniA K "InvalidRule") fd_InvalidRule "ValueError" "ValueError.__new__" "ValueError.__init__" [.type "ValueError", .type "Exception", .type "BaseException", .type "object"] := RowK.errG R_InvalidRule X G Fu_InvalidRule PySem.F.excBase_ValueError PySem.F.store_ValueError.passes
  have no_InvalidRule : ∀ p ∈ L_InvalidRule, PySem.W.findIn K (.ref (He.ga K "InvalidRule")) p.1 = some none := no_ok R_InvalidRule.n (by decide +kernel)
  have R_InvalidItem := E.r row_InvalidItem (List.mem_of_getElem? (i := 28) (by rfl))
  obtain ⟨fd_InvalidItem, D_InvalidItem⟩ := S.def_ 41 (d := dI "InvalidItem" "InvalidItem.__init__" s_InvalidItem) (by rfl)
  have Fu_InvalidItem : Fun K "__init__" "InvalidItem.__init__" s_InvalidItem (iniA K "InvalidItem") fd_InvalidItem := He5.fun_of (st := s_InvalidItem) D_InvalidItem
  have Eg_InvalidItem : ErrG K mg "InvalidItem" "InvalidItem.__init__" s_InvalidItem (He.ga K "InvalidItem") (iniA K "InvalidItem") fd_InvalidItem "ValueError" "ValueError.__new__" "ValueError.__init__" [.type "ValueError", .type "Exception", .type "BaseException", .type "object"] := RowK.errG R_InvalidItem X G Fu_InvalidItem PySem.F.excBase_ValueError PySem.F.store_ValueError.passes
  have no_InvalidItem : ∀ p ∈ L_InvalidItem, PySem.W.findIn K (.ref (He.ga K "InvalidItem")) p.1 = some none := no_ok R_InvalidItem.n (by decide +kernel)
  have R_InvalidName := E.r row_InvalidName (List.mem_of_getElem? (i := 29) (by rfl))
  obtain ⟨fd_InvalidName, D_InvalidName⟩ := S.def_ 42 (d := dI "InvalidName" "InvalidName.__init__" s_InvalidName) (by rfl)
  have Fu_InvalidName : Fun K "__init__" "InvalidName.__init__" s_InvalidName (iniA K "InvalidName") fd_InvalidName := He5.fun_of (st := s_InvalidName) D_InvalidName
  have Eg_InvalidName : ErrG K mg "InvalidName" "InvalidName.__init__" s_InvalidName (He.ga K "InvalidName") (iniA K "InvalidName") fd_InvalidName "ValueError" "ValueError.__new__" "ValueError.__init__" [.type "ValueError", .type "Exception", .type "BaseException", .type "object"] := RowK.errG R_InvalidName X G Fu_InvalidName PySem.F.excBase_ValueError PySem.F.store_ValueError.passes
  have no_InvalidName : ∀ p ∈ L_InvalidName, PySem.W.findIn K (.ref (He.ga K "InvalidName")) p.1 = some none := no_ok R_InvalidName.n (by decide +kernel)
  have R_DuplicateName := E.r row_DuplicateName (List.mem_of_getElem? (i := 30) (by rfl))
  obtain ⟨fd_DuplicateName, D_DuplicateName⟩ := S.def_ 43 (d := dI "DuplicateName" "DuplicateName.__init__" s_DuplicateName) (by rfl)
  have Fu_DuplicateName : Fun K "__init__" "DuplicateName.__init__" s_DuplicateName (iniA K "DuplicateName") fd_DuplicateName := He5.fun_of (st := s_DuplicateName) D_DuplicateName
  have Eg_DuplicateName : ErrG K mg "DuplicateName" "DuplicateName.__init__" s_DuplicateName (He.ga K "DuplicateName") (iniA K "DuplicateName") fd_DuplicateName "ValueError" "ValueError.__new__" "ValueError.__init__" [.type "ValueError", .type "Exception", .type "BaseException", .type "object"] := RowK.errG R_DuplicateName X G Fu_DuplicateName PySem.F.excBase_ValueError PySem.F.store_ValueError.passes
  have no_DuplicateName : ∀ p ∈ L_DuplicateName, PySem.W.findIn K (.ref (He.ga K "DuplicateName")) p.1 = some none := no_ok R_DuplicateName.n (by decide +kernel)
  have R_InvalidNodes := E.r row_InvalidNodes (List.mem_of_getElem? (i := 31) (by rfl))
  obtain ⟨fd_InvalidNodes, D_InvalidNodes⟩ := S.def_ 44 (d := dI "InvalidNodes" "InvalidNodes.__init__" s_InvalidNodes) (by rfl)
  have Fu_InvalidNodes : Fun K "__init__" "InvalidNodes.__init__" s_InvalidNodes (iniA K "InvalidNodes") fd_InvalidNodes := He5.fun_of (st := s_InvalidNodes) D_InvalidNodes
  have Eg_InvalidNodes : ErrG K mg "InvalidNodes" "InvalidNodes.__init__" s_InvalidNodes (He.ga K "InvalidNodes") (iniA K "InvalidNodes") fd_InvalidNodes "ValueError" "ValueError.__new__" "ValueError.__init__" [.type "ValueError", .type "Exception", .type "BaseException", .type "object"] := RowK.errG R_InvalidNodes X G Fu_InvalidNodes PySem.F.excBase_ValueError PySem.F.store_ValueError.passes
  have no_InvalidNodes : ∀ p ∈ L_InvalidNodes, PySem.W.findIn K (.ref (He.ga K "InvalidNodes")) p.1 = some none := no_ok R_InvalidNodes.n (by decide +kernel)
  have R_InvalidEdge := E.r row_InvalidEdge (List.mem_of_getElem? (i := 32) (by rfl))
  obtain ⟨fd_InvalidEdge, D_InvalidEdge⟩ := S.def_ 45 (d := dI "InvalidEdge" "InvalidEdge.__init__" s_InvalidEdge) (by rfl)
  have Fu_InvalidEdge : Fun K "__init__" "InvalidEdge.__init__" s_InvalidEdge (iniA K "InvalidEdge") fd_InvalidEdge := He5.fun_of (st := s_InvalidEdge) D_InvalidEdge
  have Eg_InvalidEdge : ErrG K mg "InvalidEdge" "InvalidEdge.__init__" s_InvalidEdge (He.ga K "InvalidEdge") (iniA K "InvalidEdge") fd_InvalidEdge "ValueError" "ValueError.__new__" "ValueError.__init__" [.type "ValueError", .type "Exception", .type "BaseException", .type "object"] := RowK.errG R_InvalidEdge X G Fu_InvalidEdge PySem.F.excBase_ValueError PySem.F.store_ValueError.passes
  have no_InvalidEdge : ∀ p ∈ L_InvalidEdge, PySem.W.findIn K (.ref (He.ga K "InvalidEdge")) p.1 = some none := no_ok R_InvalidEdge.n (by decide +kernel)
  have R_InvalidWalk := E.r row_InvalidWalk (List.mem_of_getElem? (i := 33) (by rfl))
  obtain ⟨fd_InvalidWalk, D_InvalidWalk⟩ := S.def_ 46 (d := dI "InvalidWalk" "InvalidWalk.__init__" s_InvalidWalk) (by rfl)
  have Fu_InvalidWalk : Fun K "__init__" "InvalidWalk.__init__" s_InvalidWalk (iniA K "InvalidWalk") fd_InvalidWalk := He5.fun_of (st := s_InvalidWalk) D_InvalidWalk
  have Eg_InvalidWalk : ErrG K mg "InvalidWalk" "InvalidWalk.__init__" s_InvalidWalk (He.ga K "InvalidWalk") (iniA K "InvalidWalk") fd_InvalidWalk "ValueError" "ValueError.__new__" "ValueError.__init__" [.type "ValueError", .type "Exception", .type "BaseException", .type "object"] := RowK.errG R_InvalidWalk X G Fu_InvalidWalk PySem.F.excBase_ValueError PySem.F.store_ValueError.passes
  have no_InvalidWalk : ∀ p ∈ L_InvalidWalk, PySem.W.findIn K (.ref (He.ga K "InvalidWalk")) p.1 = some none := no_ok R_InvalidWalk.n (by decide +kernel)
  have R_Unsafe := E.r row_Unsafe (List.mem_of_getElem? (i := 34) (by rfl))
  obtain ⟨fd_Unsafe, D_Unsafe⟩ := S.def_ 47 (d := dI "Unsafe" "Unsafe.__init__" s_Unsafe) (by rfl)
  have Fu_Unsafe : Fun K "__init__" "Unsafe.__init__" s_Unsafe (iniA K "Unsafe") fd_Unsafe := He5.fun_of (st := s_Unsafe) D_Unsafe
  have Eg_Unsafe : ErrG K mg "Unsafe" "Unsafe.__init__" s_Unsafe (He.ga K "Unsafe") (iniA K "Unsafe") fd_Unsafe "ValueError" "ValueError.__new__" "ValueError.__init__" [.type "ValueError", .type "Exception", .type "BaseException", .type "object"] := RowK.errG R_Unsafe X G Fu_Unsafe PySem.F.excBase_ValueError PySem.F.store_ValueError.passes
  have no_Unsafe : ∀ p ∈ L_Unsafe, PySem.W.findIn K (.ref (He.ga K "Unsafe")) p.1 = some none := no_ok R_Unsafe.n (by decide +kernel)
  have R_InvalidWall := E.r row_InvalidWall (List.mem_of_getElem? (i := 35) (by rfl))
  obtain ⟨fd_InvalidWall, D_InvalidWall⟩ := S.def_ 48 (d := dI "InvalidWall" "InvalidWall.__init__" s_InvalidWall) (by rfl)
  have Fu_InvalidWall : Fun K "__init__" "InvalidWall.__init__" s_InvalidWall (iniA K "InvalidWall") fd_InvalidWall := He5.fun_of (st := s_InvalidWall) D_InvalidWall
  have Eg_InvalidWall : ErrG K mg "InvalidWall" "InvalidWall.__init__" s_InvalidWall (He.ga K "InvalidWall") (iniA K "InvalidWall") fd_InvalidWall "ValueError" "ValueError.__new__" "ValueError.__init__" [.type "ValueError", .type "Exception", .type "BaseException", .type "object"] := RowK.errG R_InvalidWall X G Fu_InvalidWall PySem.F.excBase_ValueError PySem.F.store_ValueError.passes
  have no_InvalidWall : ∀ p ∈ L_InvalidWall, PySem.W.findIn K (.ref (He.ga K "InvalidWall")) p.1 = some none := no_ok R_InvalidWall.n (by decide +kernel)
  have R_Untouched := E.r row_Untouched (List.mem_of_getElem? (i := 36) (by rfl))
  obtain ⟨fd_Untouched, D_Untouched⟩ := S.def_ 49 (d := dI "Untouched" "Untouched.__init__" s_Untouched) (by rfl)
  have Fu_Untouched : Fun K "__init__" "Untouched.__init__" s_Untouched (iniA K "Untouched") fd_Untouched := He5.fun_of (st := s_Untouched) D_Untouched
  have Eg_Untouched : ErrG K mg "Untouched" "Untouched.__init__" s_Untouched (He.ga K "Untouched") (iniA K "Untouched") fd_Untouched "ValueError" "ValueError.__new__" "ValueError.__init__" [.type "ValueError", .type "Exception", .type "BaseException", .type "object"] := RowK.errG R_Untouched X G Fu_Untouched PySem.F.excBase_ValueError PySem.F.store_ValueError.passes
  have no_Untouched : ∀ p ∈ L_Untouched, PySem.W.findIn K (.ref (He.ga K "Untouched")) p.1 = some none := no_ok R_Untouched.n (by decide +kernel)
  have R_Affordable := E.r row_Affordable (List.mem_of_getElem? (i := 37) (by rfl))
  obtain ⟨fd_Affordable, D_Affordable⟩ := S.def_ 50 (d := dI "Affordable" "Affordable.__init__" s_Affordable) (by rfl)
  have Fu_Affordable : Fun K "__init__" "Affordable.__init__" s_Affordable (iniA K "Affordable") fd_Affordable := He5.fun_of (st := s_Affordable) D_Affordable
  have Eg_Affordable : ErrG K mg "Affordable" "Affordable.__init__" s_Affordable (He.ga K "Affordable") (iniA K "Affordable") fd_Affordable "ValueError" "ValueError.__new__" "ValueError.__init__" [.type "ValueError", .type "Exception", .type "BaseException", .type "object"] := RowK.errG R_Affordable X G Fu_Affordable PySem.F.excBase_ValueError PySem.F.store_ValueError.passes
  have no_Affordable : ∀ p ∈ L_Affordable, PySem.W.findIn K (.ref (He.ga K "Affordable")) p.1 = some none := no_ok R_Affordable.n (by decide +kernel)
  have R_NoFilling := E.r row_NoFilling (List.mem_of_getElem? (i := 38) (by rfl))
  obtain ⟨fd_NoFilling, D_NoFilling⟩ := S.def_ 51 (d := dI "NoFilling" "NoFilling.__init__" s_NoFilling) (by rfl)
  have Fu_NoFilling : Fun K "__init__" "NoFilling.__init__" s_NoFilling (iniA K "NoFilling") fd_NoFilling := He5.fun_of (st := s_NoFilling) D_NoFilling
  have Eg_NoFilling : ErrG K mg "NoFilling" "NoFilling.__init__" s_NoFilling (He.ga K "NoFilling") (iniA K "NoFilling") fd_NoFilling "ValueError" "ValueError.__new__" "ValueError.__init__" [.type "ValueError", .type "Exception", .type "BaseException", .type "object"] := RowK.errG R_NoFilling X G Fu_NoFilling PySem.F.excBase_ValueError PySem.F.store_ValueError.passes
  have no_NoFilling : ∀ p ∈ L_NoFilling, PySem.W.findIn K (.ref (He.ga K "NoFilling")) p.1 = some none := no_ok R_NoFilling.n (by decide +kernel)
  have R_HasFilling := E.r row_HasFilling (List.mem_of_getElem? (i := 39) (by rfl))
  obtain ⟨fd_HasFilling, D_HasFilling⟩ := S.def_ 52 (d := dI "HasFilling" "HasFilling.__init__" s_HasFilling) (by rfl)
  have Fu_HasFilling : Fun K "__init__" "HasFilling.__init__" s_HasFilling (iniA K "HasFilling") fd_HasFilling := He5.fun_of (st := s_HasFilling) D_HasFilling
  have Eg_HasFilling : ErrG K mg "HasFilling" "HasFilling.__init__" s_HasFilling (He.ga K "HasFilling") (iniA K "HasFilling") fd_HasFilling "ValueError" "ValueError.__new__" "ValueError.__init__" [.type "ValueError", .type "Exception", .type "BaseException", .type "object"] := RowK.errG R_HasFilling X G Fu_HasFilling PySem.F.excBase_ValueError PySem.F.store_ValueError.passes
  have no_HasFilling : ∀ p ∈ L_HasFilling, PySem.W.findIn K (.ref (He.ga K "HasFilling")) p.1 = some none := no_ok R_HasFilling.n (by decide +kernel)
  have R_InvalidDeed := E.r row_InvalidDeed (List.mem_of_getElem? (i := 40) (by rfl))
  obtain ⟨fd_InvalidDeed, D_InvalidDeed⟩ := S.def_ 53 (d := dI "InvalidDeed" "InvalidDeed.__init__" s_InvalidDeed) (by rfl)
  have Fu_InvalidDeed : Fun K "__init__" "InvalidDeed.__init__" s_InvalidDeed (iniA K "InvalidDeed") fd_InvalidDeed := He5.fun_of (st := s_InvalidDeed) D_InvalidDeed
  have Eg_InvalidDeed : ErrG K mg "InvalidDeed" "InvalidDeed.__init__" s_InvalidDeed (He.ga K "InvalidDeed") (iniA K "InvalidDeed") fd_InvalidDeed "ValueError" "ValueError.__new__" "ValueError.__init__" [.type "ValueError", .type "Exception", .type "BaseException", .type "object"] := RowK.errG R_InvalidDeed X G Fu_InvalidDeed PySem.F.excBase_ValueError PySem.F.store_ValueError.passes
  have no_InvalidDeed : ∀ p ∈ L_InvalidDeed, PySem.W.findIn K (.ref (He.ga K "InvalidDeed")) p.1 = some none := no_ok R_InvalidDeed.n (by decide +kernel)
  have R_NameTaken := E.r row_NameTaken (List.mem_of_getElem? (i := 41) (by rfl))
  obtain ⟨fd_NameTaken, D_NameTaken⟩ := S.def_ 54 (d := dI "NameTaken" "NameTaken.__init__" s_NameTaken) (by rfl)
  have Fu_NameTaken : Fun K "__init__" "NameTaken.__init__" s_NameTaken (iniA K "NameTaken") fd_NameTaken := He5.fun_of (st := s_NameTaken) D_NameTaken
  have Eg_NameTaken : ErrG K mg "NameTaken" "NameTaken.__init__" s_NameTaken (He.ga K "NameTaken") (iniA K "NameTaken") fd_NameTaken "ValueError" "ValueError.__new__" "ValueError.__init__" [.type "ValueError", .type "Exception", .type "BaseException", .type "object"] := RowK.errG R_NameTaken X G Fu_NameTaken PySem.F.excBase_ValueError PySem.F.store_ValueError.passes
  have no_NameTaken : ∀ p ∈ L_NameTaken, PySem.W.findIn K (.ref (He.ga K "NameTaken")) p.1 = some none := no_ok R_NameTaken.n (by decide +kernel)
  have R_Refused := E.r row_Refused (List.mem_of_getElem? (i := 42) (by rfl))
  obtain ⟨fd_Refused, D_Refused⟩ := S.def_ 55 (d := dI "Refused" "Refused.__init__" s_Refused) (by rfl)
  have Fu_Refused : Fun K "__init__" "Refused.__init__" s_Refused (iniA K "Refused") fd_Refused := He5.fun_of (st := s_Refused) D_Refused
  have Eg_Refused : ErrG K mg "Refused" "Refused.__init__" s_Refused (He.ga K "Refused") (iniA K "Refused") fd_Refused "ValueError" "ValueError.__new__" "ValueError.__init__" [.type "ValueError", .type "Exception", .type "BaseException", .type "object"] := RowK.errG R_Refused X G Fu_Refused PySem.F.excBase_ValueError PySem.F.store_ValueError.passes
  have no_Refused : ∀ p ∈ L_Refused, PySem.W.findIn K (.ref (He.ga K "Refused")) p.1 = some none := no_ok R_Refused.n (by decide +kernel)
  have R_DraftRunning := E.r row_DraftRunning (List.mem_of_getElem? (i := 43) (by rfl))
  obtain ⟨fd_DraftRunning, D_DraftRunning⟩ := S.def_ 56 (d := dI "DraftRunning" "DraftRunning.__init__" s_DraftRunning) (by rfl)
  have Fu_DraftRunning : Fun K "__init__" "DraftRunning.__init__" s_DraftRunning (iniA K "DraftRunning") fd_DraftRunning := He5.fun_of (st := s_DraftRunning) D_DraftRunning
  have Eg_DraftRunning : ErrG K mg "DraftRunning" "DraftRunning.__init__" s_DraftRunning (He.ga K "DraftRunning") (iniA K "DraftRunning") fd_DraftRunning "ValueError" "ValueError.__new__" "ValueError.__init__" [.type "ValueError", .type "Exception", .type "BaseException", .type "object"] := RowK.errG R_DraftRunning X G Fu_DraftRunning PySem.F.excBase_ValueError PySem.F.store_ValueError.passes
  have no_DraftRunning : ∀ p ∈ L_DraftRunning, PySem.W.findIn K (.ref (He.ga K "DraftRunning")) p.1 = some none := no_ok R_DraftRunning.n (by decide +kernel)
  have R_NoDraft := E.r row_NoDraft (List.mem_of_getElem? (i := 44) (by rfl))
  obtain ⟨fd_NoDraft, D_NoDraft⟩ := S.def_ 57 (d := dI "NoDraft" "NoDraft.__init__" s_NoDraft) (by rfl)
  have Fu_NoDraft : Fun K "__init__" "NoDraft.__init__" s_NoDraft (iniA K "NoDraft") fd_NoDraft := He5.fun_of (st := s_NoDraft) D_NoDraft
  have Eg_NoDraft : ErrG K mg "NoDraft" "NoDraft.__init__" s_NoDraft (He.ga K "NoDraft") (iniA K "NoDraft") fd_NoDraft "ValueError" "ValueError.__new__" "ValueError.__init__" [.type "ValueError", .type "Exception", .type "BaseException", .type "object"] := RowK.errG R_NoDraft X G Fu_NoDraft PySem.F.excBase_ValueError PySem.F.store_ValueError.passes
  have no_NoDraft : ∀ p ∈ L_NoDraft, PySem.W.findIn K (.ref (He.ga K "NoDraft")) p.1 = some none := no_ok R_NoDraft.n (by decide +kernel)
  have SB : SubOk K mg subT := (sub_cons (R_UnknownName.mgc X G) (PySem.W.mg_of X G (E.u "ShapeError" (by decide +kernel)).1) (He.exm_ok (S.fact 28 (f := .exm "UnknownName" "ShapeError" false) (by rfl))) (sub_cons (R_UnknownName.mgc X G) (PySem.W.mg_of X G (E.u "Missing" (by decide +kernel)).1) (He.exm_ok (S.fact 29 (f := .exm "UnknownName" "Missing" true) (by rfl))) (sub_cons (R_UnknownName.mgc X G) (R_PastEnd.mgc X G) (He.exm_ok (S.fact 30 (f := .exm "UnknownName" "PastEnd" false) (by rfl))) (sub_cons (R_UnknownName.mgc X G) (R_NothingLeft.mgc X G) (He.exm_ok (S.fact 31 (f := .exm "UnknownName" "NothingLeft" false) (by rfl))) (sub_cons (R_UnknownCell.mgc X G) (PySem.W.mg_of X G (E.u "ShapeError" (by decide +kernel)).1) (He.exm_ok (S.fact 32 (f := .exm "UnknownCell" "ShapeError" false) (by rfl))) (sub_cons (R_UnknownCell.mgc X G) (PySem.W.mg_of X G (E.u "Missing" (by decide +kernel)).1) (He.exm_ok (S.fact 33 (f := .exm "UnknownCell" "Missing" true) (by rfl))) (sub_cons (R_UnknownCell.mgc X G) (R_PastEnd.mgc X G) (He.exm_ok (S.fact 34 (f := .exm "UnknownCell" "PastEnd" false) (by rfl))) (sub_cons (R_UnknownCell.mgc X G) (R_NothingLeft.mgc X G) (He.exm_ok (S.fact 35 (f := .exm "UnknownCell" "NothingLeft" false) (by rfl))) (sub_cons (R_PastEnd.mgc X G) (PySem.W.mg_of X G (E.u "ShapeError" (by decide +kernel)).1) (He.exm_ok (S.fact 36 (f := .exm "PastEnd" "ShapeError" false) (by rfl))) (sub_cons (R_PastEnd.mgc X G) (PySem.W.mg_of X G (E.u "Missing" (by decide +kernel)).1) (He.exm_ok (S.fact 37 (f := .exm "PastEnd" "Missing" false) (by rfl))) (sub_cons (R_PastEnd.mgc X G) (R_PastEnd.mgc X G) (He.exm_ok (S.fact 38 (f := .exm "PastEnd" "PastEnd" true) (by rfl))) (sub_cons (R_PastEnd.mgc X G) (R_NothingLeft.mgc X G) (He.exm_ok (S.fact 39 (f := .exm "PastEnd" "NothingLeft" false) (by rfl))) (sub_cons (R_NothingLeft.mgc X G) (PySem.W.mg_of X G (E.u "ShapeError" (by decide +kernel)).1) (He.exm_ok (S.fact 40 (f := .exm "NothingLeft" "ShapeError" false) (by rfl))) (sub_cons (R_NothingLeft.mgc X G) (PySem.W.mg_of X G (E.u "Missing" (by decide +kernel)).1) (He.exm_ok (S.fact 41 (f := .exm "NothingLeft" "Missing" false) (by rfl))) (sub_cons (R_NothingLeft.mgc X G) (R_PastEnd.mgc X G) (He.exm_ok (S.fact 42 (f := .exm "NothingLeft" "PastEnd" false) (by rfl))) (sub_cons (R_NothingLeft.mgc X G) (R_NothingLeft.mgc X G) (He.exm_ok (S.fact 43 (f := .exm "NothingLeft" "NothingLeft" true) (by rfl))) (sub_cons (R_InvalidText.mgc X G) (PySem.W.mg_of X G (E.u "ShapeError" (by decide +kernel)).1) (He.exm_ok (S.fact 44 (f := .exm "InvalidText" "ShapeError" true) (by rfl))) (sub_cons (R_InvalidText.mgc X G) (PySem.W.mg_of X G (E.u "Missing" (by decide +kernel)).1) (He.exm_ok (S.fact 45 (f := .exm "InvalidText" "Missing" false) (by rfl))) (sub_cons (R_InvalidText.mgc X G) (R_PastEnd.mgc X G) (He.exm_ok (S.fact 46 (f := .exm "InvalidText" "PastEnd" false) (by rfl))) (sub_cons (R_InvalidText.mgc X G) (R_NothingLeft.mgc X G) (He.exm_ok (S.fact 47 (f := .exm "InvalidText" "NothingLeft" false) (by rfl))) (sub_cons (R_Barred.mgc X G) (PySem.W.mg_of X G (E.u "ShapeError" (by decide +kernel)).1) (He.exm_ok (S.fact 48 (f := .exm "Barred" "ShapeError" true) (by rfl))) (sub_cons (R_Barred.mgc X G) (PySem.W.mg_of X G (E.u "Missing" (by decide +kernel)).1) (He.exm_ok (S.fact 49 (f := .exm "Barred" "Missing" false) (by rfl))) (sub_cons (R_Barred.mgc X G) (R_PastEnd.mgc X G) (He.exm_ok (S.fact 50 (f := .exm "Barred" "PastEnd" false) (by rfl))) (sub_cons (R_Barred.mgc X G) (R_NothingLeft.mgc X G) (He.exm_ok (S.fact 51 (f := .exm "Barred" "NothingLeft" false) (by rfl))) (sub_cons (R_NoDraft.mgc X G) (PySem.W.mg_of X G (E.u "ShapeError" (by decide +kernel)).1) (He.exm_ok (S.fact 52 (f := .exm "NoDraft" "ShapeError" true) (by rfl))) (sub_cons (R_NoDraft.mgc X G) (PySem.W.mg_of X G (E.u "Missing" (by decide +kernel)).1) (He.exm_ok (S.fact 53 (f := .exm "NoDraft" "Missing" false) (by rfl))) (sub_cons (R_NoDraft.mgc X G) (R_PastEnd.mgc X G) (He.exm_ok (S.fact 54 (f := .exm "NoDraft" "PastEnd" false) (by rfl))) (sub_cons (R_NoDraft.mgc X G) (R_NothingLeft.mgc X G) (He.exm_ok (S.fact 55 (f := .exm "NoDraft" "NothingLeft" false) (by rfl))) sub_nil))))))))))))))))))))))))))))
  have ETT : EtOk K mg etT etG := E.et X G (by rfl) (by rfl)
  have XF : XfT K mg csT fsT := E.xft X G (by rfl)
  have T : Tx K mg := ⟨He.free_ok X G (S.fact 13 (f := .free "IndexError") (by rfl)), He.free_ok X G (S.fact 14 (f := .free "KeyError") (by rfl)), He.free_ok X G (S.fact 15 (f := .free "LookupError") (by rfl)), He.free_ok X G (S.fact 16 (f := .free "ValueError") (by rfl)), He.free_ok X G (S.fact 17 (f := .free "abs") (by rfl)), He.free_ok X G (S.fact 18 (f := .free "all") (by rfl)), He.free_ok X G (S.fact 19 (f := .free "bool") (by rfl)), He.free_ok X G (S.fact 20 (f := .free "int") (by rfl)), He.free_ok X G (S.fact 21 (f := .free "isinstance") (by rfl)), He.free_ok X G (S.fact 22 (f := .free "len") (by rfl)), He.free_ok X G (S.fact 23 (f := .free "list") (by rfl)), He.free_ok X G (S.fact 24 (f := .free "range") (by rfl)), He.free_ok X G (S.fact 25 (f := .free "str") (by rfl)), He.free_ok X G (S.fact 26 (f := .free "tuple") (by rfl)), He.free_ok X G (S.fact 27 (f := .free "zip") (by rfl)), ⟨_, (PySem.W.mg_of X G (E.u "ShapeError" (by decide +kernel)).1)⟩, ⟨_, (PySem.W.mg_of X G (E.u "Missing" (by decide +kernel)).1)⟩, ⟨_, (R_PastEnd.mgc X G)⟩, ⟨_, (R_NothingLeft.mgc X G)⟩, ⟨_, (R_Affordable.mgc X G)⟩, ⟨_, (R_AlreadyLiving.mgc X G)⟩, ⟨_, (R_Barred.mgc X G)⟩, ⟨_, (R_Comes.mgc X G)⟩, ⟨_, (R_DraftRunning.mgc X G)⟩, ⟨_, (R_DuplicateKey.mgc X G)⟩, ⟨_, (R_DuplicateName.mgc X G)⟩, ⟨_, (R_HasFilling.mgc X G)⟩, ⟨_, (R_Infeasible.mgc X G)⟩, ⟨_, (R_InvalidDeed.mgc X G)⟩, ⟨_, (R_InvalidEdge.mgc X G)⟩, ⟨_, (R_InvalidItem.mgc X G)⟩, ⟨_, (R_InvalidKey.mgc X G)⟩, ⟨_, (R_InvalidLot.mgc X G)⟩, ⟨_, (R_InvalidMark.mgc X G)⟩, ⟨_, (R_InvalidName.mgc X G)⟩, ⟨_, (R_InvalidNodes.mgc X G)⟩, ⟨_, (R_InvalidNumber.mgc X G)⟩, ⟨_, (R_InvalidNumbers.mgc X G)⟩, ⟨_, (R_InvalidRow.mgc X G)⟩, ⟨_, (R_InvalidRule.mgc X G)⟩, ⟨_, (R_InvalidText.mgc X G)⟩, ⟨_, (R_InvalidWalk.mgc X G)⟩, ⟨_, (R_InvalidWall.mgc X G)⟩, ⟨_, (R_InvalidWord.mgc X G)⟩, ⟨_, (PySem.W.mg_of X G (E.u "Missing" (by decide +kernel)).1)⟩, ⟨_, (R_NameTaken.mgc X G)⟩, ⟨_, (R_NeighbourMissed.mgc X G)⟩, ⟨_, (R_NoDraft.mgc X G)⟩, ⟨_, (R_NoFilling.mgc X G)⟩, ⟨_, (R_NotClosed.mgc X G)⟩, ⟨_, (R_NotMeeting.mgc X G)⟩, ⟨_, (R_NotSearch.mgc X G)⟩, ⟨_, (R_NotTop.mgc X G)⟩, ⟨_, (R_NothingLeft.mgc X G)⟩, ⟨_, (R_OtherKeys.mgc X G)⟩, ⟨_, (R_PastEnd.mgc X G)⟩, ⟨_, (R_Refused.mgc X G)⟩, ⟨_, (PySem.W.mg_of X G (E.u "ShapeError" (by decide +kernel)).1)⟩, ⟨_, (R_Stuck.mgc X G)⟩, ⟨_, (R_TooMany.mgc X G)⟩, ⟨_, (R_UnknownCell.mgc X G)⟩, ⟨_, (R_UnknownKey.mgc X G)⟩, ⟨_, (R_UnknownName.mgc X G)⟩, ⟨_, (R_Unresolved.mgc X G)⟩, ⟨_, (R_Unsafe.mgc X G)⟩, ⟨_, (R_Untouched.mgc X G)⟩, ft_nil, oc_nil, kt_nil, ETT, SB, XF⟩
  obtain ⟨fd_flbag, D_flbag⟩ := S.def_ 0 (d := dM "_law_bag" s_lbag) (by rfl)
  have F_lbag : FunG K mg "_law_bag" s_lbag (He.ga K "_law_bag") fd_flbag := ⟨He5.fun_of (st := s_lbag) D_flbag, He.glo_ok X G (S.fact 0 (f := .glo "_law_bag") (by rfl))⟩
  have B_lbag := F_lbag.fn.binds (ps := ["_law_script"]) fun _ _ _ _ _ _ us hl => match us, hl with | [_], _ => rfl
  obtain ⟨fd_flwords, D_flwords⟩ := S.def_ 1 (d := dM "_law_words" s_lwords) (by rfl)
  have F_lwords : FunG K mg "_law_words" s_lwords (He.ga K "_law_words") fd_flwords := ⟨He5.fun_of (st := s_lwords) D_flwords, He.glo_ok X G (S.fact 1 (f := .glo "_law_words") (by rfl))⟩
  have B_lwords := F_lwords.fn.binds (ps := []) fun _ _ _ _ _ _ us hl => match us, hl with | [], _ => rfl
  obtain ⟨fd_fldraw, D_fldraw⟩ := S.def_ 2 (d := dM "_law_draw" s_ldraw) (by rfl)
  have F_ldraw : FunG K mg "_law_draw" s_ldraw (He.ga K "_law_draw") fd_fldraw := ⟨He5.fun_of (st := s_ldraw) D_fldraw, He.glo_ok X G (S.fact 2 (f := .glo "_law_draw") (by rfl))⟩
  have B_ldraw := F_ldraw.fn.binds (ps := ["_law_bag_here", "_law_top"]) fun _ _ _ _ _ _ us hl => match us, hl with | [_, _], _ => rfl
  obtain ⟨fd_flof, D_flof⟩ := S.def_ 3 (d := dM "_law_of" s_lof) (by rfl)
  have F_lof : FunG K mg "_law_of" s_lof (He.ga K "_law_of") fd_flof := ⟨He5.fun_of (st := s_lof) D_flof, He.glo_ok X G (S.fact 3 (f := .glo "_law_of") (by rfl))⟩
  have B_lof := F_lof.fn.binds (ps := ["_law_bag_here", "_law_some"]) fun _ _ _ _ _ _ us hl => match us, hl with | [_, _], _ => rfl
  obtain ⟨fd_flany, D_flany⟩ := S.def_ 4 (d := dM "_law_any" s_lany) (by rfl)
  have F_lany : FunG K mg "_law_any" s_lany (He.ga K "_law_any") fd_flany := ⟨He5.fun_of (st := s_lany) D_flany, He.glo_ok X G (S.fact 4 (f := .glo "_law_any") (by rfl))⟩
  have B_lany := F_lany.fn.binds (ps := ["_law_bag_here"]) fun _ _ _ _ _ _ us hl => match us, hl with | [_], _ => rfl
  obtain ⟨fd_flby_place, D_flby_place⟩ := S.def_ 5 (d := dM "_law_by_place" s_lby_place) (by rfl)
  have F_lby_place : FunG K mg "_law_by_place" s_lby_place (He.ga K "_law_by_place") fd_flby_place := ⟨He5.fun_of (st := s_lby_place) D_flby_place, He.glo_ok X G (S.fact 5 (f := .glo "_law_by_place") (by rfl))⟩
  have B_lby_place := F_lby_place.fn.binds (ps := ["_law_p", "_law_q", "_law_r", "_law_s"]) fun _ _ _ _ _ _ us hl => match us, hl with | [_, _, _, _], _ => rfl
  obtain ⟨fd_flby_name, D_flby_name⟩ := S.def_ 6 (d := dM "_law_by_name" s_lby_name) (by rfl)
  have F_lby_name : FunG K mg "_law_by_name" s_lby_name (He.ga K "_law_by_name") fd_flby_name := ⟨He5.fun_of (st := s_lby_name) D_flby_name, He.glo_ok X G (S.fact 6 (f := .glo "_law_by_name") (by rfl))⟩
  have B_lby_name := F_lby_name.fn.binds (ps := ["_law_p", "_law_q", "_law_r", "_law_s"]) fun _ _ _ _ _ _ us hl => match us, hl with | [_, _, _, _], _ => rfl
  obtain ⟨fd_flsame, D_flsame⟩ := S.def_ 7 (d := dM "_law_same" s_lsame) (by rfl)
  have F_lsame : FunG K mg "_law_same" s_lsame (He.ga K "_law_same") fd_flsame := ⟨He5.fun_of (st := s_lsame) D_flsame, He.glo_ok X G (S.fact 7 (f := .glo "_law_same") (by rfl))⟩
  have B_lsame := F_lsame.fn.binds (ps := ["_law_found", "_law_due"]) fun _ _ _ _ _ _ us hl => match us, hl with | [_, _], _ => rfl
  obtain ⟨fd_flfields, D_flfields⟩ := S.def_ 8 (d := dM "_law_fields" s_lfields) (by rfl)
  have F_lfields : FunG K mg "_law_fields" s_lfields (He.ga K "_law_fields") fd_flfields := ⟨He5.fun_of (st := s_lfields) D_flfields, He.glo_ok X G (S.fact 8 (f := .glo "_law_fields") (by rfl))⟩
  have B_lfields := F_lfields.fn.binds (ps := ["_law_n", "_law_e"]) fun _ _ _ _ _ _ us hl => match us, hl with | [_, _], _ => rfl
  obtain ⟨fd_flsorts, D_flsorts⟩ := S.def_ 9 (d := dM "_law_sorts" s_lsorts) (by rfl)
  have F_lsorts : FunG K mg "_law_sorts" s_lsorts (He.ga K "_law_sorts") fd_flsorts := ⟨He5.fun_of (st := s_lsorts) D_flsorts, He.glo_ok X G (S.fact 9 (f := .glo "_law_sorts") (by rfl))⟩
  have B_lsorts := F_lsorts.fn.binds (ps := ["_law_e"]) fun _ _ _ _ _ _ us hl => match us, hl with | [_], _ => rfl
  obtain ⟨fd_flbases, D_flbases⟩ := S.def_ 10 (d := dM "_law_bases" s_lbases) (by rfl)
  have F_lbases : FunG K mg "_law_bases" s_lbases (He.ga K "_law_bases") fd_flbases := ⟨He5.fun_of (st := s_lbases) D_flbases, He.glo_ok X G (S.fact 10 (f := .glo "_law_bases") (by rfl))⟩
  have B_lbases := F_lbases.fn.binds (ps := ["_law_e"]) fun _ _ _ _ _ _ us hl => match us, hl with | [_], _ => rfl
  obtain ⟨fd_flupper, D_flupper⟩ := S.def_ 11 (d := dM "_law_upper" s_lupper) (by rfl)
  have F_lupper : FunG K mg "_law_upper" s_lupper (He.ga K "_law_upper") fd_flupper := ⟨He5.fun_of (st := s_lupper) D_flupper, He.glo_ok X G (S.fact 11 (f := .glo "_law_upper") (by rfl))⟩
  have B_lupper := F_lupper.fn.binds (ps := ["_law_way", "_law_p", "_law_q"]) fun _ _ _ _ _ _ us hl => match us, hl with | [_, _, _], _ => rfl
  obtain ⟨fd_flaw, D_flaw⟩ := S.def_ 12 (d := dM "law" s_law) (by rfl)
  have F_law : FunG K mg "law" s_law (He.ga K "law") fd_flaw := ⟨He5.fun_of (st := s_law) D_flaw, He.glo_ok X G (S.fact 12 (f := .glo "law") (by rfl))⟩
  have B_law := F_law.fn.binds (ps := ["_law_script"]) fun _ _ _ _ _ _ us hl => match us, hl with | [_], _ => rfl
  have e0 : faL = He.ga K "law" := by cases hfa.symm.trans F_law.mg; rfl
  subst e0
  refine ⟨fd_flaw, fun s u => by
    obtain ⟨oc, od, kV, doc, pm, an, cdv, ct, osl, e, lk, hcd⟩ := F_law.fn.ex
    subst e
    exact .of_eq rfl, fun base _ _ => ?_⟩
  have O_lbag := ok_lbag (P := P) (w := w) (base := base) T F_lbag.fn
  have D_lbag : Dfn P w K mg base "_law_bag" 1 G_lbag := F_lbag.dfn O_lbag B_lbag
  have O_lwords := ok_lwords (P := P) (w := w) (base := base) T F_lwords.fn
  have D_lwords : Dfn P w K mg base "_law_words" 1 G_lwords := F_lwords.dfn O_lwords B_lwords
  have D_lwords_k0 : DfK P w K mg base "_law_words" 1 G_lwords 0 [] [] := F_lwords.dfk O_lwords (Fun.kwb F_lwords.fn fun _ _ _ _ _ _ us ws h1 h2 => match us, ws, h1, h2 with | [], [], _, _ => rfl)
  have O_ldraw := ok_ldraw (P := P) (w := w) (base := base) T F_ldraw.fn
  have D_ldraw : Dfn P w K mg base "_law_draw" 1 G_ldraw := F_ldraw.dfn O_ldraw B_ldraw
  have O_lof := ok_lof (P := P) (w := w) (base := base) T F_lof.fn D_ldraw
  have D_lof : Dfn P w K mg base "_law_of" 2 G_lof := F_lof.dfn O_lof B_lof
  have O_lany := ok_lany (P := P) (w := w) (base := base) T F_lany.fn D_lof D_ldraw (v_UnknownKey_0 (P := P) (w := w) (base := base) Eg_UnknownKey no_UnknownKey)
  have D_lany : Dfn P w K mg base "_law_any" 3 G_lany := F_lany.dfn O_lany B_lany
  have O_lby_place := ok_lby_place (P := P) (w := w) (base := base) T F_lby_place.fn (v_NothingLeft_0 (P := P) (w := w) (base := base) Eg_NothingLeft no_NothingLeft) (v_PastEnd_0 (P := P) (w := w) (base := base) Eg_PastEnd no_PastEnd) (v_UnknownCell_0 (P := P) (w := w) (base := base) Eg_UnknownCell no_UnknownCell) (v_UnknownName_0 (P := P) (w := w) (base := base) Eg_UnknownName no_UnknownName) (v_UnknownKey_0 (P := P) (w := w) (base := base) Eg_UnknownKey no_UnknownKey) (v_NoDraft_0 (P := P) (w := w) (base := base) Eg_NoDraft no_NoDraft) (v_DraftRunning_0 (P := P) (w := w) (base := base) Eg_DraftRunning no_DraftRunning) (v_Refused_0 (P := P) (w := w) (base := base) Eg_Refused no_Refused) (v_NameTaken_0 (P := P) (w := w) (base := base) Eg_NameTaken no_NameTaken) (v_InvalidDeed_0 (P := P) (w := w) (base := base) Eg_InvalidDeed no_InvalidDeed) (v_HasFilling_0 (P := P) (w := w) (base := base) Eg_HasFilling no_HasFilling) (v_NoFilling_0 (P := P) (w := w) (base := base) Eg_NoFilling no_NoFilling) (v_Affordable_0 (P := P) (w := w) (base := base) Eg_Affordable no_Affordable) (v_Untouched_0 (P := P) (w := w) (base := base) Eg_Untouched no_Untouched) (v_InvalidWall_0 (P := P) (w := w) (base := base) Eg_InvalidWall no_InvalidWall) (v_Unsafe_0 (P := P) (w := w) (base := base) Eg_Unsafe no_Unsafe) (v_InvalidWalk_0 (P := P) (w := w) (base := base) Eg_InvalidWalk no_InvalidWalk) (v_InvalidEdge_0 (P := P) (w := w) (base := base) Eg_InvalidEdge no_InvalidEdge) (v_InvalidNodes_0 (P := P) (w := w) (base := base) Eg_InvalidNodes no_InvalidNodes) (v_DuplicateName_0 (P := P) (w := w) (base := base) Eg_DuplicateName no_DuplicateName) (v_InvalidName_0 (P := P) (w := w) (base := base) Eg_InvalidName no_InvalidName) (v_InvalidItem_0 (P := P) (w := w) (base := base) Eg_InvalidItem no_InvalidItem) (v_InvalidRule_0 (P := P) (w := w) (base := base) Eg_InvalidRule no_InvalidRule) (v_Comes_0 (P := P) (w := w) (base := base) Eg_Comes no_Comes) (v_Stuck_0 (P := P) (w := w) (base := base) Eg_Stuck no_Stuck) (v_Infeasible_0 (P := P) (w := w) (base := base) Eg_Infeasible no_Infeasible) (v_InvalidNumber_0 (P := P) (w := w) (base := base) Eg_InvalidNumber no_InvalidNumber) (v_InvalidWord_0 (P := P) (w := w) (base := base) Eg_InvalidWord no_InvalidWord) (v_NotMeeting_0 (P := P) (w := w) (base := base) Eg_NotMeeting no_NotMeeting) (v_Unresolved_0 (P := P) (w := w) (base := base) Eg_Unresolved no_Unresolved) (v_Barred_0 (P := P) (w := w) (base := base) Eg_Barred no_Barred) (v_NotClosed_0 (P := P) (w := w) (base := base) Eg_NotClosed no_NotClosed) (v_OtherKeys_0 (P := P) (w := w) (base := base) Eg_OtherKeys no_OtherKeys) (v_NotTop_0 (P := P) (w := w) (base := base) Eg_NotTop no_NotTop) (v_TooMany_0 (P := P) (w := w) (base := base) Eg_TooMany no_TooMany) (v_NeighbourMissed_0 (P := P) (w := w) (base := base) Eg_NeighbourMissed no_NeighbourMissed) (v_AlreadyLiving_0 (P := P) (w := w) (base := base) Eg_AlreadyLiving no_AlreadyLiving) (v_InvalidNumbers_0 (P := P) (w := w) (base := base) Eg_InvalidNumbers no_InvalidNumbers) (v_NotSearch_0 (P := P) (w := w) (base := base) Eg_NotSearch no_NotSearch) (v_InvalidText_0 (P := P) (w := w) (base := base) Eg_InvalidText no_InvalidText) (v_InvalidRow_0 (P := P) (w := w) (base := base) Eg_InvalidRow no_InvalidRow) (v_InvalidMark_0 (P := P) (w := w) (base := base) Eg_InvalidMark no_InvalidMark) (v_InvalidLot_0 (P := P) (w := w) (base := base) Eg_InvalidLot no_InvalidLot) (v_DuplicateKey_0 (P := P) (w := w) (base := base) Eg_DuplicateKey no_DuplicateKey) (v_InvalidKey_0 (P := P) (w := w) (base := base) Eg_InvalidKey no_InvalidKey)
  have D_lby_place : Dfn P w K mg base "_law_by_place" 3 G_lby_place := F_lby_place.dfn O_lby_place B_lby_place
  have O_lby_name := ok_lby_name (P := P) (w := w) (base := base) T F_lby_name.fn (v_NothingLeft_0 (P := P) (w := w) (base := base) Eg_NothingLeft no_NothingLeft) (v_PastEnd_1 (P := P) (w := w) (base := base) Eg_PastEnd no_PastEnd) (v_UnknownCell_1 (P := P) (w := w) (base := base) Eg_UnknownCell no_UnknownCell) (v_UnknownName_1 (P := P) (w := w) (base := base) Eg_UnknownName no_UnknownName) (v_UnknownKey_1 (P := P) (w := w) (base := base) Eg_UnknownKey no_UnknownKey) (v_NoDraft_0 (P := P) (w := w) (base := base) Eg_NoDraft no_NoDraft) (v_DraftRunning_0 (P := P) (w := w) (base := base) Eg_DraftRunning no_DraftRunning) (v_Refused_1 (P := P) (w := w) (base := base) Eg_Refused no_Refused) (v_NameTaken_1 (P := P) (w := w) (base := base) Eg_NameTaken no_NameTaken) (v_InvalidDeed_1 (P := P) (w := w) (base := base) Eg_InvalidDeed no_InvalidDeed) (v_HasFilling_0 (P := P) (w := w) (base := base) Eg_HasFilling no_HasFilling) (v_NoFilling_0 (P := P) (w := w) (base := base) Eg_NoFilling no_NoFilling) (v_Affordable_1 (P := P) (w := w) (base := base) Eg_Affordable no_Affordable) (v_Untouched_1 (P := P) (w := w) (base := base) Eg_Untouched no_Untouched) (v_InvalidWall_1 (P := P) (w := w) (base := base) Eg_InvalidWall no_InvalidWall) (v_Unsafe_1 (P := P) (w := w) (base := base) Eg_Unsafe no_Unsafe) (v_InvalidWalk_1 (P := P) (w := w) (base := base) Eg_InvalidWalk no_InvalidWalk) (v_InvalidEdge_1 (P := P) (w := w) (base := base) Eg_InvalidEdge no_InvalidEdge) (v_InvalidNodes_0 (P := P) (w := w) (base := base) Eg_InvalidNodes no_InvalidNodes) (v_DuplicateName_1 (P := P) (w := w) (base := base) Eg_DuplicateName no_DuplicateName) (v_InvalidName_1 (P := P) (w := w) (base := base) Eg_InvalidName no_InvalidName) (v_InvalidItem_1 (P := P) (w := w) (base := base) Eg_InvalidItem no_InvalidItem) (v_InvalidRule_1 (P := P) (w := w) (base := base) Eg_InvalidRule no_InvalidRule) (v_Comes_1 (P := P) (w := w) (base := base) Eg_Comes no_Comes) (v_Stuck_1 (P := P) (w := w) (base := base) Eg_Stuck no_Stuck) (v_Infeasible_1 (P := P) (w := w) (base := base) Eg_Infeasible no_Infeasible) (v_InvalidNumber_1 (P := P) (w := w) (base := base) Eg_InvalidNumber no_InvalidNumber) (v_InvalidWord_1 (P := P) (w := w) (base := base) Eg_InvalidWord no_InvalidWord) (v_NotMeeting_1 (P := P) (w := w) (base := base) Eg_NotMeeting no_NotMeeting) (v_Unresolved_1 (P := P) (w := w) (base := base) Eg_Unresolved no_Unresolved) (v_Barred_1 (P := P) (w := w) (base := base) Eg_Barred no_Barred) (v_NotClosed_1 (P := P) (w := w) (base := base) Eg_NotClosed no_NotClosed) (v_OtherKeys_1 (P := P) (w := w) (base := base) Eg_OtherKeys no_OtherKeys) (v_NotTop_1 (P := P) (w := w) (base := base) Eg_NotTop no_NotTop) (v_TooMany_1 (P := P) (w := w) (base := base) Eg_TooMany no_TooMany) (v_NeighbourMissed_1 (P := P) (w := w) (base := base) Eg_NeighbourMissed no_NeighbourMissed) (v_AlreadyLiving_1 (P := P) (w := w) (base := base) Eg_AlreadyLiving no_AlreadyLiving) (v_InvalidNumbers_1 (P := P) (w := w) (base := base) Eg_InvalidNumbers no_InvalidNumbers) (v_NotSearch_1 (P := P) (w := w) (base := base) Eg_NotSearch no_NotSearch) (v_InvalidText_1 (P := P) (w := w) (base := base) Eg_InvalidText no_InvalidText) (v_InvalidRow_1 (P := P) (w := w) (base := base) Eg_InvalidRow no_InvalidRow) (v_InvalidMark_1 (P := P) (w := w) (base := base) Eg_InvalidMark no_InvalidMark) (v_InvalidLot_1 (P := P) (w := w) (base := base) Eg_InvalidLot no_InvalidLot) (v_DuplicateKey_1 (P := P) (w := w) (base := base) Eg_DuplicateKey no_DuplicateKey) (v_InvalidKey_1 (P := P) (w := w) (base := base) Eg_InvalidKey no_InvalidKey)
  have D_lby_name : Dfn P w K mg base "_law_by_name" 3 G_lby_name := F_lby_name.dfn O_lby_name B_lby_name
  have O_lsame := ok_lsame (P := P) (w := w) (base := base) T F_lsame B_lsame 6
  have D_lsame : Dfn P w K mg base "_law_same" 6 G_lsame := F_lsame.dfn O_lsame B_lsame
  have O_lfields := ok_lfields (P := P) (w := w) (base := base) T F_lfields.fn
  have D_lfields : Dfn P w K mg base "_law_fields" 1 G_lfields := F_lfields.dfn O_lfields B_lfields
  have O_lsorts := ok_lsorts (P := P) (w := w) (base := base) T F_lsorts.fn
  have D_lsorts : Dfn P w K mg base "_law_sorts" 1 G_lsorts := F_lsorts.dfn O_lsorts B_lsorts
  have O_lbases := ok_lbases (P := P) (w := w) (base := base) T F_lbases.fn
  have D_lbases : Dfn P w K mg base "_law_bases" 1 G_lbases := F_lbases.dfn O_lbases B_lbases
  have O_lupper := ok_lupper (P := P) (w := w) (base := base) T F_lupper.fn (r_InvalidText (P := P) (w := w) (base := base) Eg_InvalidText no_InvalidText) (r_UnknownName (P := P) (w := w) (base := base) Eg_UnknownName no_UnknownName) (r_Barred (P := P) (w := w) (base := base) Eg_Barred no_Barred) (r_UnknownCell (P := P) (w := w) (base := base) Eg_UnknownCell no_UnknownCell) (r_PastEnd (P := P) (w := w) (base := base) Eg_PastEnd no_PastEnd) (r_NoDraft (P := P) (w := w) (base := base) Eg_NoDraft no_NoDraft) (r_NothingLeft (P := P) (w := w) (base := base) Eg_NothingLeft no_NothingLeft)
  have D_lupper : Dfn P w K mg base "_law_upper" 3 G_lupper := F_lupper.dfn O_lupper B_lupper
  exact ok_law T F_law.fn D_lbag D_lwords D_lwords_k0 D_lany D_lby_place D_lby_name D_lsame D_lfields D_lsorts D_lbases D_lupper
abbrev RR : PySem.W.OpenRow := PySem.W.OpenLaw.row PySem.Challenge.rw_shapebetween_k00_errors_by_themselves
abbrev hkT : PySem.W.Hook := hookE faT fnT exT
def obT (s : PySem.W.SharedT) : He.AlD × Bool := obsE faT fnT exT (HandSHeadRun.getT s)
theorem obT_eq (s : PySem.W.SharedT) : obT s = hkT.obs s.abs := obsE_eq (HandSHeadRun.getT_eq s)
def looseT : List Str := ("ShapeError" :: "Missing" :: "UnknownKey" :: "UnknownName" :: "UnknownCell" :: "PastEnd" :: "NothingLeft" :: "InvalidKey" :: "DuplicateKey" :: "InvalidLot" :: "InvalidMark" :: "InvalidRow" :: "InvalidText" :: "NotSearch" :: "InvalidNumbers" :: "AlreadyLiving" :: "NeighbourMissed" :: "TooMany" :: "NotTop" :: "OtherKeys" :: "NotClosed" :: "Barred" :: "Unresolved" :: "NotMeeting" :: "InvalidWord" :: "InvalidNumber" :: "Infeasible" :: "Stuck" :: "Comes" :: "InvalidRule" :: "InvalidItem" :: "InvalidName" :: "DuplicateName" :: "InvalidNodes" :: "InvalidEdge" :: "InvalidWalk" :: "Unsafe" :: "InvalidWall" :: "Untouched" :: "Affordable" :: "NoFilling" :: "HasFilling" :: "InvalidDeed" :: "NameTaken" :: "Refused" :: "DraftRunning" :: "NoDraft" :: "_law_bag" :: "_law_draw" :: "_law_of" :: "_law_same" :: "_law_words" :: "_law_by_place" :: "_law_by_name" :: "_law_sorts" :: "_law_bases" :: "_law_fields" :: "_law_upper" :: "_law_any" :: [])
abbrev iLaw : Nat := 61
end L2.DL.K00

namespace L2.DL.K00
open PySem PySem.W PySem.Calls PyProof.Rows
noncomputable def runS (w : World) (os : OsState) : Option SharedT := HandSHeadRun.endF (HandSHeadRun.stepQ (HandSHeadRun.denQ HandSHeadRun.tabQ) RR.prog w) 16000 RR.prog w os
noncomputable abbrev lk1 (w : World) (s : SharedT) : Bool := HandSHeadRun.looksF RR.prog (boot_heap w.params) s.abs
noncomputable abbrev lk2 (s : SharedT) := HandSHeadRun.seenQ (PySem.W.view RR.prog [iLaw]) looseT (importedModules RR.prog.main.body) (fun s => xlAt (PySem.W.view RR.prog [iLaw]) [] s && recOk RR.toRowW.records s) s.abs
noncomputable abbrev frK (s : SharedT) : Frag := frE (HandSHeadRun.getT s)
noncomputable abbrev lk3 (s : SharedT) : Bool := faT.all fun f => f.ok (frK s)
noncomputable abbrev lk4 (s : SharedT) : Bool := fnT.all fun d => d.ok (frK s)
noncomputable abbrev lk5 (s : SharedT) : List He.FnW := fnT.map fun d => He.fnW (frK s) d.at_
noncomputable abbrev lk6 (s : SharedT) : Bool := exT (frK s)
theorem map_two {α β γ : Type} {o : Option α} {f : α → β} {g : α → γ} {a : β} {b : γ} (h1 : o.map f = some a) (h2 : o.map g = some b) : o.map (fun s => (f s, g s)) = some (a, b) := by
  cases o with
  | none => cases h1
  | some x => cases h1; cases h2; rfl
theorem map_and {α : Type} {o : Option α} {f g : α → Bool} (h1 : o.map f = some true) (h2 : o.map g = some true) : o.map (fun s => f s && g s) = some true := by
  cases o with
  | none => cases h1
  | some x =>
    have e1 : f x = true := Option.some.inj h1
    have e2 : g x = true := Option.some.inj h2
    show some (f x && g x) = _
    rw [e1, e2] <;> rfl
end L2.DL.K00


namespace L2.DL.K00
open PySem PySem.W PySem.Calls PyProof.Rows
set_option maxHeartbeats 0 in
theorem run12 (w : World) (os : OsState) : (runS w os).map (fun s => (lk1 w s, lk2 s)) = some (true, openGood (PySem.W.view RR.prog [iLaw]) looseT) := by kernel_rfl
end L2.DL.K00


namespace L2.DL.K00
open PySem PySem.W PySem.Calls PyProof.Rows
set_option maxHeartbeats 0 in
theorem run345 (w : World) (os : OsState) : (runS w os).map (fun s => ((lk3 s && lk4 s), lk5 s)) = some (true, fnT.map He.DefD.val) := by kernel_rfl
end L2.DL.K00


namespace L2.DL.K00
open PySem PySem.W PySem.Calls PyProof.Rows
set_option maxHeartbeats 0 in
theorem run6 (w : World) (os : OsState) : (runS w os).map (fun s => lk6 s) = some true := by kernel_rfl
end L2.DL.K00


namespace L2.DL.K00
open PySem PySem.Spec PyProof.Rows
def bagC (cs : List Int) (p r m k : Int) : Cell := .lst [.lst (cs.map D.int), .int p, .int r, .int m, .int k]
theorem mul_c {i j : Int} (h1 : 0 ≤ i) (h2 : i < 2 ^ 70) (h3 : 0 ≤ j) (h4 : j < 2 ^ 70) : mulC i j = true := by
  have f : ∀ x : Int, 0 ≤ x → x < 2 ^ 70 → x.natAbs.log2 < 71 := fun x a b => by
    by_cases z : x.natAbs = 0
    · rw [z]; decide
    · have := (Nat.log2_lt z (k := 71)).mpr (by omega)
      exact this
  have := f i h1 h2
  have := f j h3 h4
  exact decide_eq_true (by omega)
theorem draw_a {ν : Sto} {cs : List Int} {p r m k top : Int} (ht : 0 < top) (ht2 : top.natAbs.log2 < 9000) (hr : 0 < r) : G_ldraw [.cell 0, .int top] (bagC cs p r m k :: ν) = .ok (.int (r % top)) (bagC cs p (r / top) m (k + 1) :: ν) := by
  have e1 : ¬ (r = 0) := by omega
  simp only [G_ldraw, g_ldraw, bagC, runD_ap, List.length_cons, List.length_nil, Nat.reduceAdd, Nat.reduceSub, List.map_cons, List.map_nil, List.replicate_succ, List.replicate_zero, List.cons_append, List.nil_append, seqM_ap, sq_nx, sq_rt, stiM_ap, bnd_ap, bo_ok, op2_ap, op2v_ap, op1_ap, cst_ap, lift_so, ret_ap, pek_ap, lett_ap, pekD, List.getElem?_cons_zero, List.getElem?_cons_succ, ix_l, ix50, ix51, ix52, ix53, ix54, isLst, lstUp, lstAt, lstPut, Option.map_some, add_ii, List.set_cons_zero, List.set_cons_succ, ifS_ap, andM_ap, tst_ap, eq_ii, lt_ii, gt_ii, ge_ii, len_l, asBl_b, bf_t, bf_f, bf_d, if_true, if_false, ite_true, ite_false, decide_true, decide_false, setM_ap, put_ap, skp_ap, rtM_ap, ri_rt, int_i, abs_i, ixN50, ixN51, ixN52, ixN53, ixN54, e1, hr, mod_ii ht, fdiv_ii ht ht2]
/-- what is mixed into the bag's number by a lesser cell -/
def mixC (m c : Int) : Int := (m * 43889 + c % 1000639 * 773 + 31) % 2147483587
def mixD (m k : Int) : Int := (m ^ 3 + m * 47111 + k * 110323 + 60089) % 2147483549
def outD (m : Int) : Int := m / 71 + m % 8017 * 59
theorem draw_b {ν : Sto} {cs : List Int} {p m k top : Int} (ht : 0 < top) (ht2 : top.natAbs.log2 < 9000) (hp : ¬ p < cs.length) (hm : 0 ≤ m) (hm2 : m < 2147483587) (hk : 0 ≤ k) (hk2 : k < 1000000) :
    G_ldraw [.cell 0, .int top] (bagC cs p 0 m k :: ν) = .ok (.int (outD (mixD m (k + 1)) % top)) (bagC cs p 0 (mixD m (k + 1)) (k + 1) :: ν) := by
  have p0 : powC m 3 = true := by
    unfold powC
    rw [decide_eq_true (by decide : (0 : Int) ≤ 3), decide_eq_true (by decide : (3 : Int) ≤ 1000000), decide_eq_true (by omega : m.natAbs < 2 ^ 64)] <;> rfl
  have c1 : mulC m 47111 = true := mul_c hm (by omega) (by decide) (by decide)
  have c2 : mulC (k + 1) 110323 = true := mul_c (by omega) (by omega) (by decide) (by decide)
  have q1 : (0 : Int) < 2147483549 := by decide
  have q2 : (0 : Int) < 71 := by decide
  have q3 : (0 : Int) < 8017 := by decide
  have q5 : (71 : Int).natAbs.log2 < 9000 := by decide
  have m1 : 0 ≤ mixD m (k + 1) ∧ mixD m (k + 1) < 2147483549 := ⟨Int.emod_nonneg _ (by decide), Int.emod_lt_of_pos _ (by decide)⟩
  have c3 : mulC (mixD m (k + 1) % 8017) 59 = true := mul_c (Int.emod_nonneg _ (by decide)) (by have := Int.emod_lt_of_pos (mixD m (k + 1)) q3; omega) (by decide) (by decide)
  have z3 : ((3 : Int).toNat) = 3 := rfl
  have z0 : ¬ ((0 : Int) < 0) := by decide
  simp only [G_ldraw, g_ldraw, bagC, runD_ap, List.length_cons, List.length_nil, Nat.reduceAdd, Nat.reduceSub, List.map_cons, List.map_nil, List.replicate_succ, List.replicate_zero, List.cons_append, List.nil_append, seqM_ap, sq_nx, sq_rt, stiM_ap, bnd_ap, bo_ok, op2_ap, op2v_ap, op1_ap, cst_ap, lift_so, ret_ap, pek_ap, lett_ap, pekD, List.getElem?_cons_zero, List.getElem?_cons_succ, ix_l, ix50, ix51, ix52, ix53, ix54, isLst, lstUp, lstAt, lstPut, Option.map_some, add_ii, List.set_cons_zero, List.set_cons_succ, ifS_ap, andM_ap, tst_ap, eq_ii, lt_ii, gt_ii, ge_ii, len_l, asBl_b, bf_t, bf_f, bf_d, if_true, if_false, ite_true, ite_false, decide_true, decide_false, setM_ap, put_ap, skp_ap, rtM_ap, ri_rt, int_i, abs_i, ixN50, ixN51, ixN52, ixN53, ixN54, hp, z0, List.length_map, pow_ii p0, mul_ii c1, mul_ii c2, mod_ii q1, mod_ii q3, fdiv_ii q2 q5, z3]
  rw [← show mixD m (k + 1) = (m ^ 3 + m * 47111 + (k + 1) * 110323 + 60089) % 2147483549 from rfl]
  simp only [runD_ap, List.length_cons, List.length_nil, Nat.reduceAdd, Nat.reduceSub, List.map_cons, List.map_nil, List.replicate_succ, List.replicate_zero, List.cons_append, List.nil_append, seqM_ap, sq_nx, sq_rt, stiM_ap, bnd_ap, bo_ok, op2_ap, op2v_ap, op1_ap, cst_ap, lift_so, ret_ap, pek_ap, lett_ap, pekD, List.getElem?_cons_zero, List.getElem?_cons_succ, ix_l, ix50, ix51, ix52, ix53, ix54, isLst, lstUp, lstAt, lstPut, Option.map_some, add_ii, List.set_cons_zero, List.set_cons_succ, ifS_ap, andM_ap, tst_ap, eq_ii, lt_ii, gt_ii, ge_ii, len_l, asBl_b, bf_t, bf_f, bf_d, if_true, if_false, ite_true, ite_false, decide_true, decide_false, setM_ap, put_ap, skp_ap, rtM_ap, ri_rt, int_i, abs_i, ixN50, ixN51, ixN52, ixN53, ixN54, mul_ii c3, mod_ii ht, mod_ii q3, fdiv_ii q2 q5]
  rfl
theorem draw_c {ν : Sto} {cs : List Int} {p m k top c : Int} (ht : 0 < top) (ht2 : top.natAbs.log2 < 9000) (hp : p < cs.length) (hc : L2.atI (cs.map D.int) p = some (.int c)) (hA : ¬ (10 : Int) ^ 18 ≤ (if c < 0 then -c else c)) (hm : 0 ≤ m) (hm2 : m < 2147483587) (hk : 0 ≤ k) (hk2 : k < 1000000) :
    G_ldraw [.cell 0, .int top] (bagC cs p 0 m k :: ν) = .ok (.int (outD (mixD (mixC m c) (k + 1)) % top)) (bagC cs (p + 1) 0 (mixD (mixC m c) (k + 1)) (k + 1) :: ν) := by
  have a1 : 0 ≤ mixC m c ∧ mixC m c < 2147483587 := ⟨Int.emod_nonneg _ (by decide), Int.emod_lt_of_pos _ (by decide)⟩
  have p0 : powC (mixC m c) 3 = true := by
    unfold powC
    rw [decide_eq_true (by decide : (0 : Int) ≤ 3), decide_eq_true (by decide : (3 : Int) ≤ 1000000), decide_eq_true (by omega : (mixC m c).natAbs < 2 ^ 64)] <;> rfl
  have p1 : powC 10 18 = true := by decide
  have c1 : mulC (mixC m c) 47111 = true := mul_c a1.1 (by omega) (by decide) (by decide)
  have c2 : mulC (k + 1) 110323 = true := mul_c (by omega) (by omega) (by decide) (by decide)
  have c4 : mulC m 43889 = true := mul_c hm (by omega) (by decide) (by decide)
  have q1 : (0 : Int) < 2147483549 := by decide
  have q2 : (0 : Int) < 71 := by decide
  have q3 : (0 : Int) < 8017 := by decide
  have q4 : (0 : Int) < 1000639 := by decide
  have q6 : (0 : Int) < 2147483587 := by decide
  have q5 : (71 : Int).natAbs.log2 < 9000 := by decide
  have c5 : mulC (c % 1000639) 773 = true := mul_c (Int.emod_nonneg _ (by decide)) (by have := Int.emod_lt_of_pos c q4; omega) (by decide) (by decide)
  have m1 : 0 ≤ mixD (mixC m c) (k + 1) ∧ mixD (mixC m c) (k + 1) < 2147483549 := ⟨Int.emod_nonneg _ (by decide), Int.emod_lt_of_pos _ (by decide)⟩
  have c3 : mulC (mixD (mixC m c) (k + 1) % 8017) 59 = true := mul_c (Int.emod_nonneg _ (by decide)) (by have := Int.emod_lt_of_pos (mixD (mixC m c) (k + 1)) q3; omega) (by decide) (by decide)
  have z3 : ((3 : Int).toNat) = 3 := rfl
  have z18 : ((18 : Int).toNat) = 18 := rfl
  have z0 : ¬ ((0 : Int) < 0) := by decide
  simp only [G_ldraw, g_ldraw, bagC, runD_ap, List.length_cons, List.length_nil, Nat.reduceAdd, Nat.reduceSub, List.map_cons, List.map_nil, List.replicate_succ, List.replicate_zero, List.cons_append, List.nil_append, seqM_ap, sq_nx, sq_rt, stiM_ap, bnd_ap, bo_ok, op2_ap, op2v_ap, op1_ap, cst_ap, lift_so, ret_ap, pek_ap, lett_ap, pekD, List.getElem?_cons_zero, List.getElem?_cons_succ, ix_l, ix50, ix51, ix52, ix53, ix54, isLst, lstUp, lstAt, lstPut, Option.map_some, add_ii, List.set_cons_zero, List.set_cons_succ, ifS_ap, andM_ap, tst_ap, eq_ii, lt_ii, gt_ii, ge_ii, len_l, asBl_b, bf_t, bf_f, bf_d, if_true, if_false, ite_true, ite_false, decide_true, decide_false, setM_ap, put_ap, skp_ap, rtM_ap, ri_rt, int_i, abs_i, ixN50, ixN51, ixN52, ixN53, ixN54, hp, z0, List.length_map, hc, pow_ii p1, z18, hA, mul_ii c4, mul_ii c5, mod_ii q4, mod_ii q6]
  rw [← show mixC m c = (m * 43889 + c % 1000639 * 773 + 31) % 2147483587 from rfl]
  simp only [runD_ap, List.length_cons, List.length_nil, Nat.reduceAdd, Nat.reduceSub, List.map_cons, List.map_nil, List.replicate_succ, List.replicate_zero, List.cons_append, List.nil_append, seqM_ap, sq_nx, sq_rt, stiM_ap, bnd_ap, bo_ok, op2_ap, op2v_ap, op1_ap, cst_ap, lift_so, ret_ap, pek_ap, lett_ap, pekD, List.getElem?_cons_zero, List.getElem?_cons_succ, ix_l, ix50, ix51, ix52, ix53, ix54, isLst, lstUp, lstAt, lstPut, Option.map_some, add_ii, List.set_cons_zero, List.set_cons_succ, ifS_ap, andM_ap, tst_ap, eq_ii, lt_ii, gt_ii, ge_ii, len_l, asBl_b, bf_t, bf_f, bf_d, if_true, if_false, ite_true, ite_false, decide_true, decide_false, setM_ap, put_ap, skp_ap, rtM_ap, ri_rt, int_i, abs_i, ixN50, ixN51, ixN52, ixN53, ixN54, pow_ii p0, mul_ii c1, mul_ii c2, mod_ii q1, z3, z0]
  rw [← show mixD (mixC m c) (k + 1) = (mixC m c ^ 3 + mixC m c * 47111 + (k + 1) * 110323 + 60089) % 2147483549 from rfl]
  simp only [runD_ap, List.length_cons, List.length_nil, Nat.reduceAdd, Nat.reduceSub, List.map_cons, List.map_nil, List.replicate_succ, List.replicate_zero, List.cons_append, List.nil_append, seqM_ap, sq_nx, sq_rt, stiM_ap, bnd_ap, bo_ok, op2_ap, op2v_ap, op1_ap, cst_ap, lift_so, ret_ap, pek_ap, lett_ap, pekD, List.getElem?_cons_zero, List.getElem?_cons_succ, ix_l, ix50, ix51, ix52, ix53, ix54, isLst, lstUp, lstAt, lstPut, Option.map_some, add_ii, List.set_cons_zero, List.set_cons_succ, ifS_ap, andM_ap, tst_ap, eq_ii, lt_ii, gt_ii, ge_ii, len_l, asBl_b, bf_t, bf_f, bf_d, if_true, if_false, ite_true, ite_false, decide_true, decide_false, setM_ap, put_ap, skp_ap, rtM_ap, ri_rt, int_i, abs_i, ixN50, ixN51, ixN52, ixN53, ixN54, mul_ii c3, mod_ii ht, mod_ii q3, fdiv_ii q2 q5]
  rfl
theorem draw_d {ν : Sto} {cs : List Int} {p m k top c : Int} (ht : 0 < top) (ht2 : top.natAbs.log2 < 9000) (hp : p < cs.length) (hc : L2.atI (cs.map D.int) p = some (.int c)) (hA : (10 : Int) ^ 18 ≤ (if c < 0 then -c else c)) :
    G_ldraw [.cell 0, .int top] (bagC cs p 0 m k :: ν) = .ok (.int ((if c < 0 then -c else c) % top)) (bagC cs (p + 1) ((if c < 0 then -c else c) / top) m (k + 1) :: ν) := by
  have p1 : powC 10 18 = true := by decide
  have z18 : ((18 : Int).toNat) = 18 := rfl
  generalize hB : (if c < 0 then -c else c) = B at hA ⊢
  have hB0 : 0 < B := Int.lt_of_lt_of_le (by decide) hA
  simp only [G_ldraw, g_ldraw, bagC, runD_ap, List.length_cons, List.length_nil, Nat.reduceAdd, Nat.reduceSub, List.map_cons, List.map_nil, List.replicate_succ, List.replicate_zero, List.cons_append, List.nil_append, seqM_ap, sq_nx, sq_rt, stiM_ap, bnd_ap, bo_ok, op2_ap, op2v_ap, op1_ap, cst_ap, lift_so, ret_ap, pek_ap, lett_ap, pekD, List.getElem?_cons_zero, List.getElem?_cons_succ, ix_l, ix50, ix51, ix52, ix53, ix54, isLst, lstUp, lstAt, lstPut, Option.map_some, add_ii, List.set_cons_zero, List.set_cons_succ, ifS_ap, andM_ap, tst_ap, eq_ii, lt_ii, gt_ii, ge_ii, len_l, asBl_b, bf_t, bf_f, bf_d, if_true, if_false, ite_true, ite_false, decide_true, decide_false, setM_ap, put_ap, skp_ap, rtM_ap, ri_rt, int_i, abs_i, ixN50, ixN51, ixN52, ixN53, ixN54, hp, List.length_map, hc, pow_ii p1, z18, hB, hA, hB0, mod_ii ht, fdiv_ii ht ht2]
/-- what holds of the bag after at most n draws -/
def Bag (n : Int) (ν μ : Sto) : Prop := ∃ (cs : List Int) (p r m k : Int), μ = (bagC cs p r m k :: ν) ∧ 0 ≤ p ∧ 0 ≤ r ∧ 0 ≤ m ∧ m < 2147483587 ∧ 0 ≤ k ∧ k ≤ n
theorem draw_ok {n top : Int} {ν μ : Sto} (B : Bag n ν μ) (hn : n < 1000000) (ht : 0 < top) (ht2 : top.natAbs.log2 < 9000) : ∃ d μ', G_ldraw [.cell 0, .int top] μ = .ok (.int d) μ' ∧ 0 ≤ d ∧ d < top ∧ Bag (n + 1) ν μ' := by
  obtain ⟨cs, p, r, m, k, rfl, h1, h2, h3, h4, h5, h6⟩ := B
  have out : ∀ x : Int, 0 ≤ x % top ∧ x % top < top := fun x => ⟨Int.emod_nonneg _ (by omega), Int.emod_lt_of_pos _ ht⟩
  have mD : ∀ x y : Int, 0 ≤ mixD x y ∧ mixD x y < 2147483587 := fun x y => ⟨Int.emod_nonneg _ (by decide), Int.lt_of_lt_of_le (Int.emod_lt_of_pos _ (by decide)) (by decide)⟩
  by_cases hr : 0 < r
  · exact ⟨_, _, draw_a ht ht2 hr, (out _).1, (out _).2, cs, p, r / top, m, k + 1, rfl, h1, Int.ediv_nonneg h2 (by omega), h3, h4, by omega, by omega⟩
  · have er : r = 0 := by omega
    subst er
    by_cases hp : p < cs.length
    · have hl : p.toNat < cs.length := by omega
      have hc : L2.atI (cs.map D.int) p = some (.int cs[p.toNat]) := atI_nat h1 (by rw [List.getElem?_map, List.getElem?_eq_getElem hl] <;> rfl)
      by_cases hA : (10 : Int) ^ 18 ≤ (if cs[p.toNat] < 0 then -cs[p.toNat] else cs[p.toNat])
      · exact ⟨_, _, draw_d ht ht2 hp hc hA, (out _).1, (out _).2, cs, p + 1, _, m, k + 1, rfl, by omega, Int.ediv_nonneg (Int.le_trans (by decide) hA) (by omega), h3, h4, by omega, by omega⟩
      · exact ⟨_, _, draw_c ht ht2 hp hc hA h3 h4 h5 (by omega), (out _).1, (out _).2, cs, p + 1, 0, _, k + 1, rfl, by omega, by omega, (mD _ _).1, (mD _ _).2, by omega, by omega⟩
    · exact ⟨_, _, draw_b ht ht2 hp h3 h4 h5 (by omega), (out _).1, (out _).2, cs, p, 0, _, k + 1, rfl, h1, by omega, (mD _ _).1, (mD _ _).2, by omega, by omega⟩
theorem draw_pick {n : Int} {ν μ : Sto} {ds : List D} (B : Bag n ν μ) (hn : n < 1000000) (h0 : 0 < ds.length) (h1 : ds.length ≤ 1000) : ∃ d i μ', d ∈ ds ∧ G_ldraw [.cell 0, .int ds.length] μ = .ok (.int i) μ' ∧ L2.atI ds i = some d ∧ Bag (n + 1) ν μ' := by
  have lg : (ds.length : Int).natAbs.log2 < 9000 := by
    have : (ds.length : Int).natAbs = ds.length := Int.natAbs_natCast _
    rw [this]
    exact Nat.lt_of_lt_of_le ((Nat.log2_lt (by omega) (k := 10)).mpr (by omega)) (by decide)
  obtain ⟨i, μ', e, i0, i1, B'⟩ := draw_ok (top := ds.length) B hn (by omega) lg
  have hl : i.toNat < ds.length := by omega
  exact ⟨ds[i.toNat], i, μ', List.getElem_mem hl, e, atI_nat i0 (List.getElem?_eq_getElem hl), B'⟩
theorem of_lst {n : Int} {ν μ : Sto} {ds : List D} (B : Bag n ν μ) (hn : n < 1000000) (h0 : 0 < ds.length) (h1 : ds.length ≤ 1000) : ∃ d μ', d ∈ ds ∧ G_lof [.cell 0, .lst ds] μ = .ok d μ' ∧ Bag (n + 1) ν μ' := by
  obtain ⟨d, i, μ', hd, e, ea, B'⟩ := draw_pick B hn h0 h1
  have e2 : G_lof [.cell 0, .lst ds] μ = .ok d μ' := by
    simp only [G_lof, g_lof, runD_ap, List.length_cons, List.length_nil, Nat.reduceAdd, Nat.reduceSub, List.map_cons, List.map_nil, List.replicate_succ, List.replicate_zero, List.cons_append, List.nil_append, seqM_ap, sq_nx, sq_rt, stiM_ap, bnd_ap, bo_ok, op2_ap, op2v_ap, op1_ap, cst_ap, lift_so, ret_ap, pek_ap, lett_ap, pekD, List.getElem?_cons_zero, List.getElem?_cons_succ, ix_l, ix50, ix51, ix52, ix53, ix54, isLst, lstUp, lstAt, lstPut, Option.map_some, add_ii, List.set_cons_zero, List.set_cons_succ, ifS_ap, andM_ap, tst_ap, eq_ii, lt_ii, gt_ii, ge_ii, len_l, asBl_b, bf_t, bf_f, bf_d, if_true, if_false, ite_true, ite_false, decide_true, decide_false, setM_ap, put_ap, skp_ap, rtM_ap, ri_rt, int_i, abs_i, ixN50, ixN51, ixN52, ixN53, ixN54, calM_ap, acons_ap, anil_ap, e, rb_ok, ea]
  exact ⟨d, μ', hd, e2, B'⟩
theorem of_tup {n : Int} {ν μ : Sto} {ds : List D} (B : Bag n ν μ) (hn : n < 1000000) (h0 : 0 < ds.length) (h1 : ds.length ≤ 1000) : ∃ d μ', d ∈ ds ∧ G_lof [.cell 0, .tup ds] μ = .ok d μ' ∧ Bag (n + 1) ν μ' := by
  obtain ⟨d, i, μ', hd, e, ea, B'⟩ := draw_pick B hn h0 h1
  have e2 : G_lof [.cell 0, .tup ds] μ = .ok d μ' := by
    simp only [G_lof, g_lof, runD_ap, List.length_cons, List.length_nil, Nat.reduceAdd, Nat.reduceSub, List.map_cons, List.map_nil, List.replicate_succ, List.replicate_zero, List.cons_append, List.nil_append, seqM_ap, sq_nx, sq_rt, stiM_ap, bnd_ap, bo_ok, op2_ap, op2v_ap, op1_ap, cst_ap, lift_so, ret_ap, pek_ap, lett_ap, pekD, List.getElem?_cons_zero, List.getElem?_cons_succ, ix_l, ix50, ix51, ix52, ix53, ix54, isLst, lstUp, lstAt, lstPut, Option.map_some, add_ii, List.set_cons_zero, List.set_cons_succ, ifS_ap, andM_ap, tst_ap, eq_ii, lt_ii, gt_ii, ge_ii, len_l, asBl_b, bf_t, bf_f, bf_d, if_true, if_false, ite_true, ite_false, decide_true, decide_false, setM_ap, put_ap, skp_ap, rtM_ap, ri_rt, int_i, abs_i, ixN50, ixN51, ixN52, ixN53, ixN54, calM_ap, acons_ap, anil_ap, e, rb_ok, ea, len_t, ix_t]
  exact ⟨d, μ', hd, e2, B'⟩
/-! ### the bag -/
def mixB (x c : Int) : Int := (x * 48271 + c % 1000639 * 883 + 59) % 2147483579
theorem bag_loop {a : D} {μ : Sto} : ∀ (cs : List Int) (x : Int) (t : Option Ent), 0 ≤ x → x < 2147483579 → ∃ y t', 0 ≤ y ∧ y < 2147483579 ∧
    forL (tgN 2) (setM 1 (op2 modD (op1 intD (op2 addD (op2 addD (op2 mulD (lett 1) (cst (.int 48271))) (op2 mulD (op2 modD (op1 intD (pek 2)) (cst (.int 1000639))) (cst (.int 883)))) (cst (.int 59)))) (cst (.int 2147483579)))) (cs.map D.int)
      [some (.sh a), some (.sh (.int x)), t] μ = .ok .nx [some (.sh a), some (.sh (.int y)), t'] μ
  | [], x, t, h0, h1 => ⟨x, t, h0, h1, rfl⟩
  | c :: cs, x, t, h0, h1 => by
    have q4 : (0 : Int) < 1000639 := by decide
    have q6 : (0 : Int) < 2147483579 := by decide
    have c4 : mulC x 48271 = true := mul_c h0 (by omega) (by decide) (by decide)
    have c5 : mulC (c % 1000639) 883 = true := mul_c (Int.emod_nonneg _ (by decide)) (by have := Int.emod_lt_of_pos c q4; omega) (by decide) (by decide)
    have m1 : 0 ≤ mixB x c ∧ mixB x c < 2147483579 := ⟨Int.emod_nonneg _ (by decide), Int.emod_lt_of_pos _ (by decide)⟩
    obtain ⟨y, t', y0, y1, e⟩ := bag_loop cs (mixB x c) (some (.sh (.int c))) m1.1 m1.2
    refine ⟨y, t', y0, y1, ?_⟩
    rw [← e, List.map_cons, forL_cons]
    simp only [runD_ap, List.length_cons, List.length_nil, Nat.reduceAdd, Nat.reduceSub, List.map_cons, List.map_nil, List.replicate_succ, List.replicate_zero, List.cons_append, List.nil_append, seqM_ap, sq_nx, sq_rt, stiM_ap, bnd_ap, bo_ok, op2_ap, op2v_ap, op1_ap, cst_ap, lift_so, ret_ap, pek_ap, lett_ap, pekD, List.getElem?_cons_zero, List.getElem?_cons_succ, ix_l, ix50, ix51, ix52, ix53, ix54, isLst, lstUp, lstAt, lstPut, Option.map_some, add_ii, List.set_cons_zero, List.set_cons_succ, ifS_ap, andM_ap, tst_ap, eq_ii, lt_ii, gt_ii, ge_ii, len_l, asBl_b, bf_t, bf_f, bf_d, if_true, if_false, ite_true, ite_false, decide_true, decide_false, setM_ap, put_ap, skp_ap, rtM_ap, ri_rt, int_i, abs_i, ixN50, ixN51, ixN52, ixN53, ixN54, tgN_ap, mul_ii c4, mul_ii c5, mod_ii q4, mod_ii q6]
    rfl
theorem cut_ints (ns : List Int) (lo hi : OI) : ∃ cs : List Int, cutD (ns.map D.int) lo hi = cs.map D.int := by
  unfold cutD
  rw [List.length_map]
  exact ⟨_, by rw [← List.map_drop, ← List.map_take]⟩
theorem bag_ok (ns : List Int) (h : ns.length ≤ 63) : ∃ (cs : List Int) (m : Int), G_lbag [.frz (ns.map D.int)] [] = .ow (.lst [.lst (cs.map D.int), .int 0, .int 0, .int m, .int 0]) [] ∧ 0 ≤ m ∧ m < 2147483579 := by
  obtain ⟨cs, ec⟩ := cut_ints ns none (some 63)
  obtain ⟨y, t', y0, y1, e⟩ := bag_loop (a := .frz (ns.map D.int)) (μ := []) cs 12039 none (by decide) (by decide)
  have es : slD (.frz (ns.map D.int)) none (some 63) = some (.lst (cs.map D.int)) := by
    show some (D.lst (cutD (ns.map D.int) none (some 63))) = _
    rw [ec]
  have mk : mkL [.lst (cs.map D.int), .int 0, .int 0, .int y, .int 0] = some (.lst [.lst (cs.map D.int), .int 0, .int 0, .int y, .int 0]) := rfl
  have sq : (seqD (.lst (cs.map D.int))).or (chrs (.lst (cs.map D.int))) = some (cs.map D.int) := rfl
  have ls : listD (.lst (cs.map D.int)) = some (.lst (cs.map D.int)) := rfl
  have ai : asI (.int 63) = some (some 63) := rfl
  refine ⟨cs, y, ?_, y0, y1⟩
  simp only [G_lbag, g_lbag, runD_ap, List.length_cons, List.length_nil, Nat.reduceAdd, Nat.reduceSub, List.map_cons, List.map_nil, List.replicate_succ, List.replicate_zero, List.cons_append, List.nil_append, seqM_ap, sq_nx, sq_rt, stiM_ap, bnd_ap, bo_ok, op2_ap, op2v_ap, op1_ap, cst_ap, lift_so, ret_ap, pek_ap, lett_ap, pekD, List.getElem?_cons_zero, List.getElem?_cons_succ, ix_l, ix50, ix51, ix52, ix53, ix54, isLst, lstUp, lstAt, lstPut, Option.map_some, add_ii, List.set_cons_zero, List.set_cons_succ, ifS_ap, andM_ap, tst_ap, eq_ii, lt_ii, gt_ii, ge_ii, len_l, asBl_b, bf_t, bf_f, bf_d, if_true, if_false, ite_true, ite_false, decide_true, decide_false, setM_ap, put_ap, skp_ap, rtM_ap, ri_rt, int_i, abs_i, ixN50, ixN51, ixN52, ixN53, ixN54, forM_ap, walkA_ap, slM_ap, noP_ap, prt_ap, ai, es, sq, e, rtF_ap, lstM_ap, acons_ap, anil_ap, ls, mk, ri_ro]
end L2.DL.K00

namespace L2.DL.K00
open PySem PySem.Spec PyProof.Rows
section
variable {ρ : Env} {μ : Sto} {T : KT} {E : ET} {tg : List Ty} {cs : List Str} {Ts : List Ty} {t : Ty} {f : Mo D}
theorem isiX_ap : isiX T E tg cs Ts f ρ μ = bo (f ρ μ) fun d ρ μ => match errOf d μ with
  | some (c, _, _) => lift ((errK E tg c Ts).map D.bl) ρ μ
  | none => match tyI cs d μ with
    | some t => lift ((isAny T t Ts).map D.bl) ρ μ
    | none => .no := bnd_ap
theorem isiE_ap : isiE E tg t f ρ μ = bo (f ρ μ) fun d ρ μ => match errOf d μ with
  | some (c, _, _) => lift ((errK E tg c [t]).map D.bl) ρ μ
  | none => .no := bnd_ap
end
/-- trees that _law_same tells to be the same as themselves; errors: UnknownKey alone -/
inductive Sm (μ : Sto) : Nat → D → Prop
  | non (n : Nat) : Sm μ (n + 1) .non
  | bl (n : Nat) (b : Bool) : Sm μ (n + 1) (.bl b)
  | int (n : Nat) (i : Int) : Sm μ (n + 1) (.int i)
  | str (n : Nat) (s : Str) : Sm μ (n + 1) (.str s)
  | dct (n : Nat) {ks : List Key} {vs : List D} (h : ks.Nodup) (e : samesN vs vs = true) : Sm μ (n + 1) (.dct ks vs)
  | err (n : Nat) {k : Nat} {ns : List Str} {vs : List D} (h : errOf (.cell k) μ = some (("UnknownKey" : Str), ns, vs)) : Sm μ (n + 1) (.cell k)
  | tup (n : Nat) {ds : List D} (hl : ds.length ≤ 1000) (h : ∀ d ∈ ds, Sm μ n d) : Sm μ (n + 1) (.tup ds)
  | lst (n : Nat) {ds : List D} (hl : ds.length ≤ 1000) (h : ∀ d ∈ ds, Sm μ n d) : Sm μ (n + 1) (.lst ds)
theorem Sm.up {μ : Sto} {n : Nat} {d : D} (h : Sm μ n d) : Sm μ (n + 1) d := by
  induction h with
  | non n => exact .non _
  | bl n b => exact .bl _ b
  | int n i => exact .int _ i
  | str n s => exact .str _ s
  | dct n h e => exact .dct _ h e
  | err n h => exact .err _ h
  | tup n hl _ ih => exact .tup _ hl ih
  | lst n hl _ ih => exact .lst _ hl ih
theorem Sm.le {μ : Sto} {n m : Nat} {d : D} (h : Sm μ n d) (hl : n ≤ m) : Sm μ m d := by
  induction hl with
  | refl => exact h
  | step _ ih => exact ih.up
theorem lc_same {G : Fn} {μ : Sto} {a b : Option Ent} : ∀ (ds acc : List D), (∀ d ∈ ds, G [d, d] μ = .ok (.bl true) μ) → acc.length + ds.length < lineN →
    lcGo [2, 3] (tgT 2 (tgCons (tgN 2) (tgCons (tgN 3) tgNil))) (ret true) (calM G (acons (lett 2) (acons (lett 3) anil))) (zipL ds ds) acc [a, b, none, none] μ = .ok (acc ++ List.replicate ds.length (.bl true)) [a, b, none, none] μ
  | [], acc, _, _ => by
    show O.ok acc _ _ = _
    rw [List.length_nil, List.replicate_zero, List.append_nil]
  | d :: ds, acc, h, hl => by
    have e1 := h d List.mem_cons_self
    have ih := lc_same (a := a) (b := b) ds (acc ++ [.bl true]) (fun x hx => h x (List.mem_cons_of_mem _ hx)) (by rw [List.length_append, List.length_singleton]; rw [List.length_cons] at hl; omega)
    have hacc : acc.length < lineN := by rw [List.length_cons] at hl; omega
    have e2 : calM G (acons (lett 2) (acons (lett 3) anil)) [a, b, some (.sh d), some (.sh d)] μ = .ok (.bl true) [a, b, some (.sh d), some (.sh d)] μ := by
      simp only [runD_ap, List.length_cons, List.length_nil, Nat.reduceAdd, Nat.reduceSub, List.map_cons, List.map_nil, List.replicate_succ, List.replicate_zero, List.cons_append, List.nil_append, seqM_ap, sq_nx, sq_rt, stiM_ap, bnd_ap, bo_ok, op2_ap, op2v_ap, op1_ap, cst_ap, lift_so, ret_ap, pek_ap, lett_ap, pekD, List.getElem?_cons_zero, List.getElem?_cons_succ, ix_l, ix50, ix51, ix52, ix53, ix54, isLst, lstUp, lstAt, lstPut, Option.map_some, add_ii, List.set_cons_zero, List.set_cons_succ, ifS_ap, andM_ap, tst_ap, eq_ii, lt_ii, gt_ii, ge_ii, len_l, asBl_b, bf_t, bf_f, bf_d, if_true, if_false, ite_true, ite_false, decide_true, decide_false, setM_ap, put_ap, skp_ap, rtM_ap, ri_rt, int_i, abs_i, ixN50, ixN51, ixN52, ixN53, ixN54, calM_ap, acons_ap, anil_ap, e1, rb_ok]
    have e3 : zipL (d :: ds) (d :: ds) = .tup [d, d] :: zipL ds ds := rfl
    have e4 : tgT 2 (tgCons (tgN 2) (tgCons (tgN 3) tgNil)) (.tup [d, d]) [a, b, none, none] μ = .ok () [a, b, some (.sh d), some (.sh d)] μ := rfl
    rw [e3]
    unfold lcGo
    simp only [e4, ret_ap, e2, hacc, if_true]
    have e5 : wipD [a, b, some (.sh d), some (.sh d)] [2, 3] = [a, b, none, none] := rfl
    rw [e5, ih, List.append_assoc, List.length_cons, List.replicate_succ] <;> rfl
theorem all_true : ∀ n : Nat, allD (.lst (List.replicate n (.bl true))) = some (.bl true) := fun n => by
  have h : ∀ n : Nat, blsOf (List.replicate n (.bl true)) = some (List.replicate n true) := fun n => by
    induction n with
    | zero => rfl
    | succ n ih =>
      rw [List.replicate_succ, List.replicate_succ]
      show (blsOf (List.replicate n (D.bl true))).map (true :: ·) = _
      rw [ih] <;> rfl
  show (blsOf (List.replicate n (D.bl true))).map _ = _
  rw [h n]
  show some (D.bl _) = _
  congr 2
  rw [List.all_eq_true]
  intro x hx
  exact List.eq_of_mem_replicate hx
theorem same_tup {G : Fn} {μ : Sto} {ds : List D} (hl : ds.length ≤ 1000) (h : ∀ d ∈ ds, G [d, d] μ = .ok (.bl true) μ) : runD 2 4 (g_lsame G) [.tup ds, .tup ds] μ = .ok (.bl true) μ := by
  have lc := lc_same (a := some (.sh (.tup ds))) (b := some (.sh (.tup ds))) ds [] h (by show 0 + ds.length < 16777216; omega)
  have z : zipD [.tup ds, .tup ds] = some (zipL ds ds) := rfl
  have e0 : errOf (D.tup ds) μ = none := rfl
  have t1 : tyI ocT (D.tup ds) μ = some (.b "tuple") := rfl
  have a1 : isAny ktT (.b "tuple") [.b "list", .b "tuple"] = some true := rfl
  have a2 : ∃ k, isAny ktT (.b "tuple") [.b "list"] = some k := ⟨_, rfl⟩
  have a3 : ∃ k, isAny ktT (.b "tuple") [.b "tuple"] = some k := ⟨_, rfl⟩
  obtain ⟨k2, i2⟩ := a2
  obtain ⟨k3, i3⟩ := a3
  have n2 : neD (.bl k2) (.bl k2) = some (.bl false) := by rw [ne_bb, decide_eq_true rfl] <;> rfl
  have n3 : neD (.bl k3) (.bl k3) = some (.bl false) := by rw [ne_bb, decide_eq_true rfl] <;> rfl
  have ln : lenD (.tup ds) = some (.int ds.length) := rfl
  have lcA : lcAll [2, 3] (tgT 2 (tgCons (tgN 2) (tgCons (tgN 3) tgNil))) (ret true) (calM G (acons (lett 2) (acons (lett 3) anil))) (zipL ds ds) [some (.sh (.tup ds)), some (.sh (.tup ds)), none, none] μ = .ok (.lst (List.replicate ds.length (.bl true))) [some (.sh (.tup ds)), some (.sh (.tup ds)), none, none] μ := by
    unfold lcAll
    have e5 : wipD [some (.sh (.tup ds)), some (.sh (.tup ds)), none, none] [2, 3] = [some (.sh (.tup ds)), some (.sh (.tup ds)), none, none] := rfl
    rw [e5, lc]
    show O.ok (D.lst ([] ++ List.replicate ds.length (.bl true))) _ μ = _
    rw [List.nil_append] <;> rfl
  simp only [g_lsame, runD_ap, List.length_cons, List.length_nil, Nat.reduceAdd, Nat.reduceSub, List.map_cons, List.map_nil, List.replicate_succ, List.replicate_zero, List.cons_append, List.nil_append, seqM_ap, sq_nx, sq_rt, stiM_ap, bnd_ap, bo_ok, op2_ap, op2v_ap, op1_ap, cst_ap, lift_so, ret_ap, pek_ap, lett_ap, pekD, List.getElem?_cons_zero, List.getElem?_cons_succ, ix_l, ix50, ix51, ix52, ix53, ix54, isLst, lstUp, lstAt, lstPut, Option.map_some, add_ii, List.set_cons_zero, List.set_cons_succ, ifS_ap, andM_ap, tst_ap, eq_ii, lt_ii, gt_ii, ge_ii, len_l, asBl_b, bf_t, bf_f, bf_d, if_true, if_false, ite_true, ite_false, decide_true, decide_false, setM_ap, put_ap, skp_ap, rtM_ap, ri_rt, int_i, abs_i, ixN50, ixN51, ixN52, ixN53, ixN54, isiX_ap, e0, t1, a1, i2, i3, n2, n3, orM_ap, tru_ap, tru_b, eq_ii, ln, andV_ap, zipM_ap, acons_ap, anil_ap, lcM_ap, z, lcA, all_true]
theorem same_lst {G : Fn} {μ : Sto} {ds : List D} (hl : ds.length ≤ 1000) (h : ∀ d ∈ ds, G [d, d] μ = .ok (.bl true) μ) : runD 2 4 (g_lsame G) [.lst ds, .lst ds] μ = .ok (.bl true) μ := by
  have lc := lc_same (a := some (.sh (.lst ds))) (b := some (.sh (.lst ds))) ds [] h (by show 0 + ds.length < 16777216; omega)
  have z : zipD [.lst ds, .lst ds] = some (zipL ds ds) := rfl
  have e0 : errOf (D.lst ds) μ = none := rfl
  have t1 : tyI ocT (D.lst ds) μ = some (.b "list") := rfl
  have a1 : isAny ktT (.b "list") [.b "list", .b "tuple"] = some true := rfl
  have a2 : ∃ k, isAny ktT (.b "list") [.b "list"] = some k := ⟨_, rfl⟩
  have a3 : ∃ k, isAny ktT (.b "list") [.b "tuple"] = some k := ⟨_, rfl⟩
  obtain ⟨k2, i2⟩ := a2
  obtain ⟨k3, i3⟩ := a3
  have n2 : neD (.bl k2) (.bl k2) = some (.bl false) := by rw [ne_bb, decide_eq_true rfl] <;> rfl
  have n3 : neD (.bl k3) (.bl k3) = some (.bl false) := by rw [ne_bb, decide_eq_true rfl] <;> rfl
  have ln : lenD (.lst ds) = some (.int ds.length) := rfl
  have lcA : lcAll [2, 3] (tgT 2 (tgCons (tgN 2) (tgCons (tgN 3) tgNil))) (ret true) (calM G (acons (lett 2) (acons (lett 3) anil))) (zipL ds ds) [some (.sh (.lst ds)), some (.sh (.lst ds)), none, none] μ = .ok (.lst (List.replicate ds.length (.bl true))) [some (.sh (.lst ds)), some (.sh (.lst ds)), none, none] μ := by
    unfold lcAll
    have e5 : wipD [some (.sh (.lst ds)), some (.sh (.lst ds)), none, none] [2, 3] = [some (.sh (.lst ds)), some (.sh (.lst ds)), none, none] := rfl
    rw [e5, lc]
    show O.ok (D.lst ([] ++ List.replicate ds.length (.bl true))) _ μ = _
    rw [List.nil_append] <;> rfl
  simp only [g_lsame, runD_ap, List.length_cons, List.length_nil, Nat.reduceAdd, Nat.reduceSub, List.map_cons, List.map_nil, List.replicate_succ, List.replicate_zero, List.cons_append, List.nil_append, seqM_ap, sq_nx, sq_rt, stiM_ap, bnd_ap, bo_ok, op2_ap, op2v_ap, op1_ap, cst_ap, lift_so, ret_ap, pek_ap, lett_ap, pekD, List.getElem?_cons_zero, List.getElem?_cons_succ, ix_l, ix50, ix51, ix52, ix53, ix54, isLst, lstUp, lstAt, lstPut, Option.map_some, add_ii, List.set_cons_zero, List.set_cons_succ, ifS_ap, andM_ap, tst_ap, eq_ii, lt_ii, gt_ii, ge_ii, len_l, asBl_b, bf_t, bf_f, bf_d, if_true, if_false, ite_true, ite_false, decide_true, decide_false, setM_ap, put_ap, skp_ap, rtM_ap, ri_rt, int_i, abs_i, ixN50, ixN51, ixN52, ixN53, ixN54, isiX_ap, e0, t1, a1, i2, i3, n2, n3, orM_ap, tru_ap, tru_b, eq_ii, ln, andV_ap, zipM_ap, acons_ap, anil_ap, lcM_ap, z, lcA, all_true]
theorem same_ok {μ : Sto} : ∀ {n : Nat} {d : D}, Sm μ n d → GN_lsame n [d, d] μ = .ok (.bl true) μ := by
  intro n d h
  induction h with
  | non n => rfl
  | bl n b =>
    have e : GN_lsame (n + 1) [.bl b, .bl b] μ = .ok (.bl (decide (b = b))) μ := rfl
    rw [e, decide_eq_true rfl]
  | int n i =>
    have e : GN_lsame (n + 1) [.int i, .int i] μ = .ok (.bl (decide (i = i))) μ := rfl
    rw [e, decide_eq_true rfl]
  | str n s =>
    have e : GN_lsame (n + 1) [.str s, .str s] μ = .ok (.bl (decide (s = s))) μ := rfl
    rw [e, decide_eq_true rfl]
  | @dct n ks vs h e =>
    have q : eqM (.dct ks vs) (.dct ks vs) = some (.bl true) := by
      show ((eqD (.dct ks vs) (.dct ks vs)).or (dctT (.dct ks vs) (.dct ks vs))).or (dctN (.dct ks vs) (.dct ks vs)) = _
      have e1 : eqD (.dct ks vs) (.dct ks vs) = none := rfl
      have e2 : dctN (.dct ks vs) (.dct ks vs) = some (.bl true) := if_pos ⟨rfl, h, e⟩
      rw [e1, e2]
      by_cases hc : ks = ks ∧ ks.Nodup ∧ samesS vs vs = true
      · rw [show dctT (.dct ks vs) (.dct ks vs) = some (.bl true) from if_pos hc] <;> rfl
      · rw [show dctT (.dct ks vs) (.dct ks vs) = none from if_neg hc] <;> rfl
    have e0 : errOf (.dct ks vs) μ = none := rfl
    have en : eqN ["UnknownKey"] 0 1 [some (.sh (.dct ks vs)), some (.sh (.dct ks vs)), none, none] μ = .ok (.bl true) [some (.sh (.dct ks vs)), some (.sh (.dct ks vs)), none, none] μ := by
      show op2 eqM (lett 0) (pek 1) _ _ = _
      simp only [runD_ap, List.length_cons, List.length_nil, Nat.reduceAdd, Nat.reduceSub, List.map_cons, List.map_nil, List.replicate_succ, List.replicate_zero, List.cons_append, List.nil_append, seqM_ap, sq_nx, sq_rt, stiM_ap, bnd_ap, bo_ok, op2_ap, op2v_ap, op1_ap, cst_ap, lift_so, ret_ap, pek_ap, lett_ap, pekD, List.getElem?_cons_zero, List.getElem?_cons_succ, ix_l, ix50, ix51, ix52, ix53, ix54, isLst, lstUp, lstAt, lstPut, Option.map_some, add_ii, List.set_cons_zero, List.set_cons_succ, ifS_ap, andM_ap, tst_ap, eq_ii, lt_ii, gt_ii, ge_ii, len_l, asBl_b, bf_t, bf_f, bf_d, if_true, if_false, ite_true, ite_false, decide_true, decide_false, setM_ap, put_ap, skp_ap, rtM_ap, ri_rt, int_i, abs_i, ixN50, ixN51, ixN52, ixN53, ixN54, q]
    have t1 : tyI ocT (.dct ks vs) μ = some (.b "dict") := rfl
    have j1 : isAny ktT (.b "dict") [.b "list", .b "tuple"] = some false := rfl
    have j2 : isAny ktT (.b "dict") [.b "bool"] = some false := rfl
    have j3 : isAny ktT (.b "dict") [.b "int"] = some false := rfl
    have j4 : isAny ktT (.b "dict") [.b "str"] = some false := rfl
    have nn : isND false (.dct ks vs) .non = some (.bl false) := rfl
    show runD 2 4 (g_lsame (GN_lsame n)) _ μ = _
    simp only [g_lsame, runD_ap, List.length_cons, List.length_nil, Nat.reduceAdd, Nat.reduceSub, List.map_cons, List.map_nil, List.replicate_succ, List.replicate_zero, List.cons_append, List.nil_append, seqM_ap, sq_nx, sq_rt, stiM_ap, bnd_ap, bo_ok, op2_ap, op2v_ap, op1_ap, cst_ap, lift_so, ret_ap, pek_ap, lett_ap, pekD, List.getElem?_cons_zero, List.getElem?_cons_succ, ix_l, ix50, ix51, ix52, ix53, ix54, isLst, lstUp, lstAt, lstPut, Option.map_some, add_ii, List.set_cons_zero, List.set_cons_succ, ifS_ap, andM_ap, tst_ap, eq_ii, lt_ii, gt_ii, ge_ii, len_l, asBl_b, bf_t, bf_f, bf_d, if_true, if_false, ite_true, ite_false, decide_true, decide_false, setM_ap, put_ap, skp_ap, rtM_ap, ri_rt, int_i, abs_i, ixN50, ixN51, ixN52, ixN53, ixN54, isiX_ap, e0, t1, j1, j2, j3, j4, orM_ap, tru_ap, tru_b, nn, en]
  | @err n k ns vs h =>
    have en : eqN ["UnknownKey"] 0 1 [some (.sh (.cell k)), some (.sh (.cell k)), none, none] μ = .ok (.bl true) [some (.sh (.cell k)), some (.sh (.cell k)), none, none] μ := by
      show (match errOf (.cell k) μ with
        | some (c, _, _) => if k = k ∧ c ∈ (["UnknownKey"] : List Str) then O.ok (D.bl true) _ μ else .no
        | none => .no) = _
      rw [h]
      exact if_pos ⟨rfl, by decide⟩
    have j1 : errK etT etG "UnknownKey" [.b "list", .b "tuple"] = some false := by decide +kernel
    have j2 : errK etT etG "UnknownKey" [.b "bool"] = some false := by decide +kernel
    have j3 : errK etT etG "UnknownKey" [.b "int"] = some false := by decide +kernel
    have j4 : errK etT etG "UnknownKey" [.b "str"] = some false := by decide +kernel
    have nn : isND false (.cell k) .non = some (.bl false) := rfl
    show runD 2 4 (g_lsame (GN_lsame n)) _ μ = _
    simp only [g_lsame, runD_ap, List.length_cons, List.length_nil, Nat.reduceAdd, Nat.reduceSub, List.map_cons, List.map_nil, List.replicate_succ, List.replicate_zero, List.cons_append, List.nil_append, seqM_ap, sq_nx, sq_rt, stiM_ap, bnd_ap, bo_ok, op2_ap, op2v_ap, op1_ap, cst_ap, lift_so, ret_ap, pek_ap, lett_ap, pekD, List.getElem?_cons_zero, List.getElem?_cons_succ, ix_l, ix50, ix51, ix52, ix53, ix54, isLst, lstUp, lstAt, lstPut, Option.map_some, add_ii, List.set_cons_zero, List.set_cons_succ, ifS_ap, andM_ap, tst_ap, eq_ii, lt_ii, gt_ii, ge_ii, len_l, asBl_b, bf_t, bf_f, bf_d, if_true, if_false, ite_true, ite_false, decide_true, decide_false, setM_ap, put_ap, skp_ap, rtM_ap, ri_rt, int_i, abs_i, ixN50, ixN51, ixN52, ixN53, ixN54, isiX_ap, h, j1, j2, j3, j4, orM_ap, tru_ap, tru_b, nn, en]
  | @tup n ds hl _ ih => exact same_tup hl ih
  | @lst n ds hl _ ih => exact same_lst hl ih
end L2.DL.K00

namespace L2.DL.K00
open PySem PySem.Spec PyProof.Rows
/-- the 45 errors of p, q, r, s -/
def EL (p q r s : D) : List Cell := .err "InvalidKey" ["value", "code"] [p, .str "InvalidKey"] :: .err "DuplicateKey" ["key", "code"] [p, .str "DuplicateKey"] :: .err "InvalidLot" ["value", "code"] [p, .str "InvalidLot"] :: .err "InvalidMark" ["value", "code"] [p, .str "InvalidMark"] :: .err "InvalidRow" ["at", "code"] [p, .str "InvalidRow"] :: .err "InvalidText" ["at", "code"] [p, .str "InvalidText"] :: .err "NotSearch" ["key", "code"] [p, .str "NotSearch"] :: .err "InvalidNumbers" ["at", "code"] [p, .str "InvalidNumbers"] :: .err "AlreadyLiving" ["key", "code"] [p, .str "AlreadyLiving"] :: .err "NeighbourMissed" ["neighbour", "key", "code"] [q, p, .str "NeighbourMissed"] :: .err "TooMany" ["count", "what", "code"] [q, p, .str "TooMany"] :: .err "NotTop" ["key", "code"] [p, .str "NotTop"] :: .err "OtherKeys" ["key", "code"] [p, .str "OtherKeys"] :: .err "NotClosed" ["needed", "key", "code"] [q, p, .str "NotClosed"] :: .err "Barred" ["needed", "key", "code"] [q, p, .str "Barred"] :: .err "Unresolved" ["last", "first", "code"] [q, p, .str "Unresolved"] :: .err "NotMeeting" ["x", "k", "code"] [q, p, .str "NotMeeting"] :: .err "InvalidWord" ["value", "code"] [p, .str "InvalidWord"] :: .err "InvalidNumber" ["value", "code"] [p, .str "InvalidNumber"] :: .err "Infeasible" ["x", "k", "j", "i", "code"] [s, r, q, p, .str "Infeasible"] :: .err "Stuck" ["key", "moment", "code"] [q, p, .str "Stuck"] :: .err "Comes" ["moment", "code"] [p, .str "Comes"] :: .err "InvalidRule" ["at", "code"] [p, .str "InvalidRule"] :: .err "InvalidItem" ["item", "at", "code"] [q, p, .str "InvalidItem"] :: .err "InvalidName" ["value", "code"] [p, .str "InvalidName"] :: .err "DuplicateName" ["name", "code"] [p, .str "DuplicateName"] :: .err "InvalidNodes" ["code"] [.str "InvalidNodes"] :: .err "InvalidEdge" ["at", "code"] [p, .str "InvalidEdge"] :: .err "InvalidWalk" ["at", "code"] [p, .str "InvalidWalk"] :: .err "Unsafe" ["walk", "code"] [p, .str "Unsafe"] :: .err "InvalidWall" ["value", "code"] [p, .str "InvalidWall"] :: .err "Untouched" ["key", "code"] [p, .str "Untouched"] :: .err "Affordable" ["cells", "code"] [p, .str "Affordable"] :: .err "NoFilling" ["code"] [.str "NoFilling"] :: .err "HasFilling" ["code"] [.str "HasFilling"] :: .err "InvalidDeed" ["at", "code"] [p, .str "InvalidDeed"] :: .err "NameTaken" ["name", "code"] [p, .str "NameTaken"] :: .err "Refused" ["why", "at", "code"] [q, p, .str "Refused"] :: .err "DraftRunning" ["code"] [.str "DraftRunning"] :: .err "NoDraft" ["code"] [.str "NoDraft"] :: .err "UnknownKey" ["key", "code"] [p, .str "UnknownKey"] :: .err "UnknownName" ["name", "code"] [p, .str "UnknownName"] :: .err "UnknownCell" ["value", "code"] [p, .str "UnknownCell"] :: .err "PastEnd" ["count", "number", "code"] [q, p, .str "PastEnd"] :: .err "NothingLeft" ["code"] [.str "NothingLeft"] :: []
def mkP : List (Mo D) := (errM "InvalidKey" L_InvalidKey 1 (kwD 1 0 [0] [] (acons (lett 0) anil) anil)) :: (errM "DuplicateKey" L_DuplicateKey 1 (kwD 1 0 [0] [] (acons (lett 0) anil) anil)) :: (errM "InvalidLot" L_InvalidLot 1 (kwD 1 0 [0] [] (acons (lett 0) anil) anil)) :: (errM "InvalidMark" L_InvalidMark 1 (kwD 1 0 [0] [] (acons (lett 0) anil) anil)) :: (errM "InvalidRow" L_InvalidRow 1 (kwD 1 0 [0] [] (acons (lett 0) anil) anil)) :: (errM "InvalidText" L_InvalidText 1 (kwD 1 0 [0] [] (acons (lett 0) anil) anil)) :: (errM "NotSearch" L_NotSearch 1 (kwD 1 0 [0] [] (acons (lett 0) anil) anil)) :: (errM "InvalidNumbers" L_InvalidNumbers 1 (kwD 1 0 [0] [] (acons (lett 0) anil) anil)) :: (errM "AlreadyLiving" L_AlreadyLiving 1 (kwD 1 0 [0] [] (acons (lett 0) anil) anil)) :: (errM "NeighbourMissed" L_NeighbourMissed 2 (kwD 2 0 [0, 1] [] (acons (lett 0) (acons (lett 1) anil)) anil)) :: (errM "TooMany" L_TooMany 2 (kwD 2 0 [0, 1] [] (acons (lett 0) (acons (lett 1) anil)) anil)) :: (errM "NotTop" L_NotTop 1 (kwD 1 0 [0] [] (acons (lett 0) anil) anil)) :: (errM "OtherKeys" L_OtherKeys 1 (kwD 1 0 [0] [] (acons (lett 0) anil) anil)) :: (errM "NotClosed" L_NotClosed 2 (kwD 2 0 [0, 1] [] (acons (lett 0) (acons (lett 1) anil)) anil)) :: (errM "Barred" L_Barred 2 (kwD 2 0 [0, 1] [] (acons (lett 0) (acons (lett 1) anil)) anil)) :: (errM "Unresolved" L_Unresolved 2 (kwD 2 0 [0, 1] [] (acons (lett 0) (acons (lett 1) anil)) anil)) :: (errM "NotMeeting" L_NotMeeting 2 (kwD 2 0 [0, 1] [] (acons (lett 0) (acons (lett 1) anil)) anil)) :: (errM "InvalidWord" L_InvalidWord 1 (kwD 1 0 [0] [] (acons (lett 0) anil) anil)) :: (errM "InvalidNumber" L_InvalidNumber 1 (kwD 1 0 [0] [] (acons (lett 0) anil) anil)) :: (errM "Infeasible" L_Infeasible 4 (kwD 4 0 [0, 1, 2, 3] [] (acons (lett 0) (acons (lett 1) (acons (lett 2) (acons (lett 3) anil)))) anil)) :: (errM "Stuck" L_Stuck 2 (kwD 2 0 [0, 1] [] (acons (lett 0) (acons (lett 1) anil)) anil)) :: (errM "Comes" L_Comes 1 (kwD 1 0 [0] [] (acons (lett 0) anil) anil)) :: (errM "InvalidRule" L_InvalidRule 1 (kwD 1 0 [0] [] (acons (lett 0) anil) anil)) :: (errM "InvalidItem" L_InvalidItem 2 (kwD 2 0 [0, 1] [] (acons (lett 0) (acons (lett 1) anil)) anil)) :: (errM "InvalidName" L_InvalidName 1 (kwD 1 0 [0] [] (acons (lett 0) anil) anil)) :: (errM "DuplicateName" L_DuplicateName 1 (kwD 1 0 [0] [] (acons (lett 0) anil) anil)) :: (errM "InvalidNodes" L_InvalidNodes 0 (kwD 0 0 [] [] anil anil)) :: (errM "InvalidEdge" L_InvalidEdge 1 (kwD 1 0 [0] [] (acons (lett 0) anil) anil)) :: (errM "InvalidWalk" L_InvalidWalk 1 (kwD 1 0 [0] [] (acons (lett 0) anil) anil)) :: (errM "Unsafe" L_Unsafe 1 (kwD 1 0 [0] [] (acons (lett 0) anil) anil)) :: (errM "InvalidWall" L_InvalidWall 1 (kwD 1 0 [0] [] (acons (lett 0) anil) anil)) :: (errM "Untouched" L_Untouched 1 (kwD 1 0 [0] [] (acons (lett 0) anil) anil)) :: (errM "Affordable" L_Affordable 1 (kwD 1 0 [0] [] (acons (lett 0) anil) anil)) :: (errM "NoFilling" L_NoFilling 0 (kwD 0 0 [] [] anil anil)) :: (errM "HasFilling" L_HasFilling 0 (kwD 0 0 [] [] anil anil)) :: (errM "InvalidDeed" L_InvalidDeed 1 (kwD 1 0 [0] [] (acons (lett 0) anil) anil)) :: (errM "NameTaken" L_NameTaken 1 (kwD 1 0 [0] [] (acons (lett 0) anil) anil)) :: (errM "Refused" L_Refused 2 (kwD 2 0 [0, 1] [] (acons (lett 0) (acons (lett 1) anil)) anil)) :: (errM "DraftRunning" L_DraftRunning 0 (kwD 0 0 [] [] anil anil)) :: (errM "NoDraft" L_NoDraft 0 (kwD 0 0 [] [] anil anil)) :: (errM "UnknownKey" L_UnknownKey 1 (kwD 1 0 [0] [] (acons (lett 0) anil) anil)) :: (errM "UnknownName" L_UnknownName 1 (kwD 1 0 [0] [] (acons (lett 0) anil) anil)) :: (errM "UnknownCell" L_UnknownCell 1 (kwD 1 0 [0] [] (acons (lett 0) anil) anil)) :: (errM "PastEnd" L_PastEnd 2 (kwD 2 0 [0, 1] [] (acons (lett 0) (acons (lett 1) anil)) anil)) :: (errM "NothingLeft" L_NothingLeft 0 (kwD 0 0 [] [] anil anil)) :: []
def mkN : List (Mo D) := (errM "InvalidKey" L_InvalidKey 1 (kwD 0 1 [0] [] anil (acons (lett 0) anil))) :: (errM "DuplicateKey" L_DuplicateKey 1 (kwD 0 1 [0] [] anil (acons (lett 0) anil))) :: (errM "InvalidLot" L_InvalidLot 1 (kwD 0 1 [0] [] anil (acons (lett 0) anil))) :: (errM "InvalidMark" L_InvalidMark 1 (kwD 0 1 [0] [] anil (acons (lett 0) anil))) :: (errM "InvalidRow" L_InvalidRow 1 (kwD 0 1 [0] [] anil (acons (lett 0) anil))) :: (errM "InvalidText" L_InvalidText 1 (kwD 0 1 [0] [] anil (acons (lett 0) anil))) :: (errM "NotSearch" L_NotSearch 1 (kwD 0 1 [0] [] anil (acons (lett 0) anil))) :: (errM "InvalidNumbers" L_InvalidNumbers 1 (kwD 0 1 [0] [] anil (acons (lett 0) anil))) :: (errM "AlreadyLiving" L_AlreadyLiving 1 (kwD 0 1 [0] [] anil (acons (lett 0) anil))) :: (errM "NeighbourMissed" L_NeighbourMissed 2 (kwD 0 2 [1, 0] [] anil (acons (lett 1) (acons (lett 0) anil)))) :: (errM "TooMany" L_TooMany 2 (kwD 0 2 [1, 0] [] anil (acons (lett 1) (acons (lett 0) anil)))) :: (errM "NotTop" L_NotTop 1 (kwD 0 1 [0] [] anil (acons (lett 0) anil))) :: (errM "OtherKeys" L_OtherKeys 1 (kwD 0 1 [0] [] anil (acons (lett 0) anil))) :: (errM "NotClosed" L_NotClosed 2 (kwD 0 2 [1, 0] [] anil (acons (lett 1) (acons (lett 0) anil)))) :: (errM "Barred" L_Barred 2 (kwD 0 2 [1, 0] [] anil (acons (lett 1) (acons (lett 0) anil)))) :: (errM "Unresolved" L_Unresolved 2 (kwD 0 2 [1, 0] [] anil (acons (lett 1) (acons (lett 0) anil)))) :: (errM "NotMeeting" L_NotMeeting 2 (kwD 0 2 [1, 0] [] anil (acons (lett 1) (acons (lett 0) anil)))) :: (errM "InvalidWord" L_InvalidWord 1 (kwD 0 1 [0] [] anil (acons (lett 0) anil))) :: (errM "InvalidNumber" L_InvalidNumber 1 (kwD 0 1 [0] [] anil (acons (lett 0) anil))) :: (errM "Infeasible" L_Infeasible 4 (kwD 0 4 [3, 2, 1, 0] [] anil (acons (lett 3) (acons (lett 2) (acons (lett 1) (acons (lett 0) anil)))))) :: (errM "Stuck" L_Stuck 2 (kwD 0 2 [1, 0] [] anil (acons (lett 1) (acons (lett 0) anil)))) :: (errM "Comes" L_Comes 1 (kwD 0 1 [0] [] anil (acons (lett 0) anil))) :: (errM "InvalidRule" L_InvalidRule 1 (kwD 0 1 [0] [] anil (acons (lett 0) anil))) :: (errM "InvalidItem" L_InvalidItem 2 (kwD 0 2 [1, 0] [] anil (acons (lett 1) (acons (lett 0) anil)))) :: (errM "InvalidName" L_InvalidName 1 (kwD 0 1 [0] [] anil (acons (lett 0) anil))) :: (errM "DuplicateName" L_DuplicateName 1 (kwD 0 1 [0] [] anil (acons (lett 0) anil))) :: (errM "InvalidNodes" L_InvalidNodes 0 (kwD 0 0 [] [] anil anil)) :: (errM "InvalidEdge" L_InvalidEdge 1 (kwD 0 1 [0] [] anil (acons (lett 0) anil))) :: (errM "InvalidWalk" L_InvalidWalk 1 (kwD 0 1 [0] [] anil (acons (lett 0) anil))) :: (errM "Unsafe" L_Unsafe 1 (kwD 0 1 [0] [] anil (acons (lett 0) anil))) :: (errM "InvalidWall" L_InvalidWall 1 (kwD 0 1 [0] [] anil (acons (lett 0) anil))) :: (errM "Untouched" L_Untouched 1 (kwD 0 1 [0] [] anil (acons (lett 0) anil))) :: (errM "Affordable" L_Affordable 1 (kwD 0 1 [0] [] anil (acons (lett 0) anil))) :: (errM "NoFilling" L_NoFilling 0 (kwD 0 0 [] [] anil anil)) :: (errM "HasFilling" L_HasFilling 0 (kwD 0 0 [] [] anil anil)) :: (errM "InvalidDeed" L_InvalidDeed 1 (kwD 0 1 [0] [] anil (acons (lett 0) anil))) :: (errM "NameTaken" L_NameTaken 1 (kwD 0 1 [0] [] anil (acons (lett 0) anil))) :: (errM "Refused" L_Refused 2 (kwD 0 2 [1, 0] [] anil (acons (lett 1) (acons (lett 0) anil)))) :: (errM "DraftRunning" L_DraftRunning 0 (kwD 0 0 [] [] anil anil)) :: (errM "NoDraft" L_NoDraft 0 (kwD 0 0 [] [] anil anil)) :: (errM "UnknownKey" L_UnknownKey 1 (kwD 0 1 [0] [] anil (acons (lett 0) anil))) :: (errM "UnknownName" L_UnknownName 1 (kwD 0 1 [0] [] anil (acons (lett 0) anil))) :: (errM "UnknownCell" L_UnknownCell 1 (kwD 0 1 [0] [] anil (acons (lett 0) anil))) :: (errM "PastEnd" L_PastEnd 2 (kwD 0 2 [1, 0] [] anil (acons (lett 1) (acons (lett 0) anil)))) :: (errM "NothingLeft" L_NothingLeft 0 (kwD 0 0 [] [] anil anil)) :: []
inductive Mks (ρ : Env) : List (Mo D) → List Cell → Prop
  | nil : Mks ρ [] []
  | cons {e : Mo D} {c : Cell} {es : List (Mo D)} {cs : List Cell} (h : ∀ μ, e ρ μ = .ok (.cell μ.length) ρ (μ ++ [c])) (t : Mks ρ es cs) : Mks ρ (e :: es) (c :: cs)
def cellsFrom (k : Nat) : Nat → List D
  | 0 => []
  | n + 1 => .cell k :: cellsFrom (k + 1) n
theorem cells_at : ∀ (n k i : Nat), i < n → (cellsFrom k n)[i]? = some (.cell (k + i))
  | 0, _, _, h => by omega
  | n + 1, k, 0, _ => rfl
  | n + 1, k, i + 1, h => by
    show (cellsFrom (k + 1) n)[i]? = _
    rw [cells_at n (k + 1) i (by omega)]
    congr 2
    omega
theorem mk_all {ρ : Env} {es : List (Mo D)} {cs : List Cell} (h : Mks ρ es cs) : ∀ μ, (es.foldr acons anil) ρ μ = .ok (cellsFrom μ.length cs.length) ρ (μ ++ cs) := by
  induction h with
  | nil => intro μ; rw [List.append_nil]; rfl
  | @cons e c es cs h _ ih =>
    intro μ
    show acons e (es.foldr acons anil) ρ μ = _
    rw [acons_ap, h μ]
    have z := ih (μ ++ [c])
    rw [List.append_assoc, List.length_append, List.length_singleton] at z
    show (bnd (es.foldr acons anil) fun ds => ret (D.cell μ.length :: ds)) ρ (μ ++ [c]) = _
    rw [bnd_ap, z]
    rfl
theorem mksP (p q r s : D) : Mks [some (.sh p), some (.sh q), some (.sh r), some (.sh s)] mkP (EL p q r s) := by
  unfold mkP EL
  repeat (first | exact .nil | refine .cons (fun μ => rfl) ?_)
theorem mksN (p q r s : D) : Mks [some (.sh p), some (.sh q), some (.sh r), some (.sh s)] mkN (EL p q r s) := by
  unfold mkN EL
  repeat (first | exact .nil | refine .cons (fun μ => rfl) ?_)
theorem el_len (p q r s : D) : (EL p q r s).length = 45 := rfl
theorem mk45 (k : Nat) : mkL (cellsFrom k 45) = some (.lst (cellsFrom k 45)) := rfl
theorem gP : g_lby_place = rtM (lstM (mkP.foldr acons anil)) := rfl
theorem gN : g_lby_name = rtM (lstM (mkN.foldr acons anil)) := rfl
theorem place_ok (p q r s : D) (μ : Sto) : G_lby_place [p, q, r, s] μ = .ok (.lst (cellsFrom μ.length 45)) (μ ++ EL p q r s) := by
  have h := mk_all (mksP p q r s) μ
  rw [el_len] at h
  have m := mk45 μ.length
  simp only [G_lby_place, gP, runD_ap, List.length_cons, List.length_nil, Nat.reduceAdd, Nat.reduceSub, List.map_cons, List.map_nil, List.replicate_succ, List.replicate_zero, List.cons_append, List.nil_append, seqM_ap, sq_nx, sq_rt, stiM_ap, bnd_ap, bo_ok, op2_ap, op2v_ap, op1_ap, cst_ap, lift_so, ret_ap, pek_ap, lett_ap, pekD, List.getElem?_cons_zero, List.getElem?_cons_succ, ix_l, ix50, ix51, ix52, ix53, ix54, isLst, lstUp, lstAt, lstPut, Option.map_some, add_ii, List.set_cons_zero, List.set_cons_succ, ifS_ap, andM_ap, tst_ap, eq_ii, lt_ii, gt_ii, ge_ii, len_l, asBl_b, bf_t, bf_f, bf_d, if_true, if_false, ite_true, ite_false, decide_true, decide_false, setM_ap, put_ap, skp_ap, rtM_ap, ri_rt, int_i, abs_i, ixN50, ixN51, ixN52, ixN53, ixN54, lstM_ap, h, m]
theorem name_ok (p q r s : D) (μ : Sto) : G_lby_name [p, q, r, s] μ = .ok (.lst (cellsFrom μ.length 45)) (μ ++ EL p q r s) := by
  have h := mk_all (mksN p q r s) μ
  rw [el_len] at h
  have m := mk45 μ.length
  simp only [G_lby_name, gN, runD_ap, List.length_cons, List.length_nil, Nat.reduceAdd, Nat.reduceSub, List.map_cons, List.map_nil, List.replicate_succ, List.replicate_zero, List.cons_append, List.nil_append, seqM_ap, sq_nx, sq_rt, stiM_ap, bnd_ap, bo_ok, op2_ap, op2v_ap, op1_ap, cst_ap, lift_so, ret_ap, pek_ap, lett_ap, pekD, List.getElem?_cons_zero, List.getElem?_cons_succ, ix_l, ix50, ix51, ix52, ix53, ix54, isLst, lstUp, lstAt, lstPut, Option.map_some, add_ii, List.set_cons_zero, List.set_cons_succ, ifS_ap, andM_ap, tst_ap, eq_ii, lt_ii, gt_ii, ge_ii, len_l, asBl_b, bf_t, bf_f, bf_d, if_true, if_false, ite_true, ite_false, decide_true, decide_false, setM_ap, put_ap, skp_ap, rtM_ap, ri_rt, int_i, abs_i, ixN50, ixN51, ixN52, ixN53, ixN54, lstM_ap, h, m]
theorem el_at {p q r s : D} {μ ν : Sto} {n : Nat} {c : Str} {ns : List Str} {vs : List D} (h : (EL p q r s)[n]? = some (.err c ns vs)) : errOf (.cell (μ.length + n)) (μ ++ EL p q r s ++ ν) = some (c, ns, vs) := by
  have hl := (List.getElem?_eq_some_iff.mp h).1
  have e : (μ ++ EL p q r s ++ ν)[μ.length + n]? = some (.err c ns vs) := by
    rw [List.append_assoc, List.getElem?_append_right (by omega), Nat.add_sub_cancel_left, List.getElem?_append_left hl, h]
  unfold errOf
  simp only [e]
end L2.DL.K00

namespace L2.DL.K00
open PySem PySem.Spec PyProof.Rows
def cN : List Str := "InvalidKey" :: "DuplicateKey" :: "InvalidLot" :: "InvalidMark" :: "InvalidRow" :: "InvalidText" :: "NotSearch" :: "InvalidNumbers" :: "AlreadyLiving" :: "NeighbourMissed" :: "TooMany" :: "NotTop" :: "OtherKeys" :: "NotClosed" :: "Barred" :: "Unresolved" :: "NotMeeting" :: "InvalidWord" :: "InvalidNumber" :: "Infeasible" :: "Stuck" :: "Comes" :: "InvalidRule" :: "InvalidItem" :: "InvalidName" :: "DuplicateName" :: "InvalidNodes" :: "InvalidEdge" :: "InvalidWalk" :: "Unsafe" :: "InvalidWall" :: "Untouched" :: "Affordable" :: "NoFilling" :: "HasFilling" :: "InvalidDeed" :: "NameTaken" :: "Refused" :: "DraftRunning" :: "NoDraft" :: "UnknownKey" :: "UnknownName" :: "UnknownCell" :: "PastEnd" :: "NothingLeft" :: []
def sortsL : List Ty := .o "InvalidKey" :: .o "DuplicateKey" :: .o "InvalidLot" :: .o "InvalidMark" :: .o "InvalidRow" :: .o "InvalidText" :: .o "NotSearch" :: .o "InvalidNumbers" :: .o "AlreadyLiving" :: .o "NeighbourMissed" :: .o "TooMany" :: .o "NotTop" :: .o "OtherKeys" :: .o "NotClosed" :: .o "Barred" :: .o "Unresolved" :: .o "NotMeeting" :: .o "InvalidWord" :: .o "InvalidNumber" :: .o "Infeasible" :: .o "Stuck" :: .o "Comes" :: .o "InvalidRule" :: .o "InvalidItem" :: .o "InvalidName" :: .o "DuplicateName" :: .o "InvalidNodes" :: .o "InvalidEdge" :: .o "InvalidWalk" :: .o "Unsafe" :: .o "InvalidWall" :: .o "Untouched" :: .o "Affordable" :: .o "NoFilling" :: .o "HasFilling" :: .o "InvalidDeed" :: .o "NameTaken" :: .o "Refused" :: .o "DraftRunning" :: .o "NoDraft" :: .o "UnknownKey" :: .o "UnknownName" :: .o "UnknownCell" :: .o "PastEnd" :: .o "NothingLeft" :: []
def basesL : List Ty := [.o "ShapeError", .b "ValueError", .o "Missing", .b "LookupError", .b "IndexError", .b "KeyError"]
def isiAll (ts : List Ty) : Mo (List D) := ts.foldr (fun t g => acons (isiE etT etG t (lett 0)) g) anil
theorem isi_all {d : D} {μ : Sto} {c : Str} {ns : List Str} {vs : List D} {as : List Ty} (h : errOf d μ = some (c, ns, vs)) (ha : etT.lookup c = some as) : ∀ ts : List Ty, ts.all (fun t => decide (t ∈ etG)) = true → isiAll ts [some (.sh d)] μ = .ok (ts.map fun t => .bl (decide (t ∈ as))) [some (.sh d)] μ
  | [], _ => rfl
  | t :: ts, hg => by
    rw [List.all_cons, Bool.and_eq_true] at hg
    have ih := isi_all h ha ts hg.2
    have ek : errK etT etG c [t] = some (decide (t ∈ as)) := by
      unfold errK
      simp only [ha]
      rw [if_pos (by simp [of_decide_eq_true hg.1])]
      simp
    have e1 : isiE etT etG t (lett 0) [some (.sh d)] μ = .ok (.bl (decide (t ∈ as))) [some (.sh d)] μ := by
      have l : lett 0 [some (.sh d)] μ = .ok d [some (.sh d)] μ := rfl
      rw [isiE_ap, l]
      show (match errOf d μ with
        | some (c, _, _) => lift ((errK etT etG c [t]).map D.bl) [some (.sh d)] μ
        | none => O.no) = _
      rw [h]
      show lift ((errK etT etG c [t]).map D.bl) _ μ = _
      rw [ek] <;> rfl
    show acons (isiE etT etG t (lett 0)) (isiAll ts) _ μ = _
    rw [acons_ap, e1]
    show (bnd (isiAll ts) fun ds => ret (D.bl (decide (t ∈ as)) :: ds)) _ μ = _
    rw [bnd_ap, ih]
    rfl
def bas6 (n : Nat) : List Bool := [decide ((n : Int) < 40), decide ((n : Int) < 40), decide ((n : Int) ∈ [(40 : Int), 41, 42]), decide ((39 : Int) < n), decide ((42 : Int) < n), false]
def tabB (n : Nat) : Bool := match cN[n]? with
  | some c => (match etT.lookup c with
    | some as => sortsL.map (fun t => decide (t ∈ as)) == (List.range 45).map (fun m => decide (m = n)) && basesL.map (fun t => decide (t ∈ as)) == bas6 n
    | none => false)
  | none => false
theorem tab_all : (List.range 45).all tabB = true := by decide +kernel
theorem tab_ok {n : Nat} {c : Str} (hn : n < 45) (hc : cN[n]? = some c) : ∃ as, etT.lookup c = some as ∧ sortsL.map (fun t => decide (t ∈ as)) = (List.range 45).map (fun m => decide (m = n)) ∧ basesL.map (fun t => decide (t ∈ as)) = bas6 n := by
  have h := List.all_eq_true.mp tab_all n (List.mem_range.mpr hn)
  unfold tabB at h
  rw [hc] at h
  dsimp only at h
  cases e : etT.lookup c with
  | none => rw [e] at h; cases h
  | some as =>
    rw [e] at h
    dsimp only at h
    obtain ⟨h1, h2⟩ := Bool.and_eq_true_iff.mp h
    exact ⟨as, rfl, eq_of_beq h1, eq_of_beq h2⟩
theorem gS : g_lsorts = rtM (lstM (isiAll sortsL)) := rfl
theorem gB : g_lbases = rtM (lstM (isiAll basesL)) := rfl
theorem mkL_len {L : List D} (h : L.length ≤ 1000) : mkL L = some (.lst L) := if_pos (by show L.length ≤ _; exact Nat.le_trans h (by decide))
theorem map_bl {ts : List Ty} {as : List Ty} {L : List Bool} (h : ts.map (fun t => decide (t ∈ as)) = L) : ts.map (fun t => D.bl (decide (t ∈ as))) = L.map D.bl := by
  rw [← h, List.map_map]
  rfl
theorem sorts_ok {n : Nat} {c : Str} {d : D} {μ : Sto} {ns : List Str} {vs : List D} (hn : n < 45) (hc : cN[n]? = some c) (h : errOf d μ = some (c, ns, vs)) : G_lsorts [d] μ = .ok (.lst (((List.range 45).map (fun m => decide (m = n))).map D.bl)) μ := by
  obtain ⟨as, ha, h1, h2⟩ := tab_ok hn hc
  have e := isi_all h ha sortsL (by decide +kernel)
  rw [map_bl h1] at e
  have m : mkL (((List.range 45).map (fun m => decide (m = n))).map D.bl) = some (.lst (((List.range 45).map (fun m => decide (m = n))).map D.bl)) := mkL_len (by simp)
  simp only [G_lsorts, gS, runD_ap, List.length_cons, List.length_nil, Nat.reduceAdd, Nat.reduceSub, List.map_cons, List.map_nil, List.replicate_succ, List.replicate_zero, List.cons_append, List.nil_append, seqM_ap, sq_nx, sq_rt, stiM_ap, bnd_ap, bo_ok, op2_ap, op2v_ap, op1_ap, cst_ap, lift_so, ret_ap, pek_ap, lett_ap, pekD, List.getElem?_cons_zero, List.getElem?_cons_succ, ix_l, ix50, ix51, ix52, ix53, ix54, isLst, lstUp, lstAt, lstPut, Option.map_some, add_ii, List.set_cons_zero, List.set_cons_succ, ifS_ap, andM_ap, tst_ap, eq_ii, lt_ii, gt_ii, ge_ii, len_l, asBl_b, bf_t, bf_f, bf_d, if_true, if_false, ite_true, ite_false, decide_true, decide_false, setM_ap, put_ap, skp_ap, rtM_ap, ri_rt, int_i, abs_i, ixN50, ixN51, ixN52, ixN53, ixN54, lstM_ap, e, m]
theorem bases_ok {n : Nat} {c : Str} {d : D} {μ : Sto} {ns : List Str} {vs : List D} (hn : n < 45) (hc : cN[n]? = some c) (h : errOf d μ = some (c, ns, vs)) : G_lbases [d] μ = .ok (.lst ((bas6 n).map D.bl)) μ := by
  obtain ⟨as, ha, h1, h2⟩ := tab_ok hn hc
  have e := isi_all h ha basesL (by decide +kernel)
  rw [map_bl h2] at e
  have m : mkL ((bas6 n).map D.bl) = some (.lst ((bas6 n).map D.bl)) := rfl
  simp only [G_lbases, gB, runD_ap, List.length_cons, List.length_nil, Nat.reduceAdd, Nat.reduceSub, List.map_cons, List.map_nil, List.replicate_succ, List.replicate_zero, List.cons_append, List.nil_append, seqM_ap, sq_nx, sq_rt, stiM_ap, bnd_ap, bo_ok, op2_ap, op2v_ap, op1_ap, cst_ap, lift_so, ret_ap, pek_ap, lett_ap, pekD, List.getElem?_cons_zero, List.getElem?_cons_succ, ix_l, ix50, ix51, ix52, ix53, ix54, isLst, lstUp, lstAt, lstPut, Option.map_some, add_ii, List.set_cons_zero, List.set_cons_succ, ifS_ap, andM_ap, tst_ap, eq_ii, lt_ii, gt_ii, ge_ii, len_l, asBl_b, bf_t, bf_f, bf_d, if_true, if_false, ite_true, ite_false, decide_true, decide_false, setM_ap, put_ap, skp_ap, rtM_ap, ri_rt, int_i, abs_i, ixN50, ixN51, ixN52, ixN53, ixN54, lstM_ap, e, m]
theorem words_ok (μ : Sto) : G_lwords [] μ = .ok (.lst (cN.map D.str)) μ := by kernel_rfl
end L2.DL.K00

namespace L2.DL.K00
open PySem PySem.Spec PyProof.Rows
theorem skF {t : Mo Bool} {a g : Mo Fl} {ρ : Env} {μ : Sto} {o : O Fl} (h : t ρ μ = .ok false ρ μ) (k : g ρ μ = o) : seqM (ifS t a skp) g ρ μ = o := by
  show seqM (fun ρ μ => _) g ρ μ = o
  have e : ifS t a skp ρ μ = .ok .nx ρ μ := by
    unfold ifS bnd
    rw [h]
    rfl
  unfold seqM bnd at *
  simp only [e]
  exact k
theorem skT {t : Mo Bool} {a g : Mo Fl} {ρ : Env} {μ : Sto} {d : D} (h : t ρ μ = .ok true ρ μ) (k : a ρ μ = .ok (.rt d) ρ μ) : seqM (ifS t a skp) g ρ μ = .ok (.rt d) ρ μ := by
  have e : ifS t a skp ρ μ = .ok (.rt d) ρ μ := by
    unfold ifS bnd
    rw [h]
    exact k
  unfold seqM bnd at *
  simp only [e]
  rfl
def erfs (fs : List Str) : Mo (List D) := fs.foldr (fun f g => acons (erfV csT fsT f 1) g) anil
theorem erfs_ok {a d : D} {μ : Sto} {c : Str} {ns : List Str} {vs : List D} (h : errOf d μ = some (c, ns, vs)) (hc : c ∈ csT) : ∀ (fs : List Str) (F : List D), fs.all (fun f => decide (f ∈ fsT)) = true → fs.map (fun f => (ns.zip vs).lookup f) = F.map some → erfs fs [some (.sh a), some (.sh d)] μ = .ok F [some (.sh a), some (.sh d)] μ
  | [], F, _, e => by
    cases F with
    | nil => rfl
    | cons _ _ => cases e
  | f :: fs, [], _, e => by cases e
  | f :: fs, v :: F, hf, e => by
    rw [List.all_cons, Bool.and_eq_true] at hf
    have e2 := List.cons.inj e
    have ih := erfs_ok (a := a) h hc fs F hf.2 e2.2
    have e1 : erfV csT fsT f 1 [some (.sh a), some (.sh d)] μ = .ok v [some (.sh a), some (.sh d)] μ := by
      show (match errOf d μ with
        | some (c, ns, vs) => if c ∈ csT ∧ f ∈ fsT then lift ((ns.zip vs).lookup f) _ μ else .no
        | none => .no) = _
      rw [h]
      show (if c ∈ csT ∧ f ∈ fsT then lift ((ns.zip vs).lookup f) _ μ else .no) = _
      have e21 : (ns.zip vs).lookup f = some v := e2.1
      rw [if_pos ⟨hc, of_decide_eq_true hf.1⟩, e21] <;> rfl
    show acons (erfV csT fsT f 1) (erfs fs) _ μ = _
    rw [acons_ap, e1]
    show (bnd (erfs fs) fun ds => ret (v :: ds)) _ μ = _
    rw [bnd_ap, ih]
    rfl
theorem rtv {a d : D} {μ : Sto} {c : Str} {ns : List Str} {vs : List D} (fs : List Str) {F : List D} (h : errOf d μ = some (c, ns, vs)) (hc : c ∈ csT) (hf : fs.all (fun f => decide (f ∈ fsT)) = true) (e : fs.map (fun f => (ns.zip vs).lookup f) = F.map some) (m : mkT F = some (.tup F)) :
    rtM (tupM (erfs fs)) [some (.sh a), some (.sh d)] μ = .ok (.rt (.tup F)) [some (.sh a), some (.sh d)] μ := by
  have z := erfs_ok (a := a) h hc fs F hf e
  simp only [runD_ap, List.length_cons, List.length_nil, Nat.reduceAdd, Nat.reduceSub, List.map_cons, List.map_nil, List.replicate_succ, List.replicate_zero, List.cons_append, List.nil_append, seqM_ap, sq_nx, sq_rt, stiM_ap, bnd_ap, bo_ok, op2_ap, op2v_ap, op1_ap, cst_ap, lift_so, ret_ap, pek_ap, lett_ap, pekD, List.getElem?_cons_zero, List.getElem?_cons_succ, ix_l, ix50, ix51, ix52, ix53, ix54, isLst, lstUp, lstAt, lstPut, Option.map_some, add_ii, List.set_cons_zero, List.set_cons_succ, ifS_ap, andM_ap, tst_ap, eq_ii, lt_ii, gt_ii, ge_ii, len_l, asBl_b, bf_t, bf_f, bf_d, if_true, if_false, ite_true, ite_false, decide_true, decide_false, setM_ap, put_ap, skp_ap, rtM_ap, ri_rt, int_i, abs_i, ixN50, ixN51, ixN52, ixN53, ixN54, tupM_ap, z, m]
theorem fin_rt {a d : D} {μ : Sto} {F : List D} (h : g_lfields [some (.sh a), some (.sh d)] μ = .ok (.rt (.tup F)) [some (.sh a), some (.sh d)] μ) : G_lfields [a, d] μ = .ok (.tup F) μ := by
  simp only [G_lfields, runD_ap, List.length_cons, List.length_nil, Nat.reduceAdd, Nat.reduceSub, List.map_cons, List.map_nil, List.replicate_succ, List.replicate_zero, List.cons_append, List.nil_append, seqM_ap, sq_nx, sq_rt, stiM_ap, bnd_ap, bo_ok, op2_ap, op2v_ap, op1_ap, cst_ap, lift_so, ret_ap, pek_ap, lett_ap, pekD, List.getElem?_cons_zero, List.getElem?_cons_succ, ix_l, ix50, ix51, ix52, ix53, ix54, isLst, lstUp, lstAt, lstPut, Option.map_some, add_ii, List.set_cons_zero, List.set_cons_succ, ifS_ap, andM_ap, tst_ap, eq_ii, lt_ii, gt_ii, ge_ii, len_l, asBl_b, bf_t, bf_f, bf_d, if_true, if_false, ite_true, ite_false, decide_true, decide_false, setM_ap, put_ap, skp_ap, rtM_ap, ri_rt, int_i, abs_i, ixN50, ixN51, ixN52, ixN53, ixN54, h]
def RowF (p q r s : D) (n : Nat) (c : Str) (ns : List Str) (vs F : List D) : Prop := (EL p q r s)[n]? = some (.err c ns vs) ∧ cN[n]? = some c ∧ (ns.zip vs).lookup ("code" : Str) = some (.str c) ∧ c ∈ csT ∧ ∀ (d : D) (μ : Sto), errOf d μ = some (c, ns, vs) → G_lfields [.int (n : Int), d] μ = .ok (.tup F) μ
def rowV (p q r s : D) (n : Nat) : List D := if n ∈ [26, 33, 34, 38, 39, 44] then [] else if n = 19 then [p, q, r, s] else if n ∈ [9, 10, 13, 14, 15, 16, 20, 23, 37, 43] then [p, q] else [p]

theorem row0 (p q r s : D) : RowF p q r s 0 "InvalidKey" ["value", "code"] [p, .str "InvalidKey"] (rowV p q r s 0) := ⟨rfl, rfl, rfl, by decide +kernel, fun d μ h => fin_rt (skT rfl (rtv ["value"] h (by decide +kernel) (by decide +kernel) rfl rfl))⟩
theorem row1 (p q r s : D) : RowF p q r s 1 "DuplicateKey" ["key", "code"] [p, .str "DuplicateKey"] (rowV p q r s 1) := ⟨rfl, rfl, rfl, by decide +kernel, fun d μ h => fin_rt (skF rfl (skT rfl (rtv ["key"] h (by decide +kernel) (by decide +kernel) rfl rfl)))⟩
theorem row2 (p q r s : D) : RowF p q r s 2 "InvalidLot" ["value", "code"] [p, .str "InvalidLot"] (rowV p q r s 2) := ⟨rfl, rfl, rfl, by decide +kernel, fun d μ h => fin_rt (skT rfl (rtv ["value"] h (by decide +kernel) (by decide +kernel) rfl rfl))⟩
theorem row3 (p q r s : D) : RowF p q r s 3 "InvalidMark" ["value", "code"] [p, .str "InvalidMark"] (rowV p q r s 3) := ⟨rfl, rfl, rfl, by decide +kernel, fun d μ h => fin_rt (skT rfl (rtv ["value"] h (by decide +kernel) (by decide +kernel) rfl rfl))⟩
theorem row4 (p q r s : D) : RowF p q r s 4 "InvalidRow" ["at", "code"] [p, .str "InvalidRow"] (rowV p q r s 4) := ⟨rfl, rfl, rfl, by decide +kernel, fun d μ h => fin_rt (skF rfl (skF rfl (skT rfl (rtv ["at"] h (by decide +kernel) (by decide +kernel) rfl rfl))))⟩
theorem row5 (p q r s : D) : RowF p q r s 5 "InvalidText" ["at", "code"] [p, .str "InvalidText"] (rowV p q r s 5) := ⟨rfl, rfl, rfl, by decide +kernel, fun d μ h => fin_rt (skF rfl (skF rfl (skT rfl (rtv ["at"] h (by decide +kernel) (by decide +kernel) rfl rfl))))⟩
theorem row6 (p q r s : D) : RowF p q r s 6 "NotSearch" ["key", "code"] [p, .str "NotSearch"] (rowV p q r s 6) := ⟨rfl, rfl, rfl, by decide +kernel, fun d μ h => fin_rt (skF rfl (skT rfl (rtv ["key"] h (by decide +kernel) (by decide +kernel) rfl rfl)))⟩
theorem row7 (p q r s : D) : RowF p q r s 7 "InvalidNumbers" ["at", "code"] [p, .str "InvalidNumbers"] (rowV p q r s 7) := ⟨rfl, rfl, rfl, by decide +kernel, fun d μ h => fin_rt (skF rfl (skF rfl (skT rfl (rtv ["at"] h (by decide +kernel) (by decide +kernel) rfl rfl))))⟩
theorem row8 (p q r s : D) : RowF p q r s 8 "AlreadyLiving" ["key", "code"] [p, .str "AlreadyLiving"] (rowV p q r s 8) := ⟨rfl, rfl, rfl, by decide +kernel, fun d μ h => fin_rt (skF rfl (skT rfl (rtv ["key"] h (by decide +kernel) (by decide +kernel) rfl rfl)))⟩
theorem row9 (p q r s : D) : RowF p q r s 9 "NeighbourMissed" ["neighbour", "key", "code"] [q, p, .str "NeighbourMissed"] (rowV p q r s 9) := ⟨rfl, rfl, rfl, by decide +kernel, fun d μ h => fin_rt (skF rfl (skF rfl (skF rfl (skT rfl (rtv ["key", "neighbour"] h (by decide +kernel) (by decide +kernel) rfl rfl)))))⟩
theorem row10 (p q r s : D) : RowF p q r s 10 "TooMany" ["count", "what", "code"] [q, p, .str "TooMany"] (rowV p q r s 10) := ⟨rfl, rfl, rfl, by decide +kernel, fun d μ h => fin_rt (skF rfl (skF rfl (skF rfl (skF rfl (skT rfl (rtv ["what", "count"] h (by decide +kernel) (by decide +kernel) rfl rfl))))))⟩
theorem row11 (p q r s : D) : RowF p q r s 11 "NotTop" ["key", "code"] [p, .str "NotTop"] (rowV p q r s 11) := ⟨rfl, rfl, rfl, by decide +kernel, fun d μ h => fin_rt (skF rfl (skT rfl (rtv ["key"] h (by decide +kernel) (by decide +kernel) rfl rfl)))⟩
theorem row12 (p q r s : D) : RowF p q r s 12 "OtherKeys" ["key", "code"] [p, .str "OtherKeys"] (rowV p q r s 12) := ⟨rfl, rfl, rfl, by decide +kernel, fun d μ h => fin_rt (skF rfl (skT rfl (rtv ["key"] h (by decide +kernel) (by decide +kernel) rfl rfl)))⟩
theorem row13 (p q r s : D) : RowF p q r s 13 "NotClosed" ["needed", "key", "code"] [q, p, .str "NotClosed"] (rowV p q r s 13) := ⟨rfl, rfl, rfl, by decide +kernel, fun d μ h => fin_rt (skF rfl (skF rfl (skF rfl (skF rfl (skF rfl (skT rfl (rtv ["key", "needed"] h (by decide +kernel) (by decide +kernel) rfl rfl)))))))⟩
theorem row14 (p q r s : D) : RowF p q r s 14 "Barred" ["needed", "key", "code"] [q, p, .str "Barred"] (rowV p q r s 14) := ⟨rfl, rfl, rfl, by decide +kernel, fun d μ h => fin_rt (skF rfl (skF rfl (skF rfl (skF rfl (skF rfl (skT rfl (rtv ["key", "needed"] h (by decide +kernel) (by decide +kernel) rfl rfl)))))))⟩
theorem row15 (p q r s : D) : RowF p q r s 15 "Unresolved" ["last", "first", "code"] [q, p, .str "Unresolved"] (rowV p q r s 15) := ⟨rfl, rfl, rfl, by decide +kernel, fun d μ h => fin_rt (skF rfl (skF rfl (skF rfl (skF rfl (skF rfl (skF rfl (skT rfl (rtv ["first", "last"] h (by decide +kernel) (by decide +kernel) rfl rfl))))))))⟩
theorem row16 (p q r s : D) : RowF p q r s 16 "NotMeeting" ["x", "k", "code"] [q, p, .str "NotMeeting"] (rowV p q r s 16) := ⟨rfl, rfl, rfl, by decide +kernel, fun d μ h => fin_rt (skF rfl (skF rfl (skF rfl (skF rfl (skF rfl (skF rfl (skF rfl (skT rfl (rtv ["k", "x"] h (by decide +kernel) (by decide +kernel) rfl rfl)))))))))⟩
theorem row17 (p q r s : D) : RowF p q r s 17 "InvalidWord" ["value", "code"] [p, .str "InvalidWord"] (rowV p q r s 17) := ⟨rfl, rfl, rfl, by decide +kernel, fun d μ h => fin_rt (skT rfl (rtv ["value"] h (by decide +kernel) (by decide +kernel) rfl rfl))⟩
theorem row18 (p q r s : D) : RowF p q r s 18 "InvalidNumber" ["value", "code"] [p, .str "InvalidNumber"] (rowV p q r s 18) := ⟨rfl, rfl, rfl, by decide +kernel, fun d μ h => fin_rt (skT rfl (rtv ["value"] h (by decide +kernel) (by decide +kernel) rfl rfl))⟩
theorem row19 (p q r s : D) : RowF p q r s 19 "Infeasible" ["x", "k", "j", "i", "code"] [s, r, q, p, .str "Infeasible"] (rowV p q r s 19) := ⟨rfl, rfl, rfl, by decide +kernel, fun d μ h => fin_rt (skF rfl (skF rfl (skF rfl (skF rfl (skF rfl (skF rfl (skF rfl (skF rfl (skT rfl (rtv ["i", "j", "k", "x"] h (by decide +kernel) (by decide +kernel) rfl rfl))))))))))⟩
theorem row20 (p q r s : D) : RowF p q r s 20 "Stuck" ["key", "moment", "code"] [q, p, .str "Stuck"] (rowV p q r s 20) := ⟨rfl, rfl, rfl, by decide +kernel, fun d μ h => fin_rt (skF rfl (skF rfl (skF rfl (skF rfl (skF rfl (skF rfl (skF rfl (skF rfl (skF rfl (skT rfl (rtv ["moment", "key"] h (by decide +kernel) (by decide +kernel) rfl rfl)))))))))))⟩
theorem row21 (p q r s : D) : RowF p q r s 21 "Comes" ["moment", "code"] [p, .str "Comes"] (rowV p q r s 21) := ⟨rfl, rfl, rfl, by decide +kernel, fun d μ h => fin_rt (skF rfl (skF rfl (skF rfl (skF rfl (skF rfl (skF rfl (skF rfl (skF rfl (skF rfl (skF rfl (skT rfl (rtv ["moment"] h (by decide +kernel) (by decide +kernel) rfl rfl))))))))))))⟩
theorem row22 (p q r s : D) : RowF p q r s 22 "InvalidRule" ["at", "code"] [p, .str "InvalidRule"] (rowV p q r s 22) := ⟨rfl, rfl, rfl, by decide +kernel, fun d μ h => fin_rt (skF rfl (skF rfl (skT rfl (rtv ["at"] h (by decide +kernel) (by decide +kernel) rfl rfl))))⟩
theorem row23 (p q r s : D) : RowF p q r s 23 "InvalidItem" ["item", "at", "code"] [q, p, .str "InvalidItem"] (rowV p q r s 23) := ⟨rfl, rfl, rfl, by decide +kernel, fun d μ h => fin_rt (skF rfl (skF rfl (skF rfl (skF rfl (skF rfl (skF rfl (skF rfl (skF rfl (skF rfl (skF rfl (skF rfl (skT rfl (rtv ["at", "item"] h (by decide +kernel) (by decide +kernel) rfl rfl)))))))))))))⟩
theorem row24 (p q r s : D) : RowF p q r s 24 "InvalidName" ["value", "code"] [p, .str "InvalidName"] (rowV p q r s 24) := ⟨rfl, rfl, rfl, by decide +kernel, fun d μ h => fin_rt (skT rfl (rtv ["value"] h (by decide +kernel) (by decide +kernel) rfl rfl))⟩
theorem row25 (p q r s : D) : RowF p q r s 25 "DuplicateName" ["name", "code"] [p, .str "DuplicateName"] (rowV p q r s 25) := ⟨rfl, rfl, rfl, by decide +kernel, fun d μ h => fin_rt (skF rfl (skF rfl (skF rfl (skF rfl (skF rfl (skF rfl (skF rfl (skF rfl (skF rfl (skF rfl (skF rfl (skF rfl (skT rfl (rtv ["name"] h (by decide +kernel) (by decide +kernel) rfl rfl))))))))))))))⟩
theorem row26 (p q r s : D) : RowF p q r s 26 "InvalidNodes" ["code"] [.str "InvalidNodes"] (rowV p q r s 26) := ⟨rfl, rfl, rfl, by decide +kernel, fun d μ h => fin_rt (skF rfl (skF rfl (skF rfl (skF rfl (skF rfl (skF rfl (skF rfl (skF rfl (skF rfl (skF rfl (skF rfl (skF rfl (skF rfl (skF rfl (skF rfl (skF rfl (by
    have z := erfs_ok (a := .int ((26 : Nat) : Int)) h (by decide +kernel) [] [] (by decide +kernel) rfl
    have m : mkT [] = some (.tup []) := rfl
    have t : (tst (op2 eqQ (lett 0) (cst (.int 43)))) [some (.sh (.int ((26 : Nat) : Int))), some (.sh d)] μ = .ok false [some (.sh (.int ((26 : Nat) : Int))), some (.sh d)] μ := rfl
    show rtM (ifM (tst (op2 eqQ (lett 0) (cst (.int 43)))) (tupM (erfs ["number", "count"])) (tupM anil)) _ μ = _
    unfold rtM ifM bnd
    rw [t]
    rfl)))))))))))))))))⟩
theorem row27 (p q r s : D) : RowF p q r s 27 "InvalidEdge" ["at", "code"] [p, .str "InvalidEdge"] (rowV p q r s 27) := ⟨rfl, rfl, rfl, by decide +kernel, fun d μ h => fin_rt (skF rfl (skF rfl (skT rfl (rtv ["at"] h (by decide +kernel) (by decide +kernel) rfl rfl))))⟩
theorem row28 (p q r s : D) : RowF p q r s 28 "InvalidWalk" ["at", "code"] [p, .str "InvalidWalk"] (rowV p q r s 28) := ⟨rfl, rfl, rfl, by decide +kernel, fun d μ h => fin_rt (skF rfl (skF rfl (skT rfl (rtv ["at"] h (by decide +kernel) (by decide +kernel) rfl rfl))))⟩
theorem row29 (p q r s : D) : RowF p q r s 29 "Unsafe" ["walk", "code"] [p, .str "Unsafe"] (rowV p q r s 29) := ⟨rfl, rfl, rfl, by decide +kernel, fun d μ h => fin_rt (skF rfl (skF rfl (skF rfl (skF rfl (skF rfl (skF rfl (skF rfl (skF rfl (skF rfl (skF rfl (skF rfl (skF rfl (skF rfl (skT rfl (rtv ["walk"] h (by decide +kernel) (by decide +kernel) rfl rfl)))))))))))))))⟩
theorem row30 (p q r s : D) : RowF p q r s 30 "InvalidWall" ["value", "code"] [p, .str "InvalidWall"] (rowV p q r s 30) := ⟨rfl, rfl, rfl, by decide +kernel, fun d μ h => fin_rt (skT rfl (rtv ["value"] h (by decide +kernel) (by decide +kernel) rfl rfl))⟩
theorem row31 (p q r s : D) : RowF p q r s 31 "Untouched" ["key", "code"] [p, .str "Untouched"] (rowV p q r s 31) := ⟨rfl, rfl, rfl, by decide +kernel, fun d μ h => fin_rt (skF rfl (skT rfl (rtv ["key"] h (by decide +kernel) (by decide +kernel) rfl rfl)))⟩
theorem row32 (p q r s : D) : RowF p q r s 32 "Affordable" ["cells", "code"] [p, .str "Affordable"] (rowV p q r s 32) := ⟨rfl, rfl, rfl, by decide +kernel, fun d μ h => fin_rt (skF rfl (skF rfl (skF rfl (skF rfl (skF rfl (skF rfl (skF rfl (skF rfl (skF rfl (skF rfl (skF rfl (skF rfl (skF rfl (skF rfl (skT rfl (rtv ["cells"] h (by decide +kernel) (by decide +kernel) rfl rfl))))))))))))))))⟩
theorem row33 (p q r s : D) : RowF p q r s 33 "NoFilling" ["code"] [.str "NoFilling"] (rowV p q r s 33) := ⟨rfl, rfl, rfl, by decide +kernel, fun d μ h => fin_rt (skF rfl (skF rfl (skF rfl (skF rfl (skF rfl (skF rfl (skF rfl (skF rfl (skF rfl (skF rfl (skF rfl (skF rfl (skF rfl (skF rfl (skF rfl (skF rfl (by
    have z := erfs_ok (a := .int ((33 : Nat) : Int)) h (by decide +kernel) [] [] (by decide +kernel) rfl
    have m : mkT [] = some (.tup []) := rfl
    have t : (tst (op2 eqQ (lett 0) (cst (.int 43)))) [some (.sh (.int ((33 : Nat) : Int))), some (.sh d)] μ = .ok false [some (.sh (.int ((33 : Nat) : Int))), some (.sh d)] μ := rfl
    show rtM (ifM (tst (op2 eqQ (lett 0) (cst (.int 43)))) (tupM (erfs ["number", "count"])) (tupM anil)) _ μ = _
    unfold rtM ifM bnd
    rw [t]
    rfl)))))))))))))))))⟩
theorem row34 (p q r s : D) : RowF p q r s 34 "HasFilling" ["code"] [.str "HasFilling"] (rowV p q r s 34) := ⟨rfl, rfl, rfl, by decide +kernel, fun d μ h => fin_rt (skF rfl (skF rfl (skF rfl (skF rfl (skF rfl (skF rfl (skF rfl (skF rfl (skF rfl (skF rfl (skF rfl (skF rfl (skF rfl (skF rfl (skF rfl (skF rfl (by
    have z := erfs_ok (a := .int ((34 : Nat) : Int)) h (by decide +kernel) [] [] (by decide +kernel) rfl
    have m : mkT [] = some (.tup []) := rfl
    have t : (tst (op2 eqQ (lett 0) (cst (.int 43)))) [some (.sh (.int ((34 : Nat) : Int))), some (.sh d)] μ = .ok false [some (.sh (.int ((34 : Nat) : Int))), some (.sh d)] μ := rfl
    show rtM (ifM (tst (op2 eqQ (lett 0) (cst (.int 43)))) (tupM (erfs ["number", "count"])) (tupM anil)) _ μ = _
    unfold rtM ifM bnd
    rw [t]
    rfl)))))))))))))))))⟩
theorem row35 (p q r s : D) : RowF p q r s 35 "InvalidDeed" ["at", "code"] [p, .str "InvalidDeed"] (rowV p q r s 35) := ⟨rfl, rfl, rfl, by decide +kernel, fun d μ h => fin_rt (skF rfl (skF rfl (skT rfl (rtv ["at"] h (by decide +kernel) (by decide +kernel) rfl rfl))))⟩
theorem row36 (p q r s : D) : RowF p q r s 36 "NameTaken" ["name", "code"] [p, .str "NameTaken"] (rowV p q r s 36) := ⟨rfl, rfl, rfl, by decide +kernel, fun d μ h => fin_rt (skF rfl (skF rfl (skF rfl (skF rfl (skF rfl (skF rfl (skF rfl (skF rfl (skF rfl (skF rfl (skF rfl (skF rfl (skT rfl (rtv ["name"] h (by decide +kernel) (by decide +kernel) rfl rfl))))))))))))))⟩
theorem row37 (p q r s : D) : RowF p q r s 37 "Refused" ["why", "at", "code"] [q, p, .str "Refused"] (rowV p q r s 37) := ⟨rfl, rfl, rfl, by decide +kernel, fun d μ h => fin_rt (skF rfl (skF rfl (skF rfl (skF rfl (skF rfl (skF rfl (skF rfl (skF rfl (skF rfl (skF rfl (skF rfl (skF rfl (skF rfl (skF rfl (skF rfl (skT rfl (rtv ["at", "why"] h (by decide +kernel) (by decide +kernel) rfl rfl)))))))))))))))))⟩
theorem row38 (p q r s : D) : RowF p q r s 38 "DraftRunning" ["code"] [.str "DraftRunning"] (rowV p q r s 38) := ⟨rfl, rfl, rfl, by decide +kernel, fun d μ h => fin_rt (skF rfl (skF rfl (skF rfl (skF rfl (skF rfl (skF rfl (skF rfl (skF rfl (skF rfl (skF rfl (skF rfl (skF rfl (skF rfl (skF rfl (skF rfl (skF rfl (by
    have z := erfs_ok (a := .int ((38 : Nat) : Int)) h (by decide +kernel) [] [] (by decide +kernel) rfl
    have m : mkT [] = some (.tup []) := rfl
    have t : (tst (op2 eqQ (lett 0) (cst (.int 43)))) [some (.sh (.int ((38 : Nat) : Int))), some (.sh d)] μ = .ok false [some (.sh (.int ((38 : Nat) : Int))), some (.sh d)] μ := rfl
    show rtM (ifM (tst (op2 eqQ (lett 0) (cst (.int 43)))) (tupM (erfs ["number", "count"])) (tupM anil)) _ μ = _
    unfold rtM ifM bnd
    rw [t]
    rfl)))))))))))))))))⟩
theorem row39 (p q r s : D) : RowF p q r s 39 "NoDraft" ["code"] [.str "NoDraft"] (rowV p q r s 39) := ⟨rfl, rfl, rfl, by decide +kernel, fun d μ h => fin_rt (skF rfl (skF rfl (skF rfl (skF rfl (skF rfl (skF rfl (skF rfl (skF rfl (skF rfl (skF rfl (skF rfl (skF rfl (skF rfl (skF rfl (skF rfl (skF rfl (by
    have z := erfs_ok (a := .int ((39 : Nat) : Int)) h (by decide +kernel) [] [] (by decide +kernel) rfl
    have m : mkT [] = some (.tup []) := rfl
    have t : (tst (op2 eqQ (lett 0) (cst (.int 43)))) [some (.sh (.int ((39 : Nat) : Int))), some (.sh d)] μ = .ok false [some (.sh (.int ((39 : Nat) : Int))), some (.sh d)] μ := rfl
    show rtM (ifM (tst (op2 eqQ (lett 0) (cst (.int 43)))) (tupM (erfs ["number", "count"])) (tupM anil)) _ μ = _
    unfold rtM ifM bnd
    rw [t]
    rfl)))))))))))))))))⟩
theorem row40 (p q r s : D) : RowF p q r s 40 "UnknownKey" ["key", "code"] [p, .str "UnknownKey"] (rowV p q r s 40) := ⟨rfl, rfl, rfl, by decide +kernel, fun d μ h => fin_rt (skF rfl (skT rfl (rtv ["key"] h (by decide +kernel) (by decide +kernel) rfl rfl)))⟩
theorem row41 (p q r s : D) : RowF p q r s 41 "UnknownName" ["name", "code"] [p, .str "UnknownName"] (rowV p q r s 41) := ⟨rfl, rfl, rfl, by decide +kernel, fun d μ h => fin_rt (skF rfl (skF rfl (skF rfl (skF rfl (skF rfl (skF rfl (skF rfl (skF rfl (skF rfl (skF rfl (skF rfl (skF rfl (skT rfl (rtv ["name"] h (by decide +kernel) (by decide +kernel) rfl rfl))))))))))))))⟩
theorem row42 (p q r s : D) : RowF p q r s 42 "UnknownCell" ["value", "code"] [p, .str "UnknownCell"] (rowV p q r s 42) := ⟨rfl, rfl, rfl, by decide +kernel, fun d μ h => fin_rt (skT rfl (rtv ["value"] h (by decide +kernel) (by decide +kernel) rfl rfl))⟩
theorem row43 (p q r s : D) : RowF p q r s 43 "PastEnd" ["count", "number", "code"] [q, p, .str "PastEnd"] (rowV p q r s 43) := ⟨rfl, rfl, rfl, by decide +kernel, fun d μ h => fin_rt (skF rfl (skF rfl (skF rfl (skF rfl (skF rfl (skF rfl (skF rfl (skF rfl (skF rfl (skF rfl (skF rfl (skF rfl (skF rfl (skF rfl (skF rfl (skF rfl (by
    have z := erfs_ok (a := .int ((43 : Nat) : Int)) h (by decide +kernel) ["number", "count"] [p, q] (by decide +kernel) rfl
    have m : mkT [p, q] = some (.tup [p, q]) := rfl
    have t : (tst (op2 eqQ (lett 0) (cst (.int 43)))) [some (.sh (.int ((43 : Nat) : Int))), some (.sh d)] μ = .ok true [some (.sh (.int ((43 : Nat) : Int))), some (.sh d)] μ := rfl
    show rtM (ifM (tst (op2 eqQ (lett 0) (cst (.int 43)))) (tupM (erfs ["number", "count"])) (tupM anil)) _ μ = _
    have u : ifM (tst (op2 eqQ (lett 0) (cst (.int 43)))) (tupM (erfs ["number", "count"])) (tupM anil) [some (.sh (.int ((43 : Nat) : Int))), some (.sh d)] μ = .ok (.tup [p, q]) [some (.sh (.int ((43 : Nat) : Int))), some (.sh d)] μ := by
      unfold ifM bnd
      rw [t]
      show tupM (erfs ["number", "count"]) _ μ = _
      rw [tupM_ap, z]
      rfl
    unfold rtM bnd
    rw [u]
    rfl)))))))))))))))))⟩
theorem row44 (p q r s : D) : RowF p q r s 44 "NothingLeft" ["code"] [.str "NothingLeft"] (rowV p q r s 44) := ⟨rfl, rfl, rfl, by decide +kernel, fun d μ h => fin_rt (skF rfl (skF rfl (skF rfl (skF rfl (skF rfl (skF rfl (skF rfl (skF rfl (skF rfl (skF rfl (skF rfl (skF rfl (skF rfl (skF rfl (skF rfl (skF rfl (by
    have z := erfs_ok (a := .int ((44 : Nat) : Int)) h (by decide +kernel) [] [] (by decide +kernel) rfl
    have m : mkT [] = some (.tup []) := rfl
    have t : (tst (op2 eqQ (lett 0) (cst (.int 43)))) [some (.sh (.int ((44 : Nat) : Int))), some (.sh d)] μ = .ok false [some (.sh (.int ((44 : Nat) : Int))), some (.sh d)] μ := rfl
    show rtM (ifM (tst (op2 eqQ (lett 0) (cst (.int 43)))) (tupM (erfs ["number", "count"])) (tupM anil)) _ μ = _
    unfold rtM ifM bnd
    rw [t]
    rfl)))))))))))))))))⟩
theorem rows_ok (p q r s : D) : ∀ n, n < 45 → ∃ c ns vs, RowF p q r s n c ns vs (rowV p q r s n)
  | 0, _ => ⟨_, _, _, row0 p q r s⟩
  | 1, _ => ⟨_, _, _, row1 p q r s⟩
  | 2, _ => ⟨_, _, _, row2 p q r s⟩
  | 3, _ => ⟨_, _, _, row3 p q r s⟩
  | 4, _ => ⟨_, _, _, row4 p q r s⟩
  | 5, _ => ⟨_, _, _, row5 p q r s⟩
  | 6, _ => ⟨_, _, _, row6 p q r s⟩
  | 7, _ => ⟨_, _, _, row7 p q r s⟩
  | 8, _ => ⟨_, _, _, row8 p q r s⟩
  | 9, _ => ⟨_, _, _, row9 p q r s⟩
  | 10, _ => ⟨_, _, _, row10 p q r s⟩
  | 11, _ => ⟨_, _, _, row11 p q r s⟩
  | 12, _ => ⟨_, _, _, row12 p q r s⟩
  | 13, _ => ⟨_, _, _, row13 p q r s⟩
  | 14, _ => ⟨_, _, _, row14 p q r s⟩
  | 15, _ => ⟨_, _, _, row15 p q r s⟩
  | 16, _ => ⟨_, _, _, row16 p q r s⟩
  | 17, _ => ⟨_, _, _, row17 p q r s⟩
  | 18, _ => ⟨_, _, _, row18 p q r s⟩
  | 19, _ => ⟨_, _, _, row19 p q r s⟩
  | 20, _ => ⟨_, _, _, row20 p q r s⟩
  | 21, _ => ⟨_, _, _, row21 p q r s⟩
  | 22, _ => ⟨_, _, _, row22 p q r s⟩
  | 23, _ => ⟨_, _, _, row23 p q r s⟩
  | 24, _ => ⟨_, _, _, row24 p q r s⟩
  | 25, _ => ⟨_, _, _, row25 p q r s⟩
  | 26, _ => ⟨_, _, _, row26 p q r s⟩
  | 27, _ => ⟨_, _, _, row27 p q r s⟩
  | 28, _ => ⟨_, _, _, row28 p q r s⟩
  | 29, _ => ⟨_, _, _, row29 p q r s⟩
  | 30, _ => ⟨_, _, _, row30 p q r s⟩
  | 31, _ => ⟨_, _, _, row31 p q r s⟩
  | 32, _ => ⟨_, _, _, row32 p q r s⟩
  | 33, _ => ⟨_, _, _, row33 p q r s⟩
  | 34, _ => ⟨_, _, _, row34 p q r s⟩
  | 35, _ => ⟨_, _, _, row35 p q r s⟩
  | 36, _ => ⟨_, _, _, row36 p q r s⟩
  | 37, _ => ⟨_, _, _, row37 p q r s⟩
  | 38, _ => ⟨_, _, _, row38 p q r s⟩
  | 39, _ => ⟨_, _, _, row39 p q r s⟩
  | 40, _ => ⟨_, _, _, row40 p q r s⟩
  | 41, _ => ⟨_, _, _, row41 p q r s⟩
  | 42, _ => ⟨_, _, _, row42 p q r s⟩
  | 43, _ => ⟨_, _, _, row43 p q r s⟩
  | 44, _ => ⟨_, _, _, row44 p q r s⟩
  | _ + 45, h => absurd h (by omega)
end L2.DL.K00

namespace L2.DL.K00
open PySem PySem.Spec PyProof.Rows
def upV (p q : D) (w : Nat) : D := match w with
  | 0 => .tup [.str "shape", .str "InvalidText"]
  | 1 => .tup [.str "missing", .str "UnknownName"]
  | 2 => .tup [.str "shape", .str "Barred"]
  | 3 => .tup [.str "missing", .str "UnknownCell"]
  | 4 => .tup [.str "end", .str "PastEnd", p, q]
  | 5 => .tup [.str "shape", .str "NoDraft"]
  | _ => .tup [.str "left", .str "NothingLeft"]
theorem upp0 (p q : D) (μ : Sto) : G_lupper [.int ((0 : Nat) : Int), p, q] μ = .ok (upV p q 0) μ := by kernel_rfl
theorem upp1 (p q : D) (μ : Sto) : G_lupper [.int ((1 : Nat) : Int), p, q] μ = .ok (upV p q 1) μ := by kernel_rfl
theorem upp2 (p q : D) (μ : Sto) : G_lupper [.int ((2 : Nat) : Int), p, q] μ = .ok (upV p q 2) μ := by kernel_rfl
theorem upp3 (p q : D) (μ : Sto) : G_lupper [.int ((3 : Nat) : Int), p, q] μ = .ok (upV p q 3) μ := by kernel_rfl
theorem upp4 (p q : D) (μ : Sto) : G_lupper [.int ((4 : Nat) : Int), p, q] μ = .ok (upV p q 4) μ := by kernel_rfl
theorem upp5 (p q : D) (μ : Sto) : G_lupper [.int ((5 : Nat) : Int), p, q] μ = .ok (upV p q 5) μ := by kernel_rfl
theorem upp6 (p q : D) (μ : Sto) : G_lupper [.int ((6 : Nat) : Int), p, q] μ = .ok (upV p q 6) μ := by kernel_rfl
theorem upp_ok (p q : D) (μ : Sto) : ∀ w, w < 7 → G_lupper [.int ((w : Nat) : Int), p, q] μ = .ok (upV p q w) μ
  | 0, _ => upp0 p q μ
  | 1, _ => upp1 p q μ
  | 2, _ => upp2 p q μ
  | 3, _ => upp3 p q μ
  | 4, _ => upp4 p q μ
  | 5, _ => upp5 p q μ
  | 6, _ => upp6 p q μ
  | _ + 7, h => absurd h (by omega)
end L2.DL.K00

namespace L2.DL.K00
open PySem PySem.Spec PyProof.Rows
def uk4 : Cell := .err "UnknownKey" ["key", "code"] [.int 4, .str "UnknownKey"]
def menu (k : Nat) : List D := [.non, .bl true, .bl false, .int 0, .int 1, .int (-3), .int (10 ^ 39), .str "", .str "a", .str "keys", .tup [], .lst [], .tup [.int 1, .int 2], .lst [.bl true], .dct [] [], .dct [.inr "a"] [.lst [.int 1]],
  .tup [.int 1, .int 2, .tup [.tup [], .str "x"]], .lst [.tup [.int 0, .int 3]], .cell k]
/-- a value that _law_any gives, as long as the errors v stand behind the bag -/
def Gd (v : Sto) (d : D) : Prop := ∀ (b : Cell) (v' : Sto), Sm (b :: (v ++ v')) 3 d
theorem Gd.app {v : Sto} {d : D} (h : Gd v d) (w : Sto) : Gd (v ++ w) d := fun b v' => by
  rw [List.append_assoc]
  exact h b (w ++ v')
theorem gd_menu {v : Sto} {d : D} (h : d ∈ menu (v.length + 1)) : Gd (v ++ [uk4]) d := fun b v' => by
  simp only [menu, List.mem_cons, List.not_mem_nil, or_false] at h
  have two : ∀ {n : Nat} {xs : List D}, xs.length ≤ 1000 → (∀ x ∈ xs, (∃ i, x = .int i) ∨ (∃ s, x = .str s) ∨ ∃ b, x = .bl b) → ∀ x ∈ xs, Sm (b :: (v ++ [uk4] ++ v')) (n + 1) x := fun _ h x hx => by
    rcases h x hx with ⟨i, rfl⟩ | ⟨s, rfl⟩ | ⟨t, rfl⟩
    · exact .int _ _
    · exact .str _ _
    · exact .bl _ _
  rcases h with rfl | rfl | rfl | rfl | rfl | rfl | rfl | rfl | rfl | rfl | rfl | rfl | rfl | rfl | rfl | rfl | rfl | rfl | rfl
  · exact .non _
  · exact .bl _ _
  · exact .bl _ _
  · exact .int _ _
  · exact .int _ _
  · exact .int _ _
  · exact .int _ _
  · exact .str _ _
  · exact .str _ _
  · exact .str _ _
  · exact .tup _ (by decide) fun x hx => by cases hx
  · exact .lst _ (by decide) fun x hx => by cases hx
  · exact .tup _ (by decide) (two (by decide) (by simp))
  · exact .lst _ (by decide) (two (by decide) (by simp))
  · exact .dct _ (by simp) rfl
  · exact .dct _ (by simp) rfl
  · refine .tup _ (by decide) fun x hx => ?_
    simp only [List.mem_cons, List.not_mem_nil, or_false] at hx
    rcases hx with rfl | rfl | rfl
    · exact .int _ _
    · exact .int _ _
    · refine .tup _ (by decide) fun x hx => ?_
      simp only [List.mem_cons, List.not_mem_nil, or_false] at hx
      rcases hx with rfl | rfl
      · exact .tup _ (by decide) fun x hx => by cases hx
      · exact .str _ _
  · refine .lst _ (by decide) fun x hx => ?_
    rw [List.mem_singleton.mp hx]
    exact .tup _ (by decide) (two (by decide) (by simp))
  · refine .err _ (ns := ["key", "code"]) (vs := [.int 4, .str "UnknownKey"]) ?_
    have e : (b :: (v ++ [uk4] ++ v'))[v.length + 1]? = some uk4 := by
      rw [List.getElem?_cons_succ, List.append_assoc, List.getElem?_append_right (Nat.le_refl _), Nat.sub_self] <;> rfl
    unfold errOf
    simp only [e]
    rfl
theorem menu_ok (μ : Sto) : lstM (acons (cst .non) (acons (cst (.bl true)) (acons (cst (.bl false)) (acons (cst (.int 0)) (acons (cst (.int 1)) (acons (op1 negD (cst (.int 3))) (acons (op2 powD (cst (.int 10)) (cst (.int 39))) (acons (cst (.str "")) (acons (cst (.str "a")) (acons (cst (.str "keys")) (acons (tupM anil) (acons (lstM anil) (acons (tupM (acons (cst (.int 1)) (acons (cst (.int 2)) anil))) (acons (lstM (acons (cst (.bl true)) anil)) (acons newD (acons (dspM (((cst (.str "a")), (lstM (acons (cst (.int 1)) anil))) :: [])) (acons (tupM (acons (cst (.int 1)) (acons (cst (.int 2)) (acons (tupM (acons (tupM anil) (acons (cst (.str "x")) anil))) anil)))) (acons (lstM (acons (tupM (acons (cst (.int 0)) (acons (cst (.int 3)) anil))) anil)) (acons (errM "UnknownKey" L_UnknownKey 1 (kwD 1 0 [0] [] (acons (cst (.int 4)) anil) anil)) anil)))))))))))))))))))
    [some (.sh (.cell 0)), none] μ = .ok (.lst (menu μ.length)) [some (.sh (.cell 0)), none] (μ ++ [uk4]) := by kernel_rfl
theorem Bag.app {n : Int} {v μ : Sto} (B : Bag n v μ) (w : Sto) : Bag n (v ++ w) (μ ++ w) := by
  obtain ⟨cs, p, r, m, k, rfl, h⟩ := B
  exact ⟨cs, p, r, m, k, rfl, h⟩
theorem Bag.len {n : Int} {v μ : Sto} (B : Bag n v μ) : μ.length = v.length + 1 := by
  obtain ⟨cs, p, r, m, k, rfl, h⟩ := B
  rfl
theorem Bag.cons {n : Int} {v μ : Sto} (B : Bag n v μ) : ∃ b, μ = b :: v := by
  obtain ⟨cs, p, r, m, k, rfl, h⟩ := B
  exact ⟨_, rfl⟩
theorem any_ok {n : Int} {v μ : Sto} (B : Bag n v μ) (hn : n < 900000) : ∃ d μ', G_lany [.cell 0] μ = .ok d μ' ∧ Bag (n + 3) (v ++ [uk4]) μ' ∧ Gd (v ++ [uk4]) d := by
  have mo := menu_ok μ
  obtain ⟨a, μ1, x1, a0, a1, B1⟩ := draw_ok (top := 1000) (B.app [uk4]) (by omega) (by decide) (by decide)
  have t0 : (0 : Int) < 10 ^ 40 := by decide
  have t1 : ((10 : Int) ^ 40).natAbs.log2 < 9000 := by decide +kernel
  obtain ⟨b, μ2, x2, b0, b1, B2⟩ := draw_ok (top := 10 ^ 40) B1 (by omega) t0 t1
  obtain ⟨d, μ3, hd, x3, B3⟩ := of_lst (ds := menu μ.length ++ [.int a, .int b]) B2 (by omega) (by show 0 < 21; decide) (by show 21 ≤ 1000; decide)
  have p40 : powC 10 40 = true := by decide +kernel
  have z40 : ((40 : Int).toNat) = 40 := rfl
  refine ⟨d, μ3, ?_, ?_, ?_⟩
  · obtain ⟨L, hL, lL⟩ : ∃ L, menu μ.length = L ∧ L.length = 19 := ⟨_, rfl, rfl⟩
    rw [hL] at mo x3
    have pk : pekD (.lst [D.int a, D.int b]) μ2 = some (.lst [.int a, .int b]) := rfl
    have ad : addD (.lst L) (.lst [.int a, .int b]) = some (.lst (L ++ [.int a, .int b])) := add_ll (by rw [lL]; show 19 + 2 ≤ 1000000; decide)
    have m2 : mkL [D.int a, D.int b] = some (.lst [.int a, .int b]) := rfl
    simp only [G_lany, g_lany, runD_ap, List.length_cons, List.length_nil, Nat.reduceAdd, Nat.reduceSub, List.map_cons, List.map_nil, List.replicate_succ, List.replicate_zero, List.cons_append, List.nil_append, seqM_ap, sq_nx, sq_rt, stiM_ap, bnd_ap, bo_ok, op2_ap, op2v_ap, op1_ap, cst_ap, lift_so, ret_ap, pek_ap, lett_ap, pekD, List.getElem?_cons_zero, List.getElem?_cons_succ, ix_l, ix50, ix51, ix52, ix53, ix54, isLst, lstUp, lstAt, lstPut, Option.map_some, add_ii, List.set_cons_zero, List.set_cons_succ, ifS_ap, andM_ap, tst_ap, eq_ii, lt_ii, gt_ii, ge_ii, len_l, asBl_b, bf_t, bf_f, bf_d, if_true, if_false, ite_true, ite_false, decide_true, decide_false, setM_ap, put_ap, skp_ap, rtM_ap, ri_rt, int_i, abs_i, ixN50, ixN51, ixN52, ixN53, ixN54, mo, x1, pow_ii p40, z40, x2, lstM_ap, acons_ap, anil_ap, calM_ap, rb_ok, m2, ad, x3]
  · have e : n + 3 = n + 1 + 1 + 1 := by omega
    rw [e]; exact B3
  · rcases List.mem_append.mp hd with h | h
    · rw [B.len] at h
      exact gd_menu h
    · simp only [List.mem_cons, List.not_mem_nil, or_false] at h
      rcases h with rfl | rfl
      · exact fun _ _ => .int _ _
      · exact fun _ _ => .int _ _
end L2.DL.K00

namespace L2.DL.K00
open PySem PySem.Spec PyProof.Rows
def b1 : Mo Fl := (setM 13 (op2v ixD 6 (lett 12)))
def b2 : Mo Fl := (ifS (notM (tru (calM G_lsame (acons (lstM (acons (calM G_lfields (acons (lett 12) (acons (lett 13) anil))) (acons (erfV csT fsT "code" 13) anil))) (acons (lstM (acons (op2v ixD 4 (lett 12)) (acons (op2v ixD 2 (lett 12)) anil))) anil))))) (rtM (cst (.bl false))) skp)
def b3 : Mo Fl := (ifS (notM (tru (calM G_lsame (acons (calM G_lsorts (acons (lett 13) anil)) (acons (lcM [15] (rngM1 (acons (cst (.int 45)) anil)) (tgN 15) (ret true) (op2 eqQ (lett 15) (pek 12))) anil))))) (rtM (cst (.bl false))) skp)
def b4 : Mo Fl := (ifS (notM (tru (calM G_lsame (acons (calM G_lbases (acons (lett 13) anil)) (acons (lstM (acons (op2 ltA (lett 12) (cst (.int 40))) (acons (op2 ltA (lett 12) (cst (.int 40))) (acons (op2 inD (lett 12) (lstM (acons (cst (.int 40)) (acons (cst (.int 41)) (acons (cst (.int 42)) anil))))) (acons (op2 gtD (lett 12) (cst (.int 39))) (acons (op2 gtD (lett 12) (cst (.int 42))) (acons (cst (.bl false)) anil))))))) anil))))) (rtM (cst (.bl false))) skp)
def tI : Mo Fl := forM (rngM1 (acons (cst (.int 45)) anil)) (tgN 12) (seqM b1 (seqM b2 (seqM b3 b4)))
def tA : Mo Fl := (asgM (tupM (acons (calM G_lany (acons (lett 1) anil)) (acons (calM G_lany (acons (lett 1) anil)) (acons (calM G_lany (acons (lett 1) anil)) (acons (calM G_lany (acons (lett 1) anil)) anil))))) (tgT 4 (tgCons (tgN 8) (tgCons (tgN 9) (tgCons (tgN 10) (tgCons (tgN 11) tgNil))))))
def tB : Mo Fl := (setM 4 (lcM [12] (rngM1 (acons (cst (.int 45)) anil)) (tgN 12) (ret true) (ifM (tst (op2 inD (lett 12) (lstM (acons (cst (.int 9)) (acons (cst (.int 10)) (acons (cst (.int 13)) (acons (cst (.int 14)) (acons (cst (.int 15)) (acons (cst (.int 16)) (acons (cst (.int 20)) (acons (cst (.int 23)) (acons (cst (.int 37)) (acons (cst (.int 43)) anil))))))))))))) (tupM (acons (lett 8) (acons (lett 9) anil))) (tupM (acons (lett 8) anil)))))
def tC : Mo Fl := (setM 4 (lcM [12] (rngM1 (acons (cst (.int 45)) anil)) (tgN 12) (ret true) (ifM (tst (op2 inD (lett 12) (lstM (acons (cst (.int 26)) (acons (cst (.int 33)) (acons (cst (.int 34)) (acons (cst (.int 38)) (acons (cst (.int 39)) (acons (cst (.int 44)) anil))))))))) (tupM anil) (ifM (tst (op2 eqQ (lett 12) (cst (.int 19)))) (tupM (acons (lett 8) (acons (lett 9) (acons (lett 10) (acons (lett 11) anil))))) (op2v ixD 4 (lett 12))))))
def tD : Mo Fl := (setM 5 (calM G_lby_place (acons (lett 11) (acons (lett 10) (acons (lett 9) (acons (lett 8) anil))))))
def tE : Mo Fl := (forM (walkA (lstM (acons (calM G_lby_place (acons (lett 8) (acons (lett 9) (acons (lett 10) (acons (lett 11) anil))))) (acons (calM G_lby_name (acons (lett 8) (acons (lett 9) (acons (lett 10) (acons (lett 11) anil))))) anil)))) (tgN 6) tI)
def tF : Mo Fl := (ifS (notM (tru (calM G_lsame (acons (lcM [12] (walkA (lstM (acons (cst (.int 0)) (acons (cst (.int 9)) (acons (cst (.int 19)) (acons (cst (.int 37)) (acons (cst (.int 40)) (acons (cst (.int 43)) anil)))))))) (tgN 12) (ret true) (slM (calM G_lfields (acons (lett 12) (acons (op2v ixD 5 (lett 12)) anil))) noP (prt (cst (.int 1))))) (acons (op2 mulX (lstM (acons (tupM (acons (lett 11) anil)) anil)) (cst (.int 6))) anil))))) (rtM (cst (.bl false))) skp)
def tG : Mo Fl := (setM 7 (lstM (acons (tupM (acons (cst (.str "shape")) (acons (cst (.str "InvalidText")) anil))) (acons (tupM (acons (cst (.str "missing")) (acons (cst (.str "UnknownName")) anil))) (acons (tupM (acons (cst (.str "shape")) (acons (cst (.str "Barred")) anil))) (acons (tupM (acons (cst (.str "missing")) (acons (cst (.str "UnknownCell")) anil))) (acons (tupM (acons (cst (.str "end")) (acons (cst (.str "PastEnd")) (acons (lett 8) (acons (lett 9) anil))))) anil)))))))
def tG2 : Mo Fl := (setM 7 (op2 addD (lett 7) (lstM (acons (tupM (acons (cst (.str "shape")) (acons (cst (.str "NoDraft")) anil))) (acons (tupM (acons (cst (.str "left")) (acons (cst (.str "NothingLeft")) anil))) anil)))))
def tH : Mo Fl := (ifS (notM (tru (calM G_lsame (acons (lcM [14] (rngM1 (acons (cst (.int 7)) anil)) (tgN 14) (ret true) (calM G_lupper (acons (lett 14) (acons (lett 8) (acons (lett 9) anil))))) (acons (lett 7) anil))))) (rtM (cst (.bl false))) skp)
def tT : Mo Fl := seqM tA (seqM tB (seqM tC (seqM tD (seqM tE (seqM tF (seqM tG (seqM tG2 tH)))))))
theorem g_law_eq : g_law = seqM (setF 1 (cawM G_lbag (acons (lett 0) anil))) (celM 1 (seqM (setM 2 (calM G_lwords (kwA 0 0 [] anil anil))) (seqM (forM (rngM1 (acons (cst (.int 2)) anil)) (tgN 3) tT) (rtM (cst (.bl true)))))) := rfl
abbrev W0 : D := .lst (cN.map D.str)
def rng (n : Nat) : List D := (List.range n).map fun k => D.int ((k : Nat) : Int)
theorem r45 : rng1 [.int 45] = some (rng 45) := rfl
theorem r7 : rng1 [.int 7] = some (rng 7) := rfl
theorem atR {L : List D} {n : Nat} {d : D} (h : L[n]? = some d) : ixD (.lst L) (.int ((n : Nat) : Int)) = some d := atI_nat (by omega) (by simpa using h)
theorem Gd.sm {v : Sto} {d : D} (h : Gd v d) {μ : Sto} {n : Nat} (hn : 3 ≤ n) (e : ∃ b v', μ = b :: (v ++ v')) : Sm μ n d := by
  obtain ⟨b, v', rfl⟩ := e
  exact (h b v').le hn
/-- the first four values -/
theorem tA_ok {n : Int} {v μ : Sto} {s w : D} {e3 e4 e5 e6 e7 e8 e9 e10 e11 e12 e13 e14 e15 : Option Ent} (B : Bag n v μ) (hn : n < 800000) : ∃ p q r t v' μ', tA [some (.sh s), some (.sh (.cell 0)), some (.sh w), e3, e4, e5, e6, e7, e8, e9, e10, e11, e12, e13, e14, e15] μ =
    .ok .nx [some (.sh s), some (.sh (.cell 0)), some (.sh w), e3, e4, e5, e6, e7, some (.sh p), some (.sh q), some (.sh r), some (.sh t), e12, e13, e14, e15] μ' ∧ Bag (n + 12) v' μ' ∧ Gd v' p ∧ Gd v' q ∧ Gd v' r ∧ Gd v' t := by
  obtain ⟨p, μ1, x1, B1, g1⟩ := any_ok B (by omega)
  obtain ⟨q, μ2, x2, B2, g2⟩ := any_ok B1 (by omega)
  obtain ⟨r, μ3, x3, B3, g3⟩ := any_ok B2 (by omega)
  obtain ⟨t, μ4, x4, B4, g4⟩ := any_ok B3 (by omega)
  have m4 : mkT [p, q, r, t] = some (.tup [p, q, r, t]) := rfl
  have tg : tgT 4 (tgCons (tgN 8) (tgCons (tgN 9) (tgCons (tgN 10) (tgCons (tgN 11) tgNil)))) (.tup [p, q, r, t]) [some (.sh s), some (.sh (.cell 0)), some (.sh w), e3, e4, e5, e6, e7, e8, e9, e10, e11, e12, e13, e14, e15] μ4 =
      .ok () [some (.sh s), some (.sh (.cell 0)), some (.sh w), e3, e4, e5, e6, e7, some (.sh p), some (.sh q), some (.sh r), some (.sh t), e12, e13, e14, e15] μ4 := rfl
  have en : n + 12 = n + 3 + 3 + 3 + 3 := by omega
  rw [en]
  refine ⟨p, q, r, t, _, μ4, ?_, B4, ?_, ?_, ?_, g4⟩
  · simp only [tA, asgM_ap, runD_ap, List.length_cons, List.length_nil, Nat.reduceAdd, Nat.reduceSub, List.map_cons, List.map_nil, List.replicate_succ, List.replicate_zero, List.cons_append, List.nil_append, seqM_ap, sq_nx, sq_rt, stiM_ap, bnd_ap, bo_ok, op2_ap, op2v_ap, op1_ap, cst_ap, lift_so, ret_ap, pek_ap, lett_ap, pekD, List.getElem?_cons_zero, List.getElem?_cons_succ, ix_l, ix50, ix51, ix52, ix53, ix54, isLst, lstUp, lstAt, lstPut, Option.map_some, add_ii, List.set_cons_zero, List.set_cons_succ, ifS_ap, andM_ap, tst_ap, eq_ii, lt_ii, gt_ii, ge_ii, len_l, asBl_b, bf_t, bf_f, bf_d, if_true, if_false, ite_true, ite_false, decide_true, decide_false, setM_ap, put_ap, skp_ap, rtM_ap, ri_rt, int_i, abs_i, ixN50, ixN51, ixN52, ixN53, ixN54, tupM_ap, acons_ap, anil_ap, calM_ap, rb_ok, x1, x2, x3, x4, m4, tg]
  · exact ((g1.app _).app _).app _
  · exact (g2.app _).app _
  · exact g3.app _
def rwA (p q : D) (n : Nat) : D := if (n : Int) ∈ [(9 : Int), 10, 13, 14, 15, 16, 20, 23, 37, 43] then .tup [p, q] else .tup [p]
theorem tB_ok {μ : Sto} {s w p q r t : D} {e3 e4 e5 e6 e7 e12 e13 e14 e15 : Option Ent} : tB [some (.sh s), some (.sh (.cell 0)), some (.sh w), e3, e4, e5, e6, e7, some (.sh p), some (.sh q), some (.sh r), some (.sh t), e12, e13, e14, e15] μ =
    .ok .nx [some (.sh s), some (.sh (.cell 0)), some (.sh w), e3, some (.sh (.lst ((List.range 45).map (rwA p q)))), e5, e6, e7, some (.sh p), some (.sh q), some (.sh r), some (.sh t), shO (some e12), e13, e14, e15] μ := by
  have lc := lcT (ρ := [some (.sh s), some (.sh (.cell 0)), some (.sh w), e3, e4, e5, e6, e7, some (.sh p), some (.sh q), some (.sh r), some (.sh t), e12, e13, e14, e15]) (μ := μ) (i := 12)
    (fe := ifM (tst (op2 inD (lett 12) (lstM (acons (cst (.int 9)) (acons (cst (.int 10)) (acons (cst (.int 13)) (acons (cst (.int 14)) (acons (cst (.int 15)) (acons (cst (.int 16)) (acons (cst (.int 20)) (acons (cst (.int 23)) (acons (cst (.int 37)) (acons (cst (.int 43)) anil))))))))))))) (tupM (acons (lett 8) (acons (lett 9) anil))) (tupM (acons (lett 8) anil)))
    (fun k : Nat => D.int ((k : Nat) : Int)) (rwA p q) (List.range 45) (by decide) (fun n _ => by
      have i := in_intsL (n : Int) [9, 10, 13, 14, 15, 16, 20, 23, 37, 43]
      simp only [List.map_cons, List.map_nil] at i
      have m1 : mkL [D.int 9, .int 10, .int 13, .int 14, .int 15, .int 16, .int 20, .int 23, .int 37, .int 43] = some (.lst [.int 9, .int 10, .int 13, .int 14, .int 15, .int 16, .int 20, .int 23, .int 37, .int 43]) := rfl
      have m2 : mkT [p, q] = some (.tup [p, q]) := rfl
      have m3 : mkT [p] = some (.tup [p]) := rfl
      by_cases hc : (n : Int) ∈ [(9 : Int), 10, 13, 14, 15, 16, 20, 23, 37, 43]
      · have r : rwA p q n = .tup [p, q] := if_pos hc
        rw [decide_eq_true hc] at i
        rw [r]
        simp only [ifM_ap, runD_ap, List.length_cons, List.length_nil, Nat.reduceAdd, Nat.reduceSub, List.map_cons, List.map_nil, List.replicate_succ, List.replicate_zero, List.cons_append, List.nil_append, seqM_ap, sq_nx, sq_rt, stiM_ap, bnd_ap, bo_ok, op2_ap, op2v_ap, op1_ap, cst_ap, lift_so, ret_ap, pek_ap, lett_ap, pekD, List.getElem?_cons_zero, List.getElem?_cons_succ, ix_l, ix50, ix51, ix52, ix53, ix54, isLst, lstUp, lstAt, lstPut, Option.map_some, add_ii, List.set_cons_zero, List.set_cons_succ, ifS_ap, andM_ap, tst_ap, eq_ii, lt_ii, gt_ii, ge_ii, len_l, asBl_b, bf_t, bf_f, bf_d, if_true, if_false, ite_true, ite_false, decide_true, decide_false, setM_ap, put_ap, skp_ap, rtM_ap, ri_rt, int_i, abs_i, ixN50, ixN51, ixN52, ixN53, ixN54, lstM_ap, acons_ap, anil_ap, tupM_ap, m1, m2, i]
      · have r : rwA p q n = .tup [p] := if_neg hc
        rw [decide_eq_false hc] at i
        rw [r]
        simp only [ifM_ap, runD_ap, List.length_cons, List.length_nil, Nat.reduceAdd, Nat.reduceSub, List.map_cons, List.map_nil, List.replicate_succ, List.replicate_zero, List.cons_append, List.nil_append, seqM_ap, sq_nx, sq_rt, stiM_ap, bnd_ap, bo_ok, op2_ap, op2v_ap, op1_ap, cst_ap, lift_so, ret_ap, pek_ap, lett_ap, pekD, List.getElem?_cons_zero, List.getElem?_cons_succ, ix_l, ix50, ix51, ix52, ix53, ix54, isLst, lstUp, lstAt, lstPut, Option.map_some, add_ii, List.set_cons_zero, List.set_cons_succ, ifS_ap, andM_ap, tst_ap, eq_ii, lt_ii, gt_ii, ge_ii, len_l, asBl_b, bf_t, bf_f, bf_d, if_true, if_false, ite_true, ite_false, decide_true, decide_false, setM_ap, put_ap, skp_ap, rtM_ap, ri_rt, int_i, abs_i, ixN50, ixN51, ixN52, ixN53, ixN54, lstM_ap, acons_ap, anil_ap, tupM_ap, m1, m3, i, Bool.false_eq_true])
  have e : (List.range 45).map (fun k : Nat => D.int ((k : Nat) : Int)) = rng 45 := rfl
  rw [e] at lc
  simp only [tB, setM_ap, lcM_ap, rngM1_ap, runD_ap, List.length_cons, List.length_nil, Nat.reduceAdd, Nat.reduceSub, List.map_cons, List.map_nil, List.replicate_succ, List.replicate_zero, List.cons_append, List.nil_append, seqM_ap, sq_nx, sq_rt, stiM_ap, bnd_ap, bo_ok, op2_ap, op2v_ap, op1_ap, cst_ap, lift_so, ret_ap, pek_ap, lett_ap, pekD, List.getElem?_cons_zero, List.getElem?_cons_succ, ix_l, ix50, ix51, ix52, ix53, ix54, isLst, lstUp, lstAt, lstPut, Option.map_some, add_ii, List.set_cons_zero, List.set_cons_succ, ifS_ap, andM_ap, tst_ap, eq_ii, lt_ii, gt_ii, ge_ii, len_l, asBl_b, bf_t, bf_f, bf_d, if_true, if_false, ite_true, ite_false, decide_true, decide_false, setM_ap, put_ap, skp_ap, rtM_ap, ri_rt, int_i, abs_i, ixN50, ixN51, ixN52, ixN53, ixN54, acons_ap, anil_ap, r45, lc]
def rwB (p q r t : D) (n : Nat) : D := if (n : Int) ∈ [(26 : Int), 33, 34, 38, 39, 44] then .tup [] else if (n : Int) = 19 then .tup [p, q, r, t] else rwA p q n
theorem rwB_eq (p q r t : D) : (List.range 45).map (rwB p q r t) = (List.range 45).map fun n => .tup (rowV p q r t n) := by
  refine List.map_congr_left fun n hn => ?_
  have hn : n < 45 := List.mem_range.mp hn
  have k : ∀ m : Nat, m < 45 → (decide ((m : Int) ∈ [(26 : Int), 33, 34, 38, 39, 44]) = decide (m ∈ [26, 33, 34, 38, 39, 44])) ∧ (decide ((m : Int) = 19) = decide (m = 19)) ∧ (decide ((m : Int) ∈ [(9 : Int), 10, 13, 14, 15, 16, 20, 23, 37, 43]) = decide (m ∈ [9, 10, 13, 14, 15, 16, 20, 23, 37, 43])) := by decide
  obtain ⟨k1, k2, k3⟩ := k n hn
  have k1 := decide_eq_decide.mp k1
  have k2 := decide_eq_decide.mp k2
  have k3 := decide_eq_decide.mp k3
  unfold rwB rwA rowV
  simp only [k1, k2, k3]
  split
  · rfl
  · split
    · rfl
    · split <;> rfl
theorem tC_ok {μ : Sto} {s w p q r t : D} {e3 e5 e6 e7 e12 e13 e14 e15 : Option Ent} : tC [some (.sh s), some (.sh (.cell 0)), some (.sh w), e3, some (.sh (.lst ((List.range 45).map (rwA p q)))), e5, e6, e7, some (.sh p), some (.sh q), some (.sh r), some (.sh t), e12, e13, e14, e15] μ =
    .ok .nx [some (.sh s), some (.sh (.cell 0)), some (.sh w), e3, some (.sh (.lst ((List.range 45).map fun n => .tup (rowV p q r t n)))), e5, e6, e7, some (.sh p), some (.sh q), some (.sh r), some (.sh t), shO (some e12), e13, e14, e15] μ := by
  rw [← rwB_eq]
  have at1 : ∀ n < 45, ((List.range 45).map (rwA p q))[n]? = some (rwA p q n) := fun n hn => by rw [List.getElem?_map, List.getElem?_range hn] <;> rfl
  obtain ⟨L, hL⟩ : ∃ L, (List.range 45).map (rwA p q) = L := ⟨_, rfl⟩
  rw [hL] at at1 ⊢
  have lc := lcT (ρ := [some (.sh s), some (.sh (.cell 0)), some (.sh w), e3, some (.sh (.lst L)), e5, e6, e7, some (.sh p), some (.sh q), some (.sh r), some (.sh t), e12, e13, e14, e15]) (μ := μ) (i := 12)
    (fe := ifM (tst (op2 inD (lett 12) (lstM (acons (cst (.int 26)) (acons (cst (.int 33)) (acons (cst (.int 34)) (acons (cst (.int 38)) (acons (cst (.int 39)) (acons (cst (.int 44)) anil))))))))) (tupM anil) (ifM (tst (op2 eqQ (lett 12) (cst (.int 19)))) (tupM (acons (lett 8) (acons (lett 9) (acons (lett 10) (acons (lett 11) anil))))) (op2v ixD 4 (lett 12))))
    (fun k : Nat => D.int ((k : Nat) : Int)) (rwB p q r t) (List.range 45) (by decide) (fun n hn => by
      have hn : n < 45 := List.mem_range.mp hn
      have i := in_intsL (n : Int) [26, 33, 34, 38, 39, 44]
      simp only [List.map_cons, List.map_nil] at i
      have m1 : mkL [D.int 26, .int 33, .int 34, .int 38, .int 39, .int 44] = some (.lst [.int 26, .int 33, .int 34, .int 38, .int 39, .int 44]) := rfl
      have m2 : mkT [p, q, r, t] = some (.tup [p, q, r, t]) := rfl
      have m3 : mkT [] = some (.tup []) := rfl
      have q1 : eqQ (.int ((n : Nat) : Int)) (.int 19) = some (.bl (decide ((n : Int) = 19))) := rfl
      have a1 := atR (at1 n hn)
      have a2 : L2.atI L ((n : Nat) : Int) = some (rwA p q n) := a1
      by_cases hc : (n : Int) ∈ [(26 : Int), 33, 34, 38, 39, 44]
      · have r : rwB p q r t n = .tup [] := if_pos hc
        rw [decide_eq_true hc] at i
        rw [r]
        simp only [ifM_ap, runD_ap, List.length_cons, List.length_nil, Nat.reduceAdd, Nat.reduceSub, List.map_cons, List.map_nil, List.replicate_succ, List.replicate_zero, List.cons_append, List.nil_append, seqM_ap, sq_nx, sq_rt, stiM_ap, bnd_ap, bo_ok, op2_ap, op2v_ap, op1_ap, cst_ap, lift_so, ret_ap, pek_ap, lett_ap, pekD, List.getElem?_cons_zero, List.getElem?_cons_succ, ix_l, ix50, ix51, ix52, ix53, ix54, isLst, lstUp, lstAt, lstPut, Option.map_some, add_ii, List.set_cons_zero, List.set_cons_succ, ifS_ap, andM_ap, tst_ap, eq_ii, lt_ii, gt_ii, ge_ii, len_l, asBl_b, bf_t, bf_f, bf_d, if_true, if_false, ite_true, ite_false, decide_true, decide_false, setM_ap, put_ap, skp_ap, rtM_ap, ri_rt, int_i, abs_i, ixN50, ixN51, ixN52, ixN53, ixN54, lstM_ap, acons_ap, anil_ap, tupM_ap, m1, m3, i]
      · rw [decide_eq_false hc] at i
        by_cases h19 : (n : Int) = 19
        · have r : rwB p q r t n = .tup [p, q, r, t] := (if_neg hc).trans (if_pos h19)
          have d19 : decide ((n : Int) = 19) = true := decide_eq_true h19
          rw [r]
          simp only [ifM_ap, runD_ap, List.length_cons, List.length_nil, Nat.reduceAdd, Nat.reduceSub, List.map_cons, List.map_nil, List.replicate_succ, List.replicate_zero, List.cons_append, List.nil_append, seqM_ap, sq_nx, sq_rt, stiM_ap, bnd_ap, bo_ok, op2_ap, op2v_ap, op1_ap, cst_ap, lift_so, ret_ap, pek_ap, lett_ap, pekD, List.getElem?_cons_zero, List.getElem?_cons_succ, ix_l, ix50, ix51, ix52, ix53, ix54, isLst, lstUp, lstAt, lstPut, Option.map_some, add_ii, List.set_cons_zero, List.set_cons_succ, ifS_ap, andM_ap, tst_ap, eq_ii, lt_ii, gt_ii, ge_ii, len_l, asBl_b, bf_t, bf_f, bf_d, if_true, if_false, ite_true, ite_false, decide_true, decide_false, setM_ap, put_ap, skp_ap, rtM_ap, ri_rt, int_i, abs_i, ixN50, ixN51, ixN52, ixN53, ixN54, lstM_ap, acons_ap, anil_ap, tupM_ap, m1, m2, i, q1, Bool.false_eq_true, d19]
        · have r : rwB p q r t n = rwA p q n := (if_neg hc).trans (if_neg h19)
          have d19 : decide ((n : Int) = 19) = false := decide_eq_false h19
          rw [r]
          simp only [ifM_ap, runD_ap, List.length_cons, List.length_nil, Nat.reduceAdd, Nat.reduceSub, List.map_cons, List.map_nil, List.replicate_succ, List.replicate_zero, List.cons_append, List.nil_append, seqM_ap, sq_nx, sq_rt, stiM_ap, bnd_ap, bo_ok, op2_ap, op2v_ap, op1_ap, cst_ap, lift_so, ret_ap, pek_ap, lett_ap, pekD, List.getElem?_cons_zero, List.getElem?_cons_succ, ix_l, ix50, ix51, ix52, ix53, ix54, isLst, lstUp, lstAt, lstPut, Option.map_some, add_ii, List.set_cons_zero, List.set_cons_succ, ifS_ap, andM_ap, tst_ap, eq_ii, lt_ii, gt_ii, ge_ii, len_l, asBl_b, bf_t, bf_f, bf_d, if_true, if_false, ite_true, ite_false, decide_true, decide_false, setM_ap, put_ap, skp_ap, rtM_ap, ri_rt, int_i, abs_i, ixN50, ixN51, ixN52, ixN53, ixN54, lstM_ap, acons_ap, anil_ap, tupM_ap, m1, i, q1, Bool.false_eq_true, a2, d19])
  have e : (List.range 45).map (fun k : Nat => D.int ((k : Nat) : Int)) = rng 45 := rfl
  rw [e] at lc
  simp only [tC, setM_ap, lcM_ap, rngM1_ap, runD_ap, List.length_cons, List.length_nil, Nat.reduceAdd, Nat.reduceSub, List.map_cons, List.map_nil, List.replicate_succ, List.replicate_zero, List.cons_append, List.nil_append, seqM_ap, sq_nx, sq_rt, stiM_ap, bnd_ap, bo_ok, op2_ap, op2v_ap, op1_ap, cst_ap, lift_so, ret_ap, pek_ap, lett_ap, pekD, List.getElem?_cons_zero, List.getElem?_cons_succ, ix_l, ix50, ix51, ix52, ix53, ix54, isLst, lstUp, lstAt, lstPut, Option.map_some, add_ii, List.set_cons_zero, List.set_cons_succ, ifS_ap, andM_ap, tst_ap, eq_ii, lt_ii, gt_ii, ge_ii, len_l, asBl_b, bf_t, bf_f, bf_d, if_true, if_false, ite_true, ite_false, decide_true, decide_false, setM_ap, put_ap, skp_ap, rtM_ap, ri_rt, int_i, abs_i, ixN50, ixN51, ixN52, ixN53, ixN54, acons_ap, anil_ap, r45, lc]
theorem tD_ok {μ : Sto} {s w p q r t : D} {e3 e4 e5 e6 e7 e12 e13 e14 e15 : Option Ent} : tD [some (.sh s), some (.sh (.cell 0)), some (.sh w), e3, e4, e5, e6, e7, some (.sh p), some (.sh q), some (.sh r), some (.sh t), e12, e13, e14, e15] μ =
    .ok .nx [some (.sh s), some (.sh (.cell 0)), some (.sh w), e3, e4, some (.sh (.lst (cellsFrom μ.length 45))), e6, e7, some (.sh p), some (.sh q), some (.sh r), some (.sh t), e12, e13, e14, e15] (μ ++ EL t r q p) := by
  have x := place_ok t r q p μ
  simp only [tD, setM_ap, runD_ap, List.length_cons, List.length_nil, Nat.reduceAdd, Nat.reduceSub, List.map_cons, List.map_nil, List.replicate_succ, List.replicate_zero, List.cons_append, List.nil_append, seqM_ap, sq_nx, sq_rt, stiM_ap, bnd_ap, bo_ok, op2_ap, op2v_ap, op1_ap, cst_ap, lift_so, ret_ap, pek_ap, lett_ap, pekD, List.getElem?_cons_zero, List.getElem?_cons_succ, ix_l, ix50, ix51, ix52, ix53, ix54, isLst, lstUp, lstAt, lstPut, Option.map_some, add_ii, List.set_cons_zero, List.set_cons_succ, ifS_ap, andM_ap, tst_ap, eq_ii, lt_ii, gt_ii, ge_ii, len_l, asBl_b, bf_t, bf_f, bf_d, if_true, if_false, ite_true, ite_false, decide_true, decide_false, setM_ap, put_ap, skp_ap, rtM_ap, ri_rt, int_i, abs_i, ixN50, ixN51, ixN52, ixN53, ixN54, calM_ap, acons_ap, anil_ap, x, rb_ok]
end L2.DL.K00

namespace L2.DL.K00
open PySem PySem.Spec PyProof.Rows
theorem erf_at {ρ : Env} {μ : Sto} {i : Nat} {d v : D} {f c : Str} {ns : List Str} {vs : List D} (h : ρ[i]? = some (some (.sh d))) (e : errOf d μ = some (c, ns, vs)) (hc : c ∈ csT) (hf : f ∈ fsT) (l : (ns.zip vs).lookup f = some v) : erfV csT fsT f i ρ μ = .ok v ρ μ := by
  unfold erfV
  rw [h]
  show (match errOf d μ with
    | some (c, ns, vs) => if c ∈ csT ∧ f ∈ fsT then lift ((ns.zip vs).lookup f) ρ μ else .no
    | none => .no) = _
  rw [e]
  show (if c ∈ csT ∧ f ∈ fsT then lift ((ns.zip vs).lookup f) ρ μ else .no) = _
  rw [if_pos ⟨hc, hf⟩, l] <;> rfl
theorem rowV_mem {p q r t : D} {n : Nat} {d : D} (h : d ∈ rowV p q r t n) : d = p ∨ d = q ∨ d = r ∨ d = t := by
  unfold rowV at h
  split at h
  · cases h
  · split at h
    · simpa using h
    · split at h
      · simp at h; rcases h with h | h <;> simp [h]
      · simp at h; simp [h]
theorem rowV_len (p q r t : D) (n : Nat) : (rowV p q r t n).length ≤ 4 := by
  unfold rowV
  split
  · decide
  · split
    · show 4 ≤ 4; decide
    · split
      · show 2 ≤ 4; decide
      · show 1 ≤ 4; decide
theorem bls_sm {μ : Sto} {n : Nat} {L : List Bool} (h : L.length ≤ 1000) : Sm μ (n + 2) (.lst (L.map D.bl)) := .lst _ (by rw [List.length_map]; exact h) fun d hd => by
  obtain ⟨b, _, rfl⟩ := List.mem_map.mp hd
  exact .bl _ b
theorem eqs_eq (n : Nat) : (List.range 45).map (fun m : Nat => D.bl (decide ((m : Int) = (n : Int)))) = ((List.range 45).map (fun m => decide (m = n))).map D.bl := by
  rw [List.map_map]
  refine List.map_congr_left fun m _ => ?_
  show D.bl _ = D.bl _
  congr 1
  exact decide_eq_decide.mpr (by omega)
theorem body_ok {μ1 v : Sto} {s p q r t : D} {e3 e5 e7 e8 e9 e10 e11 e13 e14 e15 : Option Ent} {n : Nat} (hn : n < 45) (sm : ∀ d, d = p ∨ d = q ∨ d = r ∨ d = t → Sm (μ1 ++ EL p q r t ++ v) 3 d) :
    (seqM b1 (seqM b2 (seqM b3 b4))) [some (.sh s), some (.sh (.cell 0)), some (.sh W0), e3, some (.sh (.lst ((List.range 45).map fun n => .tup (rowV p q r t n)))), e5, some (.sh (.lst (cellsFrom μ1.length 45))), e7, e8, e9, e10, e11, some (.sh (.int (n : Int))), e13, e14, e15] (μ1 ++ EL p q r t ++ v) =
      .ok .nx [some (.sh s), some (.sh (.cell 0)), some (.sh W0), e3, some (.sh (.lst ((List.range 45).map fun n => .tup (rowV p q r t n)))), e5, some (.sh (.lst (cellsFrom μ1.length 45))), e7, e8, e9, e10, e11, some (.sh (.int (n : Int))), some (.sh (.cell (μ1.length + n))), e14, shO (some e15)] (μ1 ++ EL p q r t ++ v) := by
  obtain ⟨c, ns, vs, R1, R2, R3, R4, R5⟩ := rows_ok p q r t n hn
  have h := el_at (μ := μ1) (ν := v) R1
  have x2 := R5 _ _ h
  have x3 := sorts_ok hn R2 h
  have x4 := bases_ok hn R2 h
  have a1 : L2.atI (cellsFrom μ1.length 45) (n : Int) = some (.cell (μ1.length + n)) := atR (cells_at 45 μ1.length n hn)
  have a2 : L2.atI ((List.range 45).map fun n => D.tup (rowV p q r t n)) (n : Int) = some (.tup (rowV p q r t n)) := atR (by rw [List.getElem?_map, List.getElem?_range hn] <;> rfl)
  have a3 : L2.atI (cN.map D.str) (n : Int) = some (.str c) := atR (by rw [List.getElem?_map, R2] <;> rfl)
  have fc : ("code" : Str) ∈ fsT := by decide +kernel
  have sm1 : Sm (μ1 ++ EL p q r t ++ v) 6 (.lst [.tup (rowV p q r t n), .str c]) := .lst _ (by show 2 ≤ 1000; decide) fun d hd => by
    simp only [List.mem_cons, List.not_mem_nil, or_false] at hd
    rcases hd with rfl | rfl
    · exact .tup _ (Nat.le_trans (rowV_len p q r t n) (by decide)) fun d hd => (sm d (rowV_mem hd)).le (by decide)
    · exact .str _ _
  have s1 := same_ok sm1
  have s2 := same_ok (bls_sm (μ := μ1 ++ EL p q r t ++ v) (n := 4) (L := (List.range 45).map fun m => decide (m = n)) (by simp))
  have s3 := same_ok (bls_sm (μ := μ1 ++ EL p q r t ++ v) (n := 4) (L := bas6 n) (by show 6 ≤ 1000; decide))
  have m1 : mkL [D.tup (rowV p q r t n), .str c] = some (.lst [.tup (rowV p q r t n), .str c]) := rfl
  have i3 := in_intsL (n : Int) [40, 41, 42]
  simp only [List.map_cons, List.map_nil] at i3
  have m3 : mkL [D.int 40, .int 41, .int 42] = some (.lst [.int 40, .int 41, .int 42]) := rfl
  have b6 : (bas6 n).map D.bl = [.bl (decide ((n : Int) < 40)), .bl (decide ((n : Int) < 40)), .bl (decide ((n : Int) ∈ [(40 : Int), 41, 42])), .bl (decide ((39 : Int) < n)), .bl (decide ((42 : Int) < n)), .bl false] := rfl
  rw [b6] at x4 s3
  generalize decide ((n : Int) ∈ [(40 : Int), 41, 42]) = t3 at x4 s3 i3
  have m6 : mkL [D.bl (decide ((n : Int) < 40)), .bl (decide ((n : Int) < 40)), .bl t3, .bl (decide ((39 : Int) < n)), .bl (decide ((42 : Int) < n)), .bl false] = some (.lst [.bl (decide ((n : Int) < 40)), .bl (decide ((n : Int) < 40)), .bl t3, .bl (decide ((39 : Int) < n)), .bl (decide ((42 : Int) < n)), .bl false]) := rfl
  obtain ⟨CL, hCL⟩ : ∃ L, cellsFrom μ1.length 45 = L := ⟨_, rfl⟩
  obtain ⟨RL, hRL⟩ : ∃ L, ((List.range 45).map fun n => D.tup (rowV p q r t n)) = L := ⟨_, rfl⟩
  obtain ⟨WL, hWL⟩ : ∃ L, cN.map D.str = L := ⟨_, rfl⟩
  obtain ⟨μ, hμ⟩ : ∃ m, μ1 ++ EL p q r t ++ v = m := ⟨_, rfl⟩
  obtain ⟨F, hF⟩ : ∃ F, D.tup (rowV p q r t n) = F := ⟨_, rfl⟩
  obtain ⟨S, hS⟩ : ∃ S, ((List.range 45).map fun m => decide (m = n)).map D.bl = S := ⟨_, rfl⟩
  rw [hμ] at h x2 x3 x4 s1 s2 s3
  rw [hF] at x2 s1 m1 a2
  rw [hCL] at a1
  rw [hRL] at a2
  rw [hWL] at a3
  rw [hS] at x3 s2
  unfold W0
  rw [hCL, hRL, hWL, hμ]
  have er := erf_at (ρ := [some (.sh s), some (.sh (.cell 0)), some (.sh (.lst WL)), e3, some (.sh (.lst RL)), e5, some (.sh (.lst CL)), e7, e8, e9, e10, e11, some (.sh (.int (n : Int))), some (.sh (.cell (μ1.length + n))), e14, e15]) (μ := μ) (i := 13) (f := "code") rfl h R4 fc R3
  have lc := lcT (ρ := [some (.sh s), some (.sh (.cell 0)), some (.sh (.lst WL)), e3, some (.sh (.lst RL)), e5, some (.sh (.lst CL)), e7, e8, e9, e10, e11, some (.sh (.int (n : Int))), some (.sh (.cell (μ1.length + n))), e14, e15]) (μ := μ) (i := 15) (fe := op2 eqQ (lett 15) (pek 12))
    (fun k : Nat => D.int ((k : Nat) : Int)) (fun m : Nat => D.bl (decide ((m : Int) = (n : Int)))) (List.range 45) (by decide) (fun m _ => by simp only [runD_ap, List.length_cons, List.length_nil, Nat.reduceAdd, Nat.reduceSub, List.map_cons, List.map_nil, List.replicate_succ, List.replicate_zero, List.cons_append, List.nil_append, seqM_ap, sq_nx, sq_rt, stiM_ap, bnd_ap, bo_ok, op2_ap, op2v_ap, op1_ap, cst_ap, lift_so, ret_ap, pek_ap, lett_ap, pekD, List.getElem?_cons_zero, List.getElem?_cons_succ, ix_l, ix50, ix51, ix52, ix53, ix54, isLst, lstUp, lstAt, lstPut, Option.map_some, add_ii, List.set_cons_zero, List.set_cons_succ, ifS_ap, andM_ap, tst_ap, eq_ii, lt_ii, gt_ii, ge_ii, len_l, asBl_b, bf_t, bf_f, bf_d, if_true, if_false, ite_true, ite_false, decide_true, decide_false, setM_ap, put_ap, skp_ap, rtM_ap, ri_rt, int_i, abs_i, ixN50, ixN51, ixN52, ixN53, ixN54])
  have e : (List.range 45).map (fun k : Nat => D.int ((k : Nat) : Int)) = rng 45 := rfl
  rw [e, eqs_eq, hS] at lc
  simp only [b1, b2, b3, b4, runD_ap, List.length_cons, List.length_nil, Nat.reduceAdd, Nat.reduceSub, List.map_cons, List.map_nil, List.replicate_succ, List.replicate_zero, List.cons_append, List.nil_append, seqM_ap, sq_nx, sq_rt, stiM_ap, bnd_ap, bo_ok, op2_ap, op2v_ap, op1_ap, cst_ap, lift_so, ret_ap, pek_ap, lett_ap, pekD, List.getElem?_cons_zero, List.getElem?_cons_succ, ix_l, ix50, ix51, ix52, ix53, ix54, isLst, lstUp, lstAt, lstPut, Option.map_some, add_ii, List.set_cons_zero, List.set_cons_succ, ifS_ap, andM_ap, tst_ap, eq_ii, lt_ii, gt_ii, ge_ii, len_l, asBl_b, bf_t, bf_f, bf_d, if_true, if_false, ite_true, ite_false, decide_true, decide_false, setM_ap, put_ap, skp_ap, rtM_ap, ri_rt, int_i, abs_i, ixN50, ixN51, ixN52, ixN53, ixN54, notM_ap, tru_ap, tru_b, calM_ap, acons_ap, anil_ap, rb_ok, lstM_ap, a1, a2, a3, x2, er, m1, s1, Bool.not_true, x3, lcM_ap, rngM1_ap, r45, lc, s2, x4, m3, i3, m6, s3]
end L2.DL.K00

namespace L2.DL.K00
open PySem PySem.Spec PyProof.Rows
theorem Wp_seq {f g : Mo Fl} {ρ ρ1 : Env} {μ μ1 : Sto} {Q : Fl → Env → Sto → Prop} (h : f ρ μ = .ok .nx ρ1 μ1) (k : Wp (g ρ1 μ1) Q) : Wp (seqM f g ρ μ) Q := by
  rw [seqM_ap, h]
  exact k
theorem Wp_seqW {f g : Mo Fl} {ρ : Env} {μ : Sto} {Q : Fl → Env → Sto → Prop} (h : Wp (f ρ μ) fun fl ρ μ => fl = .nx ∧ Wp (g ρ μ) Q) : Wp (seqM f g ρ μ) Q := by
  rw [seqM_ap]
  refine Wp_sq (h.mono fun fl ρ μ z => ?_)
  obtain ⟨rfl, z⟩ := z
  exact z
theorem rng_at {n i : Nat} {d : D} (h : (rng n)[i]? = some d) : i < n ∧ d = .int ((i : Nat) : Int) := by
  unfold rng at h
  rw [List.getElem?_map] at h
  obtain ⟨k, hk, e⟩ := Option.map_eq_some_iff.mp h
  have hl : i < n := by simpa using (List.getElem?_eq_some_iff.mp hk).1
  rw [List.getElem?_range hl] at hk
  cases hk
  exact ⟨hl, e.symm⟩
theorem tI_ok {μ1 v : Sto} {s p q r t : D} {e3 e5 e7 e8 e9 e10 e11 e12 e13 e14 e15 : Option Ent} (sm : ∀ d, d = p ∨ d = q ∨ d = r ∨ d = t → Sm (μ1 ++ EL p q r t ++ v) 3 d) :
    Wp (tI [some (.sh s), some (.sh (.cell 0)), some (.sh W0), e3, some (.sh (.lst ((List.range 45).map fun n => .tup (rowV p q r t n)))), e5, some (.sh (.lst (cellsFrom μ1.length 45))), e7, e8, e9, e10, e11, e12, e13, e14, e15] (μ1 ++ EL p q r t ++ v))
      fun fl ρ μ' => fl = .nx ∧ μ' = μ1 ++ EL p q r t ++ v ∧ ∃ e12 e13 e15, ρ = [some (.sh s), some (.sh (.cell 0)), some (.sh W0), e3, some (.sh (.lst ((List.range 45).map fun n => .tup (rowV p q r t n)))), e5, some (.sh (.lst (cellsFrom μ1.length 45))), e7, e8, e9, e10, e11, e12, e13, e14, e15] := by
  unfold tI
  simp only [forM_ap, rngM1_ap, acons_ap, anil_ap, cst_ap, bo_ok, bnd_ap, ret_ap, r45, lift_so]
  refine Wp_for (fun _ ρ μ' => μ' = μ1 ++ EL p q r t ++ v ∧ ∃ e12 e13 e15, ρ = [some (.sh s), some (.sh (.cell 0)), some (.sh W0), e3, some (.sh (.lst ((List.range 45).map fun n => .tup (rowV p q r t n)))), e5, some (.sh (.lst (cellsFrom μ1.length 45))), e7, e8, e9, e10, e11, e12, e13, e14, e15]) ⟨rfl, _, _, _, rfl⟩ (fun i d ρ μ hd ⟨h1, e12, e13, e15, h2⟩ => ?_) (fun ρ μ z => ⟨rfl, z⟩)
  subst h1 h2
  obtain ⟨hi, rfl⟩ := rng_at hd
  have x := body_ok (μ1 := μ1) (v := v) (s := s) (e3 := e3) (e5 := e5) (e7 := e7) (e8 := e8) (e9 := e9) (e10 := e10) (e11 := e11) (e13 := e13) (e14 := e14) (e15 := e15) hi sm
  show Wp ((seqM b1 (seqM b2 (seqM b3 b4))) [some (.sh s), some (.sh (.cell 0)), some (.sh W0), e3, some (.sh (.lst ((List.range 45).map fun n => .tup (rowV p q r t n)))), e5, some (.sh (.lst (cellsFrom μ1.length 45))), e7, e8, e9, e10, e11, some (.sh (.int (i : Int))), e13, e14, e15] (μ1 ++ EL p q r t ++ v)) _
  rw [x]
  exact ⟨rfl, _, _, _, rfl⟩
end L2.DL.K00

namespace L2.DL.K00
open PySem PySem.Spec PyProof.Rows
theorem cut1 {t r q p : D} : ∀ n : Nat, n ∈ [0, 9, 19, 37, 40, 43] → n < 45 ∧ slD (.tup (rowV t r q p n)) none (some 1) = some (.tup [t]) := fun n h => by
  simp only [List.mem_cons, List.not_mem_nil, or_false] at h
  rcases h with rfl | rfl | rfl | rfl | rfl | rfl <;> exact ⟨by decide, rfl⟩
theorem tF_ok {μ5 v : Sto} {s w p q r t : D} {e3 e4 e6 e7 e12 e13 e14 e15 : Option Ent} (sm : Sm (μ5 ++ EL t r q p ++ v) 3 t) :
    tF [some (.sh s), some (.sh (.cell 0)), some (.sh w), e3, e4, some (.sh (.lst (cellsFrom μ5.length 45))), e6, e7, some (.sh p), some (.sh q), some (.sh r), some (.sh t), e12, e13, e14, e15] (μ5 ++ EL t r q p ++ v) =
      .ok .nx [some (.sh s), some (.sh (.cell 0)), some (.sh w), e3, e4, some (.sh (.lst (cellsFrom μ5.length 45))), e6, e7, some (.sh p), some (.sh q), some (.sh r), some (.sh t), shO (some e12), e13, e14, e15] (μ5 ++ EL t r q p ++ v) := by
  have at1 : ∀ n < 45, (cellsFrom μ5.length 45)[n]? = some (.cell (μ5.length + n)) := fun n hn => cells_at 45 μ5.length n hn
  have fl : ∀ n : Nat, n < 45 → G_lfields [.int (n : Int), .cell (μ5.length + n)] (μ5 ++ EL t r q p ++ v) = .ok (.tup (rowV t r q p n)) (μ5 ++ EL t r q p ++ v) := fun n hn => by
    obtain ⟨c, ns, vs, R1, R2, R3, R4, R5⟩ := rows_ok t r q p n hn
    exact R5 _ _ (el_at R1)
  have s1 := same_ok (μ := μ5 ++ EL t r q p ++ v) (n := 6) (d := .lst [.tup [t], .tup [t], .tup [t], .tup [t], .tup [t], .tup [t]]) (.lst _ (by show 6 ≤ 1000; decide) fun d hd => by
    have e : d = .tup [t] := by simpa using hd
    rw [e]
    exact .tup _ (by show 1 ≤ 1000; decide) fun d hd => by
      rw [List.mem_singleton.mp hd]
      exact sm.up)
  obtain ⟨L, hL⟩ : ∃ L, cellsFrom μ5.length 45 = L := ⟨_, rfl⟩
  obtain ⟨μ, hμ⟩ : ∃ m, μ5 ++ EL t r q p ++ v = m := ⟨_, rfl⟩
  rw [hL] at at1
  rw [hμ] at fl s1
  rw [hL, hμ]
  have lc := lcT (ρ := [some (.sh s), some (.sh (.cell 0)), some (.sh w), e3, e4, some (.sh (.lst L)), e6, e7, some (.sh p), some (.sh q), some (.sh r), some (.sh t), e12, e13, e14, e15]) (μ := μ) (i := 12)
    (fe := slM (calM G_lfields (acons (lett 12) (acons (op2v ixD 5 (lett 12)) anil))) noP (prt (cst (.int 1)))) (fun k : Nat => D.int ((k : Nat) : Int)) (fun _ => .tup [t]) [0, 9, 19, 37, 40, 43] (by decide) (fun n hn => by
      obtain ⟨hl, c⟩ := cut1 (t := t) (r := r) (q := q) (p := p) n hn
      have x := fl n hl
      have a : L2.atI L (n : Int) = some (.cell (μ5.length + n)) := atR (at1 n hl)
      have ai : asI (.int 1) = some (some 1) := rfl
      simp only [slM_ap, noP_ap, prt_ap, runD_ap, List.length_cons, List.length_nil, Nat.reduceAdd, Nat.reduceSub, List.map_cons, List.map_nil, List.replicate_succ, List.replicate_zero, List.cons_append, List.nil_append, seqM_ap, sq_nx, sq_rt, stiM_ap, bnd_ap, bo_ok, op2_ap, op2v_ap, op1_ap, cst_ap, lift_so, ret_ap, pek_ap, lett_ap, pekD, List.getElem?_cons_zero, List.getElem?_cons_succ, ix_l, ix50, ix51, ix52, ix53, ix54, isLst, lstUp, lstAt, lstPut, Option.map_some, add_ii, List.set_cons_zero, List.set_cons_succ, ifS_ap, andM_ap, tst_ap, eq_ii, lt_ii, gt_ii, ge_ii, len_l, asBl_b, bf_t, bf_f, bf_d, if_true, if_false, ite_true, ite_false, decide_true, decide_false, setM_ap, put_ap, skp_ap, rtM_ap, ri_rt, int_i, abs_i, ixN50, ixN51, ixN52, ixN53, ixN54, calM_ap, acons_ap, anil_ap, a, x, rb_ok, ai, c])
  have e : [0, 9, 19, 37, 40, 43].map (fun k : Nat => D.int ((k : Nat) : Int)) = [.int 0, .int 9, .int 19, .int 37, .int 40, .int 43] := rfl
  have e2 : [0, 9, 19, 37, 40, 43].map (fun _ : Nat => D.tup [t]) = [.tup [t], .tup [t], .tup [t], .tup [t], .tup [t], .tup [t]] := rfl
  rw [e, e2] at lc
  have m1 : mkL [D.int 0, .int 9, .int 19, .int 37, .int 40, .int 43] = some (.lst [.int 0, .int 9, .int 19, .int 37, .int 40, .int 43]) := rfl
  have sq : (seqD (.lst [D.int 0, .int 9, .int 19, .int 37, .int 40, .int 43])).or (chrs (.lst [D.int 0, .int 9, .int 19, .int 37, .int 40, .int 43])) = some [.int 0, .int 9, .int 19, .int 37, .int 40, .int 43] := rfl
  have mx : mulX (.lst [D.tup [t]]) (.int 6) = some (.lst [.tup [t], .tup [t], .tup [t], .tup [t], .tup [t], .tup [t]]) := rfl
  have m2 : mkT [t] = some (.tup [t]) := rfl
  have m3 : mkL [D.tup [t]] = some (.lst [.tup [t]]) := rfl
  simp only [tF, runD_ap, List.length_cons, List.length_nil, Nat.reduceAdd, Nat.reduceSub, List.map_cons, List.map_nil, List.replicate_succ, List.replicate_zero, List.cons_append, List.nil_append, seqM_ap, sq_nx, sq_rt, stiM_ap, bnd_ap, bo_ok, op2_ap, op2v_ap, op1_ap, cst_ap, lift_so, ret_ap, pek_ap, lett_ap, pekD, List.getElem?_cons_zero, List.getElem?_cons_succ, ix_l, ix50, ix51, ix52, ix53, ix54, isLst, lstUp, lstAt, lstPut, Option.map_some, add_ii, List.set_cons_zero, List.set_cons_succ, ifS_ap, andM_ap, tst_ap, eq_ii, lt_ii, gt_ii, ge_ii, len_l, asBl_b, bf_t, bf_f, bf_d, if_true, if_false, ite_true, ite_false, decide_true, decide_false, setM_ap, put_ap, skp_ap, rtM_ap, ri_rt, int_i, abs_i, ixN50, ixN51, ixN52, ixN53, ixN54, notM_ap, tru_ap, tru_b, calM_ap, acons_ap, anil_ap, rb_ok, lcM_ap, walkA_ap, lstM_ap, tupM_ap, m1, sq, lc, m2, m3, mx, s1, Bool.not_true]
theorem up_sm {μ : Sto} {p q : D} (h1 : Sm μ 3 p) (h2 : Sm μ 3 q) : ∀ w, w < 7 → Sm μ 5 (upV p q w)
  | 0, _ => .tup _ (by show 2 ≤ 1000; decide) (by simp only [List.mem_cons, List.not_mem_nil, or_false]; rintro d (rfl | rfl) <;> exact .str _ _)
  | 1, _ => .tup _ (by show 2 ≤ 1000; decide) (by simp only [List.mem_cons, List.not_mem_nil, or_false]; rintro d (rfl | rfl) <;> exact .str _ _)
  | 2, _ => .tup _ (by show 2 ≤ 1000; decide) (by simp only [List.mem_cons, List.not_mem_nil, or_false]; rintro d (rfl | rfl) <;> exact .str _ _)
  | 3, _ => .tup _ (by show 2 ≤ 1000; decide) (by simp only [List.mem_cons, List.not_mem_nil, or_false]; rintro d (rfl | rfl) <;> exact .str _ _)
  | 4, _ => .tup _ (by show 4 ≤ 1000; decide) (by
    simp only [List.mem_cons, List.not_mem_nil, or_false]
    rintro d (rfl | rfl | rfl | rfl)
    · exact .str _ _
    · exact .str _ _
    · exact h1.up
    · exact h2.up)
  | 5, _ => .tup _ (by show 2 ≤ 1000; decide) (by simp only [List.mem_cons, List.not_mem_nil, or_false]; rintro d (rfl | rfl) <;> exact .str _ _)
  | 6, _ => .tup _ (by show 2 ≤ 1000; decide) (by simp only [List.mem_cons, List.not_mem_nil, or_false]; rintro d (rfl | rfl) <;> exact .str _ _)
  | _ + 7, h => absurd h (by omega)
theorem tG_ok {μ : Sto} {s w p q r t : D} {e3 e4 e5 e6 e7 e12 e13 e14 e15 : Option Ent} : seqM tG tG2 [some (.sh s), some (.sh (.cell 0)), some (.sh w), e3, e4, e5, e6, e7, some (.sh p), some (.sh q), some (.sh r), some (.sh t), e12, e13, e14, e15] μ =
    .ok .nx [some (.sh s), some (.sh (.cell 0)), some (.sh w), e3, e4, e5, e6, some (.sh (.lst ((List.range 7).map (upV p q)))), some (.sh p), some (.sh q), some (.sh r), some (.sh t), e12, e13, e14, e15] μ := by rfl
theorem tH_ok {μ : Sto} {s w p q r t : D} {e3 e4 e5 e6 e12 e13 e14 e15 : Option Ent} (h1 : Sm μ 3 p) (h2 : Sm μ 3 q) : tH [some (.sh s), some (.sh (.cell 0)), some (.sh w), e3, e4, e5, e6, some (.sh (.lst ((List.range 7).map (upV p q)))), some (.sh p), some (.sh q), some (.sh r), some (.sh t), e12, e13, e14, e15] μ =
    .ok .nx [some (.sh s), some (.sh (.cell 0)), some (.sh w), e3, e4, e5, e6, some (.sh (.lst ((List.range 7).map (upV p q)))), some (.sh p), some (.sh q), some (.sh r), some (.sh t), e12, e13, shO (some e14), e15] μ := by
  have s1 := same_ok (μ := μ) (n := 6) (d := .lst ((List.range 7).map (upV p q))) (.lst _ (by simp) fun d hd => by
    obtain ⟨w, hw, rfl⟩ := List.mem_map.mp hd
    exact up_sm h1 h2 w (List.mem_range.mp hw))
  obtain ⟨U, hU⟩ : ∃ U, (List.range 7).map (upV p q) = U := ⟨_, rfl⟩
  have lc := lcT (ρ := [some (.sh s), some (.sh (.cell 0)), some (.sh w), e3, e4, e5, e6, some (.sh (.lst U)), some (.sh p), some (.sh q), some (.sh r), some (.sh t), e12, e13, e14, e15]) (μ := μ) (i := 14)
    (fe := calM G_lupper (acons (lett 14) (acons (lett 8) (acons (lett 9) anil)))) (fun k : Nat => D.int ((k : Nat) : Int)) (upV p q) (List.range 7) (by decide) (fun n hn => by
      have x := upp_ok p q μ n (List.mem_range.mp hn)
      simp only [runD_ap, List.length_cons, List.length_nil, Nat.reduceAdd, Nat.reduceSub, List.map_cons, List.map_nil, List.replicate_succ, List.replicate_zero, List.cons_append, List.nil_append, seqM_ap, sq_nx, sq_rt, stiM_ap, bnd_ap, bo_ok, op2_ap, op2v_ap, op1_ap, cst_ap, lift_so, ret_ap, pek_ap, lett_ap, pekD, List.getElem?_cons_zero, List.getElem?_cons_succ, ix_l, ix50, ix51, ix52, ix53, ix54, isLst, lstUp, lstAt, lstPut, Option.map_some, add_ii, List.set_cons_zero, List.set_cons_succ, ifS_ap, andM_ap, tst_ap, eq_ii, lt_ii, gt_ii, ge_ii, len_l, asBl_b, bf_t, bf_f, bf_d, if_true, if_false, ite_true, ite_false, decide_true, decide_false, setM_ap, put_ap, skp_ap, rtM_ap, ri_rt, int_i, abs_i, ixN50, ixN51, ixN52, ixN53, ixN54, calM_ap, acons_ap, anil_ap, x, rb_ok])
  have e : (List.range 7).map (fun k : Nat => D.int ((k : Nat) : Int)) = rng 7 := rfl
  rw [e, hU] at lc
  rw [hU] at s1 ⊢
  simp only [tH, runD_ap, List.length_cons, List.length_nil, Nat.reduceAdd, Nat.reduceSub, List.map_cons, List.map_nil, List.replicate_succ, List.replicate_zero, List.cons_append, List.nil_append, seqM_ap, sq_nx, sq_rt, stiM_ap, bnd_ap, bo_ok, op2_ap, op2v_ap, op1_ap, cst_ap, lift_so, ret_ap, pek_ap, lett_ap, pekD, List.getElem?_cons_zero, List.getElem?_cons_succ, ix_l, ix50, ix51, ix52, ix53, ix54, isLst, lstUp, lstAt, lstPut, Option.map_some, add_ii, List.set_cons_zero, List.set_cons_succ, ifS_ap, andM_ap, tst_ap, eq_ii, lt_ii, gt_ii, ge_ii, len_l, asBl_b, bf_t, bf_f, bf_d, if_true, if_false, ite_true, ite_false, decide_true, decide_false, setM_ap, put_ap, skp_ap, rtM_ap, ri_rt, int_i, abs_i, ixN50, ixN51, ixN52, ixN53, ixN54, notM_ap, tru_ap, tru_b, calM_ap, acons_ap, anil_ap, rb_ok, lcM_ap, rngM1_ap, r7, lc, s1, Bool.not_true]
end L2.DL.K00

namespace L2.DL.K00
open PySem PySem.Spec PyProof.Rows
theorem tE_ok {g : Mo Fl} (hg : tE = g) {μ1 : Sto} {s p q r t : D} {e3 e5 e6 e7 e12 e13 e14 e15 : Option Ent} (sm : ∀ d, d = p ∨ d = q ∨ d = r ∨ d = t → Sm (μ1 ++ EL p q r t ++ EL p q r t) 3 d) :
    Wp (g [some (.sh s), some (.sh (.cell 0)), some (.sh W0), e3, some (.sh (.lst ((List.range 45).map fun n => .tup (rowV p q r t n)))), e5, e6, e7, some (.sh p), some (.sh q), some (.sh r), some (.sh t), e12, e13, e14, e15] μ1)
      fun fl ρ μ' => fl = .nx ∧ μ' = μ1 ++ EL p q r t ++ EL p q r t ∧ ∃ e6 e12 e13 e15, ρ = [some (.sh s), some (.sh (.cell 0)), some (.sh W0), e3, some (.sh (.lst ((List.range 45).map fun n => .tup (rowV p q r t n)))), e5, e6, e7, some (.sh p), some (.sh q), some (.sh r), some (.sh t), e12, e13, e14, e15] := by
  have x1 := place_ok p q r t μ1
  have x2 := name_ok p q r t (μ1 ++ EL p q r t)
  have ex1 : ∀ d : D, ∃ A, d = A := fun d => ⟨d, rfl⟩
  obtain ⟨A, hA⟩ := ex1 (D.lst (cellsFrom μ1.length 45))
  obtain ⟨B, hB⟩ := ex1 (D.lst (cellsFrom (μ1 ++ EL p q r t).length 45))
  rw [hA] at x1
  rw [hB] at x2
  have m : mkL [A, B] = some (.lst [A, B]) := rfl
  obtain ⟨R, hR⟩ := ex1 (D.lst ((List.range 45).map fun n => .tup (rowV p q r t n)))
  obtain ⟨W, hW⟩ := ex1 W0
  have sq : (seqD (.lst [A, B])).or (chrs (.lst [A, B])) = some [A, B] := rfl
  rw [hR, hW, ← hg]
  unfold tE
  simp only [forM_ap, walkA_ap, runD_ap, List.length_cons, List.length_nil, Nat.reduceAdd, Nat.reduceSub, List.map_cons, List.map_nil, List.replicate_succ, List.replicate_zero, List.cons_append, List.nil_append, seqM_ap, sq_nx, sq_rt, stiM_ap, bnd_ap, bo_ok, op2_ap, op2v_ap, op1_ap, cst_ap, lift_so, ret_ap, pek_ap, lett_ap, pekD, List.getElem?_cons_zero, List.getElem?_cons_succ, ix_l, ix50, ix51, ix52, ix53, ix54, isLst, lstUp, lstAt, lstPut, Option.map_some, add_ii, List.set_cons_zero, List.set_cons_succ, ifS_ap, andM_ap, tst_ap, eq_ii, lt_ii, gt_ii, ge_ii, len_l, asBl_b, bf_t, bf_f, bf_d, if_true, if_false, ite_true, ite_false, decide_true, decide_false, setM_ap, put_ap, skp_ap, rtM_ap, ri_rt, int_i, abs_i, ixN50, ixN51, ixN52, ixN53, ixN54, lstM_ap, acons_ap, anil_ap, calM_ap, rb_ok, x1, x2, m, sq]
  refine Wp_for (fun _ ρ μ' => μ' = μ1 ++ EL p q r t ++ EL p q r t ∧ ∃ e6 e12 e13 e15, ρ = [some (.sh s), some (.sh (.cell 0)), some (.sh W), e3, some (.sh R), e5, e6, e7, some (.sh p), some (.sh q), some (.sh r), some (.sh t), e12, e13, e14, e15]) ⟨rfl, _, _, _, _, rfl⟩ (fun i d ρ μ hd ⟨h1, e6, e12, e13, e15, h2⟩ => ?_) (fun ρ μ z => ⟨rfl, z⟩)
  subst h1 h2
  have hm := List.mem_of_getElem? hd
  simp only [List.mem_cons, List.not_mem_nil, or_false] at hm
  show Wp (tI [some (.sh s), some (.sh (.cell 0)), some (.sh W), e3, some (.sh R), e5, some (.sh d), e7, some (.sh p), some (.sh q), some (.sh r), some (.sh t), e12, e13, e14, e15] (μ1 ++ EL p q r t ++ EL p q r t)) _
  rcases hm with rfl | rfl
  · rw [← hA, ← hR, ← hW]
    refine (tI_ok (v := EL p q r t) sm).mono fun fl ρ μ z => ?_
    obtain ⟨rfl, rfl, e12, e13, e15, rfl⟩ := z
    exact ⟨rfl, _, _, _, _, rfl⟩
  · rw [← hB, ← hR, ← hW]
    have z := tI_ok (μ1 := μ1 ++ EL p q r t) (v := []) (s := s) (e3 := e3) (e5 := e5) (e7 := e7) (e8 := some (.sh p)) (e9 := some (.sh q)) (e10 := some (.sh r)) (e11 := some (.sh t)) (e12 := e12) (e13 := e13) (e14 := e14) (e15 := e15) (p := p) (q := q) (r := r) (t := t) (by rw [List.append_nil]; exact sm)
    rw [List.append_nil] at z
    refine z.mono fun fl ρ μ z => ?_
    obtain ⟨rfl, rfl, e12, e13, e15, rfl⟩ := z
    exact ⟨rfl, _, _, _, _, rfl⟩
end L2.DL.K00

namespace L2.DL.K00
open PySem PySem.Spec PyProof.Rows
def Sh0 (s : D) (ρ : Env) : Prop := ∃ e3 e4 e5 e6 e7 e8 e9 e10 e11 e12 e13 e14 e15 : Option Ent, ρ = [some (.sh s), some (.sh (.cell 0)), some (.sh W0), e3, e4, e5, e6, e7, e8, e9, e10, e11, e12, e13, e14, e15]
theorem seq_asc {f g h : Mo Fl} {ρ : Env} {μ : Sto} {Q : Fl → Env → Sto → Prop} (z : Wp (seqM (seqM f g) h ρ μ) Q) : Wp (seqM f (seqM g h) ρ μ) Q := by
  rw [seqM_ap, seqM_ap] at z
  rw [seqM_ap]
  cases e : f ρ μ with
  | ok fl ρ1 μ1 =>
    rw [e] at z
    cases fl with
    | nx =>
      have z : Wp (sq (g ρ1 μ1) h) Q := z
      show Wp (seqM g h ρ1 μ1) Q
      rw [seqM_ap]
      exact z
    | _ => exact z
  | ex c ns vs ρ1 μ1 => rw [e] at z; exact z
  | no => rw [e] at z; exact z
theorem rest_ok {Q : Fl → Env → Sto → Prop} {μ5 v : Sto} {s w p q r t : D} {e3 e4 e6 e7 e12 e13 e14 e15 : Option Ent} (sm : ∀ d, d = p ∨ d = q ∨ d = r ∨ d = t → Sm (μ5 ++ EL t r q p ++ v) 3 d)
    (fin : ∀ e7 e12 e14, Q .nx [some (.sh s), some (.sh (.cell 0)), some (.sh w), e3, e4, some (.sh (.lst (cellsFrom μ5.length 45))), e6, e7, some (.sh p), some (.sh q), some (.sh r), some (.sh t), e12, e13, e14, e15] (μ5 ++ EL t r q p ++ v)) :
    Wp (seqM tF (seqM tG (seqM tG2 tH)) [some (.sh s), some (.sh (.cell 0)), some (.sh w), e3, e4, some (.sh (.lst (cellsFrom μ5.length 45))), e6, e7, some (.sh p), some (.sh q), some (.sh r), some (.sh t), e12, e13, e14, e15] (μ5 ++ EL t r q p ++ v)) Q := by
  have x1 := tF_ok (s := s) (w := w) (e3 := e3) (e4 := e4) (e6 := e6) (e7 := e7) (e12 := e12) (e13 := e13) (e14 := e14) (e15 := e15) (sm t (.inr (.inr (.inr rfl))))
  have x3 := tH_ok (s := s) (w := w) (r := r) (t := t) (e3 := e3) (e4 := e4) (e5 := some (.sh (.lst (cellsFrom μ5.length 45)))) (e6 := e6) (e12 := shO (some e12)) (e13 := e13) (e14 := e14) (e15 := e15) (sm p (.inl rfl)) (sm q (.inr (.inl rfl)))
  rw [seqM_ap, x1, sq_nx]
  refine seq_asc ?_
  rw [seqM_ap, tG_ok, sq_nx, x3]
  exact fin _ _ _
theorem chain_ok {fA fB fC fD fE g : Mo Fl} {ρ ρA ρB ρC ρD : Env} {μ μA μB μC μD : Sto} {P Q : Fl → Env → Sto → Prop} (xA : fA ρ μ = .ok .nx ρA μA) (xB : fB ρA μA = .ok .nx ρB μB) (xC : fC ρB μB = .ok .nx ρC μC) (xD : fD ρC μC = .ok .nx ρD μD)
    (xE : Wp (fE ρD μD) P) (k : ∀ fl ρ μ, P fl ρ μ → fl = .nx ∧ Wp (g ρ μ) Q) : Wp (seqM fA (seqM fB (seqM fC (seqM fD (seqM fE g)))) ρ μ) Q :=
  Wp_seq xA (Wp_seq xB (Wp_seq xC (Wp_seq xD (Wp_seqW (xE.mono k)))))
theorem tT_ok {n : Int} {v μ : Sto} {s : D} {ρ : Env} (B : Bag n v μ) (hn : n < 800000) (hs : Sh0 s ρ) : Wp (tT ρ μ) fun fl ρ μ => fl = .nx ∧ Sh0 s ρ ∧ ∃ v, Bag (n + 12) v μ := by
  generalize hg : tT = g
  obtain ⟨e3, e4, e5, e6, e7, e8, e9, e10, e11, e12, e13, e14, e15, rfl⟩ := hs
  obtain ⟨p, q, r, t, v, μ, x, B, g1, g2, g3, g4⟩ := tA_ok (s := s) (w := W0) (e3 := e3) (e4 := e4) (e5 := e5) (e6 := e6) (e7 := e7) (e8 := e8) (e9 := e9) (e10 := e10) (e11 := e11) (e12 := e12) (e13 := e13) (e14 := e14) (e15 := e15) B hn
  have sm : ∀ (w : Sto) (d : D), d = p ∨ d = q ∨ d = r ∨ d = t → Sm (μ ++ w) 3 d := fun w d hd => by
    obtain ⟨b, rfl⟩ := B.cons
    rcases hd with rfl | rfl | rfl | rfl
    · exact g1 b w
    · exact g2 b w
    · exact g3 b w
    · exact g4 b w
  have as : μ ++ EL t r q p ++ EL p q r t ++ EL p q r t = μ ++ EL t r q p ++ (EL p q r t ++ EL p q r t) := List.append_assoc _ _ _
  have sm2 : ∀ d, d = p ∨ d = q ∨ d = r ∨ d = t → Sm (μ ++ EL t r q p ++ (EL p q r t ++ EL p q r t)) 3 d := fun d hd => by
    rw [List.append_assoc]
    exact sm _ d hd
  have smE : ∀ d, d = p ∨ d = q ∨ d = r ∨ d = t → Sm (μ ++ EL t r q p ++ EL p q r t ++ EL p q r t) 3 d := fun d hd => by
    rw [as]
    exact sm2 d hd
  have B2 := (B.app (EL t r q p)).app (EL p q r t ++ EL p q r t)
  generalize hF : seqM tF (seqM tG (seqM tG2 tH)) = gF
  have xF : ∀ (e3 e4 e6 e7 e12 e13 e14 e15 : Option Ent), Wp (gF [some (.sh s), some (.sh (.cell 0)), some (.sh W0), e3, e4, some (.sh (.lst (cellsFrom μ.length 45))), e6, e7, some (.sh p), some (.sh q), some (.sh r), some (.sh t), e12, e13, e14, e15] (μ ++ EL t r q p ++ (EL p q r t ++ EL p q r t))) fun fl ρ μ => fl = .nx ∧ Sh0 s ρ ∧ ∃ v, Bag (n + 12) v μ := fun e3 e4 e6 e7 e12 e13 e14 e15 => by
    rw [← hF]
    exact rest_ok sm2 fun e7 e12 e14 => ⟨rfl, ⟨_, _, _, _, _, _, _, _, _, _, _, _, _, rfl⟩, _, B2⟩
  have k : ∀ (fl : Fl) (ρ : Env) (μ' : Sto), (fl = .nx ∧ μ' = μ ++ EL t r q p ++ EL p q r t ++ EL p q r t ∧ ∃ e6 e12 e13 e15, ρ = [some (.sh s), some (.sh (.cell 0)), some (.sh W0), e3, some (.sh (.lst ((List.range 45).map fun n => .tup (rowV p q r t n)))), some (.sh (.lst (cellsFrom μ.length 45))), e6, e7, some (.sh p), some (.sh q), some (.sh r), some (.sh t), e12, e13, e14, e15]) →
      fl = .nx ∧ Wp (gF ρ μ') fun fl ρ μ => fl = .nx ∧ Sh0 s ρ ∧ ∃ v, Bag (n + 12) v μ := fun fl ρ μ' z => by
    obtain ⟨rfl, rfl, e6', e12', e13', e15', rfl⟩ := z
    refine ⟨rfl, ?_⟩
    rw [as]
    exact xF _ _ _ _ _ _ _ _
  rw [← hg]
  unfold tT
  rw [hF]
  generalize hE : tE = gE
  exact chain_ok x tB_ok tC_ok tD_ok (tE_ok hE smE) k
theorem cel_1 {g : Mo Fl} {a : Option Ent} {ds : List D} {ρ : Env} : celM 1 g (a :: some (.ow (.lst ds)) :: ρ) [] = g (a :: some (.sh (.cell 0)) :: ρ) [.lst ds] := rfl
theorem answer : ∀ ns : List Int, ns.length ≤ 63 → ∃ μ, G_law [.frz (ns.map D.int)] [] = .ok (.bl true) μ := fun ns h => by
  obtain ⟨cs, m, x, m0, m1⟩ := bag_ok ns h
  have main : Rw (G_law [.frz (ns.map D.int)] []) fun v _ => v = .bl true := by
    unfold G_law
    rw [g_law_eq]
    refine Rw_run rfl ?_
    have B0 : Bag 0 [] [bagC cs 0 0 m 0] := ⟨cs, 0, 0, m, 0, rfl, by decide, by decide, m0, by omega, by decide, by decide⟩
    obtain ⟨s, hs⟩ : ∃ s, D.frz (ns.map D.int) = s := ⟨_, rfl⟩
    rw [hs] at x ⊢
    obtain ⟨bl, hbl⟩ : ∃ bl, [D.lst (cs.map D.int), .int 0, .int 0, .int m, .int 0] = bl := ⟨_, rfl⟩
    unfold bagC at B0
    rw [hbl] at x B0
    have wo := words_ok [.lst bl]
    have pk0 : pick ([] : List Nat) ([] : List D) = [] := rfl
    have r2 : rng1 [.int 2] = some [.int 0, .int 1] := rfl
    obtain ⟨W, hW⟩ : ∃ W, cN.map D.str = W := ⟨_, rfl⟩
    rw [hW] at wo
    simp only [runD_ap, List.length_cons, List.length_nil, Nat.reduceAdd, Nat.reduceSub, List.map_cons, List.map_nil, List.replicate_succ, List.replicate_zero, List.cons_append, List.nil_append, seqM_ap, sq_nx, sq_rt, stiM_ap, bnd_ap, bo_ok, op2_ap, op2v_ap, op1_ap, cst_ap, lift_so, ret_ap, pek_ap, lett_ap, pekD, List.getElem?_cons_zero, List.getElem?_cons_succ, ix_l, ix50, ix51, ix52, ix53, ix54, isLst, lstUp, lstAt, lstPut, Option.map_some, add_ii, List.set_cons_zero, List.set_cons_succ, ifS_ap, andM_ap, tst_ap, eq_ii, lt_ii, gt_ii, ge_ii, len_l, asBl_b, bf_t, bf_f, bf_d, if_true, if_false, ite_true, ite_false, decide_true, decide_false, setM_ap, put_ap, skp_ap, rtM_ap, ri_rt, int_i, abs_i, ixN50, ixN51, ixN52, ixN53, ixN54, walkA_ap, isiM_ap, kwD_ap, newM_ap, ni_ok, ni_ex, fldV_ap, fldM_ap, asgM_ap, parM_ap, parM3_ap, tgN_ap, tgT2, tgT3, tgCons_ap, tgNil_ap, calM_ap, acons_ap, anil_ap, rb_ok, rb_ow, tupM_ap, lstM_ap, slM_ap, noP_ap, prt_ap, forM_ap, rngM1_ap, rngM2_ap, lcM_ap, andV_ap, notV_ap, orV_ap, ifM_ap, orM_ap, notM_ap, tru_ap, tru_b, chn_ap, seqA_l, seqA_t, seqA_f, seqA_s, len_t, len_f, opN_ap, met0_ap, met1_ap, metT_ap, apnM_ap, rtF_ap, ri_nx, ri_ro, sq_bk, sq_ct, sq_ro, mkT_ok, mkL_ok, List.length_append, List.length_singleton, asI, Wp_ok, nxt_nx, nxt_rt, nxt_bk, nxt_ct, trn_nx, trn_ct, trn_bk, trn_rt, ends_nx, ends_rt, ix_t, leA_ii, le_ii, sub_ii, Bool.not_true, Bool.not_false, Bool.false_eq_true, Bool.true_eq_false, eq_bb, ne_bb, eq_ss, ne_ss, raiM_ap, tryM_ap, tr_ok, tr_ex, rb_ex, bo_ex, sq_ex, ri_ex, kwA_ap, drp_ap, runI_ap, rin_nx, rin_ex, satM_ap, Nat.reduceLeDiff, Nat.zero_le, Nat.reduceMul, cawM_ap, rw_ow, setF_ap, cel_1, x, kwA_ap, pk0, and_self, wo, r2]
    refine Wp_sq (Wp_for (fun j ρ μ => Sh0 s ρ ∧ ∃ v, Bag (12 * j) v μ) ⟨⟨_, _, _, _, _, _, _, _, _, _, _, _, _, by rw [← hW]⟩, [], by rw [Int.ofNat_zero, Int.mul_zero]; exact B0⟩ (fun j d ρ μ hd ⟨h1, v, h2⟩ => ?_) (fun ρ μ ⟨h1, h2⟩ => ?_))
    · have hj : j < 2 := (List.getElem?_eq_some_iff.mp hd).1
      have hsh : Sh0 s (ρ.set 3 (some (.sh d))) := by
        obtain ⟨e3, e4, e5, e6, e7, e8, e9, e10, e11, e12, e13, e14, e15, rfl⟩ := h1
        exact ⟨_, _, _, _, _, _, _, _, _, _, _, _, _, rfl⟩
      show Wp (tT (ρ.set 3 (some (.sh d))) μ) _
      refine Wp.mono (tT_ok h2 (by omega) hsh) fun fl ρ μ z => ?_
      obtain ⟨rfl, z1, v', z2⟩ := z
      refine ⟨z1, v', ?_⟩
      have e : (12 : Int) * ((j + 1 : Nat) : Int) = 12 * (j : Int) + 12 := by omega
      rw [e]
      exact z2
    · obtain ⟨e3, e4, e5, e6, e7, e8, e9, e10, e11, e12, e13, e14, e15, rfl⟩ := h1
      simp only [runD_ap, List.length_cons, List.length_nil, Nat.reduceAdd, Nat.reduceSub, List.map_cons, List.map_nil, List.replicate_succ, List.replicate_zero, List.cons_append, List.nil_append, seqM_ap, sq_nx, sq_rt, stiM_ap, bnd_ap, bo_ok, op2_ap, op2v_ap, op1_ap, cst_ap, lift_so, ret_ap, pek_ap, lett_ap, pekD, List.getElem?_cons_zero, List.getElem?_cons_succ, ix_l, ix50, ix51, ix52, ix53, ix54, isLst, lstUp, lstAt, lstPut, Option.map_some, add_ii, List.set_cons_zero, List.set_cons_succ, ifS_ap, andM_ap, tst_ap, eq_ii, lt_ii, gt_ii, ge_ii, len_l, asBl_b, bf_t, bf_f, bf_d, if_true, if_false, ite_true, ite_false, decide_true, decide_false, setM_ap, put_ap, skp_ap, rtM_ap, ri_rt, int_i, abs_i, ixN50, ixN51, ixN52, ixN53, ixN54, walkA_ap, isiM_ap, kwD_ap, newM_ap, ni_ok, ni_ex, fldV_ap, fldM_ap, asgM_ap, parM_ap, parM3_ap, tgN_ap, tgT2, tgT3, tgCons_ap, tgNil_ap, calM_ap, acons_ap, anil_ap, rb_ok, rb_ow, tupM_ap, lstM_ap, slM_ap, noP_ap, prt_ap, forM_ap, rngM1_ap, rngM2_ap, lcM_ap, andV_ap, notV_ap, orV_ap, ifM_ap, orM_ap, notM_ap, tru_ap, tru_b, chn_ap, seqA_l, seqA_t, seqA_f, seqA_s, len_t, len_f, opN_ap, met0_ap, met1_ap, metT_ap, apnM_ap, rtF_ap, ri_nx, ri_ro, sq_bk, sq_ct, sq_ro, mkT_ok, mkL_ok, List.length_append, List.length_singleton, asI, Wp_ok, nxt_nx, nxt_rt, nxt_bk, nxt_ct, trn_nx, trn_ct, trn_bk, trn_rt, ends_nx, ends_rt, ix_t, leA_ii, le_ii, sub_ii, Bool.not_true, Bool.not_false, Bool.false_eq_true, Bool.true_eq_false, eq_bb, ne_bb, eq_ss, ne_ss, raiM_ap, tryM_ap, tr_ok, tr_ex, rb_ex, bo_ex, sq_ex, ri_ex, kwA_ap, drp_ap, runI_ap, rin_nx, rin_ex, satM_ap, Nat.reduceLeDiff, Nat.zero_le, Nat.reduceMul]
  obtain ⟨d, μ, e, rfl⟩ := main.ex
  exact ⟨μ, e⟩
end L2.DL.K00

namespace L2.DL.K00
open PySem PySem.W PySem.Calls PyProof.Rows
theorem runT (w : World) : HandSHeadRun.RunEq RR (PySem.W.view RR.prog [iLaw]) hkT obT 16000 looseT w := by
  intro os
  have h1 := run12 w os
  have h2 := run345 w os
  have h3 := run6 w os
  have h4 : (runS w os).map (fun s => (lk1 w s, lk2 s, (((lk3 s && lk4 s), lk5 s), lk6 s))) = some (true, openGood (PySem.W.view RR.prog [iLaw]) looseT, ((true, fnT.map He.DefD.val), true)) := by
    revert h1 h2 h3
    generalize runS w os = o
    intro h1 h2 h3
    cases o with
    | none => cases h1
    | some x =>
      have e1 := Option.some.inj h1
      have e2 := Option.some.inj h2
      have e3 := Option.some.inj h3
      have e11 : lk1 w x = true := congrArg Prod.fst e1
      have e12 : lk2 x = openGood (PySem.W.view RR.prog [iLaw]) looseT := congrArg Prod.snd e1
      have e2' : ((lk3 x && lk4 x), lk5 x) = (true, fnT.map He.DefD.val) := e2
      have e3' : lk6 x = true := e3
      show some (lk1 w x, lk2 x, (((lk3 x && lk4 x), lk5 x), lk6 x)) = _
      rw [e11, e12, e2', e3']
  exact h4
end L2.DL.K00
open PySem PySem.W PySem.Calls PyProof.Rows
set_option maxRecDepth 100000 in
set_option maxHeartbeats 0 in
theorem PySem.Challenge.cw_shapebetween_k00_errors_by_themselves_holds : PySem.Challenge.rw_shapebetween_k00_errors_by_themselves.Holds := by
  w_on; o_law
  refine HandSHeadRun.head_any (r := OpenLaw.row PySem.Challenge.rw_shapebetween_k00_errors_by_themselves) (q := view (OpenLaw.row PySem.Challenge.rw_shapebetween_k00_errors_by_themselves).prog [L2.DL.K00.iLaw]) (H := L2.DL.K00.hkT) (ob := L2.DL.K00.obT) (M := 16000) (loose := L2.DL.K00.looseT) (d := HandSHeadRun.topDef (OpenLaw.row PySem.Challenge.rw_shapebetween_k00_errors_by_themselves).prog L2.DL.K00.iLaw) (kwd := []) L2.DL.K00.obT_eq
    (by kernel_rfl) (fun s => by kernel_rfl) L2.DL.K00.runT (by kernel_rfl) (by kernel_rfl) (by kernel_rfl) (by rfl) (by first | assumption | decide +kernel) (by decide +kernel) ⟨rfl, rfl, rfl, rfl, rfl, by decide +kernel⟩ ?hw ?hc
  case hw => w_witness2
  case hc =>
    refine L2.DL.walk_E (l := PySem.Challenge.rw_shapebetween_k00_errors_by_themselves) (n := 63) (G := L2.DL.K00.G_law) (x := "_law_script") rfl (by decide) (by kernel_rfl) ?F L2.DL.K00.answer
    intro w mg fa h Y G hmg0
    obtain ⟨K, KX, S, hE⟩ := Y
    have hmg : mg ("law" : PySem.Str) = some (.ref fa) := by
      have e : (HandSHeadRun.topDef (OpenLaw.row PySem.Challenge.rw_shapebetween_k00_errors_by_themselves).prog L2.DL.K00.iLaw).name = ("law" : PySem.Str) := by kernel_rfl
      rw [← e]
      exact hmg0
    obtain ⟨fd, hb, hF⟩ := L2.DL.K00.all_mkH (P := (PySem.Challenge.rw_shapebetween_k00_errors_by_themselves).prog) KX G hmg S hE
    exact ⟨K, fd, KX, hb, hF⟩

