import PyProof.Rows.All
import Wide.All
import OpenK.AllK
import Wide.FinOn
import HandS.ForMost
import HandS.Exc
import HandS.TryMany
import HandS.CallSlots
import HandS.IsInst
import HandS.Wide
import HandS.TupAny
import HandS.Strs
import HandS.Flow
import HandS.DeepEq
import HandS.Style
import HandS.Text
import HandS.Dict
import HandS.Iter
import HandS.Zip
import HandS.Comp
import HandS.SortInts
import HandS.WordsExc
import HandS.ExcField
import HandS.ExcInit
import KE.KExcInit
import HandS.Defaults
import HandS.Ends
import PySem.Challenge.RW_shapebetween_k01_limits_told
set_option Elab.async false
set_option linter.all false
set_option maxRecDepth 100000
set_option maxHeartbeats 4000000
/-! DLT: tuples that are tracked with their very object (so that they are known to have no dict of their own): display, +, slice, tuple(list), index. -/
namespace L2.DL
open PySem PySem.Spec PyProof.Rows
/-- a tuple's object -/
def tupOb (its : List Value) : Obj := { cls := .type "tuple", data := .seq its.toArray }
/-- at a new address: a tuple of xs, its object known -/
def NewT (xs : List V) (H : Hp) (Q : VK) : Prop := ∀ p o, H p = none → o.cls = .type "tuple" → o.dict = none → Q (.ref p) (upd H p (.frz o (.tup xs)))
section
variable {X : Cx} {es : List Expr} {t : TA} {pos : Pos}
theorem laidT {pins : List (Addr × Obj)} {σ : L2.St} {H : Hp} {s : Shared} {its : List Value} {xs : List V} {Q : VK} (I : Inv X pins σ H s) (r : Vals xs its) (hz : xs.length ≤ sizeLine) (q : NewT xs H Q) :
    EP X pins σ Q (.ref s.heap.objs.size) { s with heap := s.heap.push (tupOb its) } := by
  have new : ObjOk X.prog X.w (upd H s.heap.objs.size (.frz (tupOb its) (.tup xs))) (s.heap.push (tupOb its)) s.heap.objs.size (.frz (tupOb its) (.tup xs)) :=
    ⟨Heap.get?_push_size _ rfl, hz, its, r, ⟨_, Heap.get?_push_size _ rfl, rfl, _, rfl⟩⟩
  exact ⟨.ref s.heap.objs.size, _, I.laid (t' := s.toks) (fun b u e => Heap.get?_push_of_some _ e) (Nat.le_refl _) new, rfl, q _ _ (I.hok.fresh (Nat.le_refl _)) rfl rfl⟩
def tTupX (t : TA) : TE := fun σ H Q => t σ H fun xs H1 => xs.length ≤ sizeLine ∧ NewT xs H1 Q
theorem pe_tupX {n} (h : PA X es t) : PE X (.Tuple es n pos) (tTupX t) := by
  refine ⟨fun pins s σ H Q I hq => wpAny_Tuple_spliced (thn (h.run pos pins s σ H _ I hq) fun us s1 ⟨xs, H1, I1, r, z, q⟩ => ?_)⟩
  exact ⟨by rw [← r.length]; exact z, laidT I1 r z q⟩
def rCatX (K : PySem.W.Frag) : R2 := fun x y H Q => ∃ a b xs ys, x = .ref a ∧ y = .ref b ∧ SqT K H a xs ∧ SqT K H b ys ∧ xs.length + ys.length ≤ sizeLine ∧ (xs = [] → Q (.ref b) H) ∧ (xs ≠ [] → ys = [] → Q (.ref a) H) ∧ (xs ≠ [] → ys ≠ [] → NewT (xs ++ ys) H Q)
theorem op_catX : OpR X (binaryOp .Add) (rCatX X.K) := by
  rintro pins s σ H x y v u Q I rx ry ⟨a, b, xs, ys, rfl, rfl, ha, hb, hz, q0, q1, q2⟩
  by_cases hx : xs = []
  · exact op_catA pins s σ H _ _ v u Q I rx ry ⟨a, b, xs, ys, rfl, rfl, ha, hb, hz, q0, fun n => (n hx).elim, fun n => (n hx).elim⟩
  · cases rx
    cases ry
    obtain ⟨i1, r1, p1, _⟩ := I.tuple ha
    obtain ⟨i2, r2, p2, _⟩ := I.tuple hb
    have n1 : i1 ≠ [] := fun z => hx (r1.nil_iff.mp z)
    refine HT.cat_tup p1 p2 n1 (fun z => ⟨.ref a, H, I, rfl, q1 hx (r2.nil_iff.mp z)⟩) (fun z => ?_) (by rw [← r1.length, ← r2.length]; exact hz)
    exact laidT I (r1.append r2) (by rw [List.length_append]; exact hz) (q2 hx fun e => z (r2.nil_iff.mpr e))
def rSlX (K : PySem.W.Frag) : V → Option Int → Option Int → Hp → VK → Prop := fun x lo hi H Q => ∃ a xs, x = .ref a ∧ SqT K H a xs ∧ (HT.sIx xs.length 0 lo = 0 ∧ HT.sIx xs.length xs.length hi = xs.length → Q (.ref a) H) ∧
  (¬ (HT.sIx xs.length 0 lo = 0 ∧ HT.sIx xs.length xs.length hi = xs.length) → NewT (cutV xs lo hi) H Q)
theorem sl_tupX : SlR X (rSlX X.K) := by
  rintro pins s σ H x v vl vu lo hi sl Q I rx hs pl pu ⟨a, xs, rfl, hx, q1, q2⟩
  by_cases hw : HT.sIx xs.length 0 lo = 0 ∧ HT.sIx xs.length xs.length hi = xs.length
  · exact sl_tupA pins s σ H _ v vl vu lo hi sl Q I rx hs pl pu ⟨a, xs, rfl, hx, q1, fun n => (n hw).elim⟩
  · cases rx
    obtain ⟨its, r, ht, hz⟩ := I.tuple hx
    have hl : its.toArray.size = xs.length := by rw [List.size_toArray]; exact r.length.symm
    refine ⟨"tuple", _, PyProof.Rows.slot_tuple_getitem.lookup, ht.typeIs, HT.getItem_tuple_cut ht hs pl pu (by rw [hl]; exact hw) ?_ (by rw [hl]; exact hz)⟩
    rw [hl]
    exact laidT I ((r.drop _).take _) (Nat.le_trans (cutV_length xs lo hi) hz) (q2 hw)
theorem call_tupleX : CallR X (.type "tuple") (fun xs H Q => ∃ p ys, xs = [.ref p] ∧ ((SqL X.K H p ys ∧ NewT ys H Q) ∨ (SqT X.K H p ys ∧ Q (.ref p) H))) := by
  rintro pins s σ H xs us Q I r ⟨p, ys, rfl, h⟩
  rcases h with ⟨hq, q⟩ | h
  · obtain ⟨u, rfl, rx⟩ := vals1 r
    cases rx
    obtain ⟨its, r', pl, hz⟩ := I.list hq
    have hlen := r'.length
    refine call_tuple_list pl.isList (fun h' kp => ?_) (by simp only [List.size_toArray] <;> omega)
    exact laidT (s := { s with heap := h' }) (I.kept (t' := s.toks) kp) r' hz q
  · exact call_tuple_of pins s σ H _ us Q I r ⟨p, ys, rfl, .inr h⟩
/-- t.index(y), flat things: the first place -/
def rTupIx (K : PySem.W.Frag) : V → List V → Hp → VK → Prop := fun x xs H Q => ∃ (a : Addr) (ys : List V) (y : V) (j : Nat) (z : V), x = .ref a ∧ xs = [y] ∧ SqT K H a ys ∧ flatV y = true ∧ ys.all flatV = true ∧ ys[j]? = some z ∧ eqV z y = true ∧
  (∀ (m : Nat) (w : V), m < j → ys[m]? = some w → eqV w y = false) ∧ Q (.int (j : Nat)) H
theorem mt_tupIx : MtR X "tuple.index" (rTupIx X.K) := by
  rintro pins s σ H x xs v us Q I rx rxs ⟨a, ys, y, j, z, rfl, rfl, hs, fy, fys, hz, hzj, hno, q⟩
  cases rx
  obtain ⟨uy, rfl, ry⟩ := vals1 rxs
  obtain ⟨its, rv, pl, hl⟩ := I.tuple hs
  obtain ⟨⟨cls, dd, data, sl⟩, ho, hc, n, hd⟩ := pl
  simp only at hc hd
  subst hc
  subst hd
  obtain ⟨u, hu, ru⟩ := rv.get hz
  have hj : j < its.toArray.size := by simpa using (List.getElem?_eq_some_iff.mp hu).1
  refine call_meets PySem.F.slot_tuple_index ⟨_, ho, rfl⟩ PySem.F.entry_tuple_index (PySem.F.args_tuple_index_2 _ _) (TI.tuple_indexAt a its.toArray n dd sl uy (eqU y) j hj ?_ ?_)
    ⟨ho, fun w hw => mem_eqAt ry fy rv fys w (by simpa using hw), ⟨.int (j : Nat), H, I.tok _, ⟨_, rfl⟩, q⟩⟩
  · have e : its.toArray[j] = u := by simpa using (List.getElem?_eq_some_iff.mp hu).2
    rw [e, eqU_of ru (flat_at fys hz)]
    exact hzj
  · intro m hm hmj
    have hm2 : m < ys.length := by have := rv.length; have : m < its.length := by simpa using hm
                                   omega
    obtain ⟨w, hw, rw'⟩ := rv.get (List.getElem?_eq_getElem hm2)
    have e : its.toArray[m] = w := by simpa using (List.getElem?_eq_some_iff.mp hw).2
    rw [e, eqU_of rw' (flat_at fys (List.getElem?_eq_getElem hm2))]
    exact hno m _ hmj (List.getElem?_eq_getElem hm2)
/-- a method of a tuple whose object has no dict of its own -/
def TupNd (K : PySem.W.Frag) (H : Hp) (x : V) : Prop := ∃ a, x = .ref a ∧ ((∃ o u, H a = some (.frz o u) ∧ o.cls = .type "tuple" ∧ o.dict = none) ∨ ∃ o, K.lookup a = some o ∧ o.cls = .type "tuple" ∧ o.dict = none)
variable {o e : Expr} {to : TE} {name : Str} {apos : Pos} {id : String} {r : V → List V → Hp → VK → Prop}
def tTM (K : PySem.W.Frag) (r : V → List V → Hp → VK → Prop) (to : TE) (t : TA) : TE := fun σ H Q => to σ H fun x H1 => TupNd K H1 x ∧ t σ H1 fun xs H2 => r x xs H2 Q
theorem pe_tm (slot : Slot "tuple" name id) (hty : typeOf (.builtin id) = pure (.type "method_descriptor")) (hm : MtR X id r) (ho : PE X o to) (ha : PA X (e :: es) t) (hbase : attributeBase o name X.env (eval o X.env) = eval o X.env := by rfl)
    (hfew : ((backTo pos (starEach (e :: es) X.env)).all (fun y => !y.1) && (backToKw pos (keywordEach [] X.env)).all (fun y => y.1.isSome) && decide ((e :: es).length + ([] : List Keyword).length + (if ([] : List Keyword).isEmpty then 0 else 1) < 30)) = true := by rfl)
    (hline : (apos.endLine == pos.line) = true := by rfl) (hs : starEach (e :: es) X.env = (false, eval e X.env) :: starEach es X.env := by rfl) (hpl : (backTo pos (starEach es X.env)).any (·.1) = false := by rfl) :
    PE X (.Call (.Attribute o name apos) (e :: es) [] pos) (tTM X.K r to t) := ⟨fun pins s σ H Q I h => by
  refine wpAny_Call_method_late hbase hfew hline rfl (thn (ho.run pins s σ H _ I h) fun v s1 ⟨x, H1, I1, r1, ty, q1⟩ => ?_)
  obtain ⟨a, rfl, ty⟩ := ty
  obtain rfl : v = Value.ref a := r1
  have tyI : ∃ ob, s1.heap.get? a = some ob ∧ ob.cls = .type "tuple" ∧ ob.dict = none := by
    rcases ty with ⟨ob, u, hH, hc, hd⟩ | ⟨ob, hk, hc, hd⟩
    · exact ⟨ob, (I1.hok a _ hH).1, hc, hd⟩
    · exact ⟨ob, I1.kIn a ob hk, hc, hd⟩
  obtain ⟨ob, g1, g2, g3⟩ := tyI
  refine ⟨"tuple", id, PySem.F.plainAttrs_tuple, slot, hty, ⟨ob, g1, g2⟩, fun b eb => (by cases eb; exact ⟨ob, g1, g3⟩), ?_⟩
  have hA := ha.run pos pins s1 σ H1 _ I1 q1
  rw [hs] at hA ⊢
  refine Calls.callWith_builtin (by show (false || (backTo pos (starEach es X.env)).any (·.1)) = false; rw [hpl]; rfl) (Calls.evalArgs_plain (thn hA fun us s2 ⟨vs, H2, I2, r2, q2⟩ => ?_))
  exact hm pins s2 σ H2 (.ref a) vs (.ref a) us Q I2 rfl r2 q2⟩
end
end L2.DL

/-! DL1: values as trees (D), what stands for them in the heap (Rep), a def's state (Rl), canonical readings. -/
namespace L2.DL
open PySem PySem.Spec PyProof.Rows

/-- a value as a tree; cell n: a thing that may change, by its place in the store -/
inductive D where
  | non | bl (b : Bool) | int (i : Int) | str (s : Str)
  | tup (xs : List D) | lst (xs : List D) | frz (xs : List D)
  | dct (ks : List Key) (vs : List D)
  | ins (c : Str) (ns : List Str) (vs : List D)
  | cell (n : Nat)
inductive Cell where
  | lst (ds : List D) | dct (ks : List Key) (vs : List D) | ins (c : Str) (ns : List Str) (vs : List D)
/-- what a name holds: shared, owned (nobody else sees it), an instance being made, the error of an except suite -/
inductive Ent where
  | sh (d : D) | ow (d : D) | bd (c : Str) (ns : List Str) (vs : List D) | eh (c : Str) (ns : List Str) (vs : List D)
abbrev Env := List (Option Ent)
abbrev Sto := List Cell
inductive O (α : Type) where
  | ok (a : α) (ρ : Env) (μ : Sto)
  | ex (c : Str) (ns : List Str) (vs : List D) (ρ : Env) (μ : Sto)
  | no
abbrev Mo (α : Type) := Env → Sto → O α
def ret {α : Type} (a : α) : Mo α := fun ρ μ => .ok a ρ μ
def no {α : Type} : Mo α := fun _ _ => .no
def bnd {α β : Type} (f : Mo α) (g : α → Mo β) : Mo β := fun ρ μ => match f ρ μ with
  | .ok a ρ' μ' => g a ρ' μ'
  | .ex c ns vs ρ' μ' => .ex c ns vs ρ' μ'
  | .no => .no
def lift {α : Type} (o : Option α) : Mo α := fun ρ μ => match o with
  | some a => .ok a ρ μ
  | none => .no

/-! ### what stands for a tree -/
structure RC where
  K : PySem.W.Frag
  mg : Str → Option Value
  A : Addr → Prop
  B : Addr → Prop
  C : List Addr
  H : Hp
def RC.Tup (r : RC) (a : Addr) (vs : List V) : Prop := (¬ r.A a ∧ ∃ o, r.H a = some (.frz o (.tup vs)) ∧ o.cls = .type "tuple" ∧ o.dict = none) ∨
  ∃ (o : Obj) (its : Array Value) (n : Nat), r.K.lookup a = some o ∧ o.cls = .type "tuple" ∧ o.dict = none ∧ o.data = .seq its n ∧ its.size ≤ sizeLine ∧ Vals vs its.toList
def RC.Lst (r : RC) (a : Addr) (vs : List V) : Prop := (¬ r.A a ∧ Rd r.H a (.lst vs)) ∨ SqL r.K (fun _ => none) a vs
mutual
inductive Rep (r : RC) : V → D → Prop where
  | non : Rep r .non .non
  | bl (b : Bool) : Rep r (.bl b) (.bl b)
  | int (i : Int) : Rep r (.int i) (.int i)
  | str (s : Str) : Rep r (.str s) (.str s)
  | tup {a : Addr} {vs : List V} {ds : List D} (h : r.Tup a vs) (q : Reps r vs ds) : Rep r (.ref a) (.tup ds)
  | lst {a : Addr} {vs : List V} {ds : List D} (h : r.H a = some (.lst vs)) (n : ¬ r.A a) (q : Reps r vs ds) : Rep r (.ref a) (.lst ds)
  | frz {a : Addr} {vs : List V} {ds : List D} (h : r.Lst a vs) (q : Reps r vs ds) : Rep r (.ref a) (.frz ds)
  | dct {a : Addr} {kvs : List (Key × V)} {ks : List Key} {ds : List D} (h : r.H a = some (.dK kvs)) (n : ¬ r.A a) (e : kvs.map (·.1) = ks) (q : Reps r (kvs.map (·.2)) ds) : Rep r (.ref a) (.dct ks ds)
  | ins {a Cc dx : Addr} {fs : List (Str × V)} {c : Str} {ns : List Str} {ds : List D} (h : r.H a = some (.ins Cc dx fs)) (n : ¬ r.A a) (g : r.mg c = some (.ref Cc)) (e : fs.map (·.1) = ns)
      (q : Reps r (fs.map (·.2)) ds) : Rep r (.ref a) (.ins c ns ds)
  | cell {a : Addr} {n : Nat} (h : r.C[n]? = some a) : Rep r (.ref a) (.cell n)
inductive Reps (r : RC) : List V → List D → Prop where
  | nil : Reps r [] []
  | cons {v : V} {d : D} {vs : List V} {ds : List D} (h : Rep r v d) (t : Reps r vs ds) : Reps r (v :: vs) (d :: ds)
end
/-- what a tree's standing leans on -/
structure Stq (r r' : RC) : Prop where
  k : r'.K = r.K
  g : r'.mg = r.mg
  a : ∀ b, r'.A b → r.A b ∨ r.H b = none
  c : ∃ m, r'.C = r.C ++ m
  h : ∀ b o, r.H b = some o → ¬ r.A b → r'.H b = some o
/-- from one state to a later one -/
structure Stp (r r' : RC) : Prop where
  k : r'.K = r.K
  g : r'.mg = r.mg
  a : ∀ b, r'.A b → r.A b ∨ r.H b = none
  c : ∃ m, r'.C = r.C ++ m
  h : ∀ b o, r.H b = some o → ¬ r.A b → r'.H b = some o
  l : ∀ b o, r.H b = some o → ∃ o', r'.H b = some o'
  m : ∀ b, r.B b → r'.B b
  n : ∀ b o, r.H b = some o → r.B b → r'.H b = some o
theorem Stp.q {r r' : RC} (S : Stp r r') : Stq r r' := ⟨S.k, S.g, S.a, S.c, S.h⟩
theorem Stq.na {r r' : RC} (S : Stq r r') {b : Addr} {o : HO} (h : r.H b = some o) (n : ¬ r.A b) : ¬ r'.A b := fun z => by
  rcases S.a b z with q | q
  · exact n q
  · rw [h] at q; cases q
theorem Stq.rd {r r' : RC} (S : Stq r r') {b : Addr} {u : HO} (n : ¬ r.A b) (h : Rd r.H b u) : ¬ r'.A b ∧ Rd r'.H b u := by
  rcases h with h | ⟨o, h⟩
  · exact ⟨S.na h n, .inl (S.h _ _ h n)⟩
  · exact ⟨S.na h n, .inr ⟨o, S.h _ _ h n⟩⟩
theorem Stq.tup {r r' : RC} (S : Stq r r') {a : Addr} {vs : List V} (h : r.Tup a vs) : r'.Tup a vs := by
  rcases h with ⟨n, o, h, h2⟩ | h
  · exact .inl ⟨S.na h n, o, S.h _ _ h n, h2⟩
  · exact .inr (by rw [S.k]; exact h)
theorem Stq.lst {r r' : RC} (S : Stq r r') {a : Addr} {vs : List V} (h : r.Lst a vs) : r'.Lst a vs := by
  rcases h with ⟨n, h⟩ | h
  · exact .inl (S.rd n h)
  · exact .inr (by rw [S.k]; exact h)
mutual
theorem Rep.stq {r r' : RC} (S : Stq r r') : ∀ {v : V} {d : D}, Rep r v d → Rep r' v d
  | _, _, .non => .non
  | _, _, .bl b => .bl b
  | _, _, .int i => .int i
  | _, _, .str s => .str s
  | _, _, .tup h q => .tup (S.tup h) (Reps.stq S q)
  | _, _, .lst h n q => .lst (S.h _ _ h n) (S.na h n) (Reps.stq S q)
  | _, _, .frz h q => .frz (S.lst h) (Reps.stq S q)
  | _, _, .dct h n e q => .dct (S.h _ _ h n) (S.na h n) e (Reps.stq S q)
  | _, _, .ins h n g e q => .ins (S.h _ _ h n) (S.na h n) (by rw [S.g]; exact g) e (Reps.stq S q)
  | _, _, .cell h => .cell (by
      obtain ⟨m, e⟩ := S.c
      rw [e, List.getElem?_append_left (List.getElem?_eq_some_iff.mp h).1]
      exact h)
theorem Reps.stq {r r' : RC} (S : Stq r r') : ∀ {vs : List V} {ds : List D}, Reps r vs ds → Reps r' vs ds
  | _, _, .nil => .nil
  | _, _, .cons h t => .cons (Rep.stq S h) (Reps.stq S t)
end
theorem Stp.refl (r : RC) : Stp r r := ⟨rfl, rfl, fun _ h => .inl h, ⟨[], by simp⟩, fun _ _ h _ => h, fun _ o h => ⟨o, h⟩, fun _ h => h, fun _ _ h _ => h⟩
theorem Stp.na {r r' : RC} (S : Stp r r') {b : Addr} {o : HO} (h : r.H b = some o) (n : ¬ r.A b) : ¬ r'.A b := fun z => by
  rcases S.a b z with q | q
  · exact n q
  · rw [h] at q; cases q
theorem Stp.trans {r r1 r2 : RC} (S : Stp r r1) (T : Stp r1 r2) : Stp r r2 := by
  refine ⟨T.k.trans S.k, T.g.trans S.g, fun b z => ?_, ?_, fun b o h n => T.h b o (S.h b o h n) (S.na h n), fun b o h => ?_, fun b h => T.m b (S.m b h), fun b o h z => T.n b o (S.n b o h z) (S.m b z)⟩
  · rcases T.a b z with q | q
    · exact S.a b q
    · right
      cases e : r.H b with
      | none => rfl
      | some o =>
        obtain ⟨o', e'⟩ := S.l b o e
        rw [q] at e'; cases e'
  · obtain ⟨m, e⟩ := S.c
    obtain ⟨m', e'⟩ := T.c
    exact ⟨m ++ m', by rw [e', e, List.append_assoc]⟩
  · obtain ⟨o', e'⟩ := S.l b o h
    exact T.l b o' e'
theorem Stp.tup {r r' : RC} (S : Stp r r') {a : Addr} {vs : List V} (h : r.Tup a vs) : r'.Tup a vs := S.q.tup h
theorem Stp.lst {r r' : RC} (S : Stp r r') {a : Addr} {vs : List V} (h : r.Lst a vs) : r'.Lst a vs := S.q.lst h
theorem Rep.step {r r' : RC} (S : Stp r r') {v : V} {d : D} (h : Rep r v d) : Rep r' v d := h.stq S.q
theorem Reps.step {r r' : RC} (S : Stp r r') {vs : List V} {ds : List D} (h : Reps r vs ds) : Reps r' vs ds := h.stq S.q
theorem Reps.length {r : RC} : ∀ {vs : List V} {ds : List D}, Reps r vs ds → vs.length = ds.length
  | _, _, .nil => rfl
  | _, _, .cons _ t => congrArg (· + 1) (Reps.length t)
theorem Reps.append {r : RC} : ∀ {vs ws : List V} {ds es : List D}, Reps r vs ds → Reps r ws es → Reps r (vs ++ ws) (ds ++ es)
  | _, _, _, _, .nil, q => q
  | _, _, _, _, .cons h t, q => .cons h (Reps.append t q)
theorem Reps.get {r : RC} : ∀ {vs : List V} {ds : List D} {i : Nat} {d : D}, Reps r vs ds → ds[i]? = some d → ∃ v, vs[i]? = some v ∧ Rep r v d
  | _, _, _, _, .nil, e => by simp at e
  | _, _, 0, _, .cons h _, e => by simp at e; subst e; exact ⟨_, rfl, h⟩
  | _, _, i + 1, _, .cons _ t, e => by
    obtain ⟨v, h1, h2⟩ := Reps.get (i := i) t (by simpa using e)
    exact ⟨v, by simpa using h1, h2⟩
theorem Reps.getV {r : RC} : ∀ {vs : List V} {ds : List D} {i : Nat} {v : V}, Reps r vs ds → vs[i]? = some v → ∃ d, ds[i]? = some d ∧ Rep r v d
  | _, _, _, _, .nil, e => by simp at e
  | _, _, 0, _, .cons h _, e => by simp at e; subst e; exact ⟨_, rfl, h⟩
  | _, _, i + 1, _, .cons _ t, e => by
    obtain ⟨v, h1, h2⟩ := Reps.getV (i := i) t (by simpa using e)
    exact ⟨v, by simpa using h1, h2⟩
theorem Reps.set {r : RC} {v : V} {d : D} (h : Rep r v d) : ∀ {vs : List V} {ds : List D} (i : Nat), Reps r vs ds → Reps r (vs.set i v) (ds.set i d)
  | _, _, _, .nil => .nil
  | _, _, 0, .cons _ t => .cons h t
  | _, _, i + 1, .cons q t => .cons q (Reps.set h i t)
theorem Reps.take {r : RC} : ∀ {vs : List V} {ds : List D} (n : Nat), Reps r vs ds → Reps r (vs.take n) (ds.take n)
  | _, _, 0, _ => by simp; exact .nil
  | _, _, _ + 1, .nil => by simp; exact .nil
  | _, _, n + 1, .cons q t => by simp; exact .cons q (Reps.take n t)
theorem Reps.drop {r : RC} : ∀ {vs : List V} {ds : List D} (n : Nat), Reps r vs ds → Reps r (vs.drop n) (ds.drop n)
  | _, _, 0, q => q
  | _, _, _ + 1, .nil => by simp; exact .nil
  | _, _, n + 1, .cons _ t => by simp; exact Reps.drop n t
theorem Reps.one {r : RC} {v : V} {d : D} (h : Rep r v d) : Reps r [v] [d] := .cons h .nil
theorem Reps.reverse {r : RC} : ∀ {vs : List V} {ds : List D}, Reps r vs ds → Reps r vs.reverse ds.reverse
  | _, _, .nil => .nil
  | _, _, .cons h t => by
    rw [List.reverse_cons, List.reverse_cons]
    exact (Reps.reverse t).append (.one h)
theorem Reps.map {r : RC} {f : D → D} {g : V → V} (h : ∀ v d, Rep r v d → Rep r (g v) (f d)) : ∀ {vs : List V} {ds : List D}, Reps r vs ds → Reps r (vs.map g) (ds.map f)
  | _, _, .nil => .nil
  | _, _, .cons q t => .cons (h _ _ q) (Reps.map h t)
theorem Reps.flat {r : RC} {f : List D} {g : List V} (h : Reps r g f) : ∀ n : Nat, Reps r (List.replicate n g).flatten (List.replicate n f).flatten
  | 0 => .nil
  | n + 1 => by
    rw [List.replicate_succ, List.replicate_succ, List.flatten_cons, List.flatten_cons]
    exact h.append (Reps.flat h n)

/-! ### a def's state -/
structure Ctx where
  H0 : Hp
  A0 : Addr → Prop
  C0 : List Addr
  M0 : Addr → Prop
  W : WX
  eh : Option (Addr × Addr)
  ec : Str
/-- the objects that only a slot holds; none: a thing under way that nothing may change -/
abbrev Os := List (Option Nat × Addr)
def AA (Φ : Ctx) (C : List Addr) (os : Os) : Addr → Prop := fun a => Φ.A0 a ∨ a ∈ C ∨ ∃ i, (i, a) ∈ os
def rcK (Φ : Ctx) (K : PySem.W.Frag) (mg : Str → Option Value) (C : List Addr) (os : Os) (H : Hp) : RC := ⟨K, mg, AA Φ C os, fun a => (none, a) ∈ os, C, H⟩
abbrev rc (Φ : Ctx) (X : Cx) (C : List Addr) (os : Os) (H : Hp) : RC := rcK Φ X.K X.mg C os H
/-- the content of an owned object -/
def OwnR (r : RC) (a : Addr) : D → Prop
  | .lst ds => ∃ vs, r.H a = some (.lst vs) ∧ Reps r vs ds
  | .dct ks ds => ∃ kvs, r.H a = some (.dK kvs) ∧ kvs.map (·.1) = ks ∧ Reps r (kvs.map (·.2)) ds
  | _ => False
def BdR (r : RC) (a : Addr) (c : Str) (ns : List Str) (ds : List D) : Prop :=
  ∃ Cc dx fs, r.H a = some (.ins Cc dx fs) ∧ r.mg c = some (.ref Cc) ∧ fs.map (·.1) = ns ∧ Reps r (fs.map (·.2)) ds
def EhR (r : RC) (dx : Addr) (c : Str) (ns : List Str) (ds : List D) : Prop :=
  ∃ fs, r.H dx = some (.xd fs) ∧ ¬ r.A dx ∧ fs.map (·.1) = ns ∧ Reps r (fs.map (·.2)) ds
def EntR (Φ : Ctx) (r : RC) (os : Os) (i : Nat) (v : V) : Ent → Prop
  | .sh d => Rep r v d
  | .ow d => ∃ a, v = .ref a ∧ (some i, a) ∈ os ∧ OwnR r a d
  | .bd c ns ds => ∃ a, v = .ref a ∧ (some i, a) ∈ os ∧ BdR r a c ns ds
  | .eh c ns ds => ∃ a dx, v = .ref a ∧ (Φ.eh = some (a, dx) ∧ Φ.ec = c) ∧ EhR r dx c ns ds
def CellR (r : RC) (a : Addr) : Cell → Prop
  | .lst ds => ∃ vs, r.H a = some (.lst vs) ∧ Reps r vs ds
  | .dct ks ds => ∃ kvs, r.H a = some (.dK kvs) ∧ kvs.map (·.1) = ks ∧ Reps r (kvs.map (·.2)) ds
  | .ins c ns ds => BdR r a c ns ds
def StoR (r : RC) (μ : Sto) : Prop := r.C.length = μ.length ∧ ∀ (n : Nat) a c, r.C[n]? = some a → μ[n]? = some c → CellR r a c
structure RlK (Φ : Ctx) (K : PySem.W.Frag) (mg : Str → Option Value) (ρ : Env) (μ : Sto) (C : List Addr) (os : Os) (σ : St) (H : Hp) : Prop where
  len : ρ.length = σ.length
  env : ∀ (i : Nat) e, ρ[i]? = some (some e) → ∃ v, σ[i]? = some (some v) ∧ EntR Φ (rcK Φ K mg C os H) os i v e
  sto : StoR (rcK Φ K mg C os H) μ
  own : ∀ i j a, (i, a) ∈ os → (j, a) ∈ os → i = j
  fre : ∀ i a, (i, a) ∈ os → (Φ.H0 a = none ∨ Φ.M0 a) ∧ a ∉ C ∧ ¬ Φ.A0 a ∧ ∃ o, H a = some o
  pre : ∃ m, C = Φ.C0 ++ m
  cfr : ∀ a ∈ C, a ∈ Φ.C0 ∨ Φ.H0 a = none
  cnd : C.Nodup
  clv : ∀ a ∈ C, ∃ o, H a = some o
  frm : ∀ a o, Φ.H0 a = some o → a ∉ C → ¬ Φ.M0 a → H a = some o
  alv : ∀ a, Φ.A0 a ∨ Φ.M0 a → ∃ o, H a = some o
abbrev Rl (Φ : Ctx) (X : Cx) (ρ : Env) (μ : Sto) (C : List Addr) (os : Os) (σ : St) (H : Hp) : Prop := RlK Φ X.K X.mg ρ μ C os σ H

def PostE (Φ : Ctx) (X : Cx) (C : List Addr) (os : Os) (σ : St) (H : Hp) (o : O D) (Q : VK) : Prop := match o with
  | .ok d ρ' μ' => ∀ v H' C' os', Rl Φ X ρ' μ' C' os' σ H' → Stp (rc Φ X C os H) (rc Φ X C' os' H') → Rep (rc Φ X C' os' H') v d → Q v H'
  | .ex c ns ds ρ' μ' => ∀ Cc dx H' C' os', Rl Φ X ρ' μ' C' os' σ H' → Stp (rc Φ X C os H) (rc Φ X C' os' H') → X.mg c = some (.ref Cc) → EhR (rc Φ X C' os' H') dx c ns ds → Φ.W (.ref Cc) (some dx) σ H'
  | .no => False
def cE (Φ : Ctx) (X : Cx) (f : Mo D) : TE := fun σ H Q => ∃ ρ μ C os, Rl Φ X ρ μ C os σ H ∧ PostE Φ X C os σ H (f ρ μ) Q
def DE (Φ : Ctx) (X : Cx) (e : Expr) (f : Mo D) : Prop := PE X e (cE Φ X f)
theorem PostE.from {Φ : Ctx} {X : Cx} {C C1 : List Addr} {os os1 : Os} {σ : St} {H H1 : Hp} {o : O D} {Q : VK} (S : Stp (rc Φ X C os H) (rc Φ X C1 os1 H1)) (h : PostE Φ X C os σ H o Q) : PostE Φ X C1 os1 σ H1 o Q := by
  cases o with
  | ok d ρ' μ' => exact fun v H' C' os' R T q => h v H' C' os' R (S.trans T) q
  | ex c ns ds ρ' μ' => exact fun Cc dx H' C' os' R T g e => h Cc dx H' C' os' R (S.trans T) g e
  | no => exact h
/-- the second thing behind the first -/
theorem PostE.bnd {Φ : Ctx} {X : Cx} {C : List Addr} {os : Os} {σ : St} {H : Hp} {f : Mo D} {g : D → Mo D} {ρ : Env} {μ : Sto} {Q Q1 : VK} (h : PostE Φ X C os σ H (DL.bnd f g ρ μ) Q)
    (k : ∀ d ρ1 μ1 v H1 C1 os1, Rl Φ X ρ1 μ1 C1 os1 σ H1 → Stp (rc Φ X C os H) (rc Φ X C1 os1 H1) → Rep (rc Φ X C1 os1 H1) v d → PostE Φ X C1 os1 σ H1 (g d ρ1 μ1) Q → Q1 v H1) : PostE Φ X C os σ H (f ρ μ) Q1 := by
  unfold DL.bnd at h
  cases e : f ρ μ with
  | ok d ρ1 μ1 =>
    rw [e] at h
    exact fun v H1 C1 os1 R S q => k d ρ1 μ1 v H1 C1 os1 R S q (PostE.from S h)
  | ex c ns ds ρ1 μ1 => rw [e] at h; exact h
  | no => rw [e] at h; exact h
theorem PE.imp {X : Cx} {e : Expr} {t t' : TE} (h : PE X e t) (i : ∀ σ H Q, t' σ H Q → t σ H Q) : PE X e t' := ⟨fun pins s σ H Q I q => h.run pins s σ H Q I (i σ H Q q)⟩

/-! ### an argument list -/
def PostA (Φ : Ctx) (X : Cx) (C : List Addr) (os : Os) (σ : St) (H : Hp) (o : O (List D)) (Q : List V → Hp → Prop) : Prop := match o with
  | .ok ds ρ' μ' => ∀ vs H' C' os', Rl Φ X ρ' μ' C' os' σ H' → Stp (rc Φ X C os H) (rc Φ X C' os' H') → Reps (rc Φ X C' os' H') vs ds → Q vs H'
  | .ex c ns ds ρ' μ' => ∀ Cc dx H' C' os', Rl Φ X ρ' μ' C' os' σ H' → Stp (rc Φ X C os H) (rc Φ X C' os' H') → X.mg c = some (.ref Cc) → EhR (rc Φ X C' os' H') dx c ns ds → Φ.W (.ref Cc) (some dx) σ H'
  | .no => False
def cA (Φ : Ctx) (X : Cx) (f : Mo (List D)) : TA := fun σ H Q => ∃ ρ μ C os, Rl Φ X ρ μ C os σ H ∧ PostA Φ X C os σ H (f ρ μ) Q
def DA (Φ : Ctx) (X : Cx) (es : List Expr) (f : Mo (List D)) : Prop := PA X es (cA Φ X f)
theorem PostA.from {Φ : Ctx} {X : Cx} {C C1 : List Addr} {os os1 : Os} {σ : St} {H H1 : Hp} {o : O (List D)} {Q : List V → Hp → Prop} (S : Stp (rc Φ X C os H) (rc Φ X C1 os1 H1)) (h : PostA Φ X C os σ H o Q) :
    PostA Φ X C1 os1 σ H1 o Q := by
  cases o with
  | ok d ρ' μ' => exact fun v H' C' os' R T q => h v H' C' os' R (S.trans T) q
  | ex c ns ds ρ' μ' => exact fun Cc dx H' C' os' R T g e => h Cc dx H' C' os' R (S.trans T) g e
  | no => exact h
theorem PA.imp {X : Cx} {es : List Expr} {t t' : TA} (h : PA X es t) (i : ∀ σ H Q, t' σ H Q → t σ H Q) : PA X es t' := ⟨fun pos pins s σ H Q I q => h.run pos pins s σ H Q I (i σ H Q q)⟩
def anil : Mo (List D) := ret []
def acons (f : Mo D) (g : Mo (List D)) : Mo (List D) := bnd f fun d => bnd g fun ds => ret (d :: ds)
theorem da_nil {Φ : Ctx} {X : Cx} : DA Φ X [] anil := PA.imp pa_nil fun σ H Q ⟨ρ, μ, C, os, R, h⟩ => h [] H C os R (Stp.refl _) .nil
theorem da_cons {Φ : Ctx} {X : Cx} {e : Expr} {es : List Expr} {f : Mo D} {g : Mo (List D)} (he : DE Φ X e f) (hr : DA Φ X es g) (hs : starEach (e :: es) X.env = (false, eval e X.env) :: starEach es X.env := by rfl) :
    DA Φ X (e :: es) (acons f g) := PA.imp (pa_cons he hr hs) fun σ H Q ⟨ρ, μ, C, os, R, h⟩ => by
  refine ⟨ρ, μ, C, os, R, ?_⟩
  unfold acons bnd at h
  cases e1 : f ρ μ with
  | no => rw [e1] at h; exact h
  | ex c ns ds ρ1 μ1 => rw [e1] at h; exact h
  | ok d ρ1 μ1 =>
    rw [e1] at h
    intro v H1 C1 os1 R1 S1 q1
    refine ⟨ρ1, μ1, C1, os1, R1, ?_⟩
    have h := PostA.from S1 h
    cases e2 : g ρ1 μ1 with
    | no => simp only [e2] at h; exact h
    | ex c ns ds ρ2 μ2 => simp only [e2] at h; exact h
    | ok ds ρ2 μ2 =>
      simp only [e2] at h
      exact fun vs H2 C2 os2 R2 S2 q2 => h (v :: vs) H2 C2 os2 R2 S2 (.cons (q1.step S2) q2)
end L2.DL

/-! DL2: names, constants, operators, comparisons, tests, displays, places. -/
namespace L2.DL
open PySem PySem.Spec PyProof.Rows

/-! ### growing heaps -/
def Grow (H H' : Hp) : Prop := ∀ b o, H b = some o → H' b = some o
theorem Grow.refl (H : Hp) : Grow H H := fun _ _ h => h
theorem Grow.trans {H H1 H2 : Hp} (a : Grow H H1) (b : Grow H1 H2) : Grow H H2 := fun c o h => b c o (a c o h)
theorem Grow.upd {H : Hp} {p : Addr} {o : HO} (h : H p = none) : Grow H (upd H p o) := fun a u e => by rw [upd_ne (ne_of_none e h)]; exact e
def RC.at (r : RC) (H : Hp) : RC := ⟨r.K, r.mg, r.A, r.B, r.C, H⟩
theorem Grow.stp {r : RC} {H : Hp} (g : Grow r.H H) : Stp r (r.at H) := ⟨rfl, rfl, fun _ h => .inl h, ⟨[], by simp [RC.at]⟩, fun b o h _ => g b o h, fun b o h => ⟨o, g b o h⟩, fun _ h => h, fun b o h _ => g b o h⟩
theorem OwnR.grow {r : RC} {H : Hp} (g : Grow r.H H) {a : Addr} : ∀ {d : D}, OwnR r a d → OwnR (r.at H) a d
  | .lst _, ⟨vs, h, q⟩ => ⟨vs, g _ _ h, q.step g.stp⟩
  | .dct _ _, ⟨kvs, h, e, q⟩ => ⟨kvs, g _ _ h, e, q.step g.stp⟩
  | .non, h => h.elim | .bl _, h => h.elim | .int _, h => h.elim | .str _, h => h.elim | .tup _, h => h.elim | .frz _, h => h.elim | .ins _ _ _, h => h.elim | .cell _, h => h.elim
theorem BdR.grow {r : RC} {H : Hp} (g : Grow r.H H) {a : Addr} {c : Str} {ns : List Str} {ds : List D} : BdR r a c ns ds → BdR (r.at H) a c ns ds := fun ⟨Cc, dx, fs, h, m, e, q⟩ => ⟨Cc, dx, fs, g _ _ h, m, e, q.step g.stp⟩
theorem EhR.step {r r' : RC} (S : Stp r r') {dx : Addr} {c : Str} {ns : List Str} {ds : List D} : EhR r dx c ns ds → EhR r' dx c ns ds := fun ⟨fs, h, n, e, q⟩ => ⟨fs, S.h _ _ h n, S.na h n, e, q.step S⟩
theorem CellR.grow {r : RC} {H : Hp} (g : Grow r.H H) {a : Addr} : ∀ {c : Cell}, CellR r a c → CellR (r.at H) a c
  | .lst _, ⟨vs, h, q⟩ => ⟨vs, g _ _ h, q.step g.stp⟩
  | .dct _ _, ⟨kvs, h, e, q⟩ => ⟨kvs, g _ _ h, e, q.step g.stp⟩
  | .ins _ _ _, h => BdR.grow g h
theorem EntR.grow {Φ : Ctx} {r : RC} {os : Os} {H : Hp} (g : Grow r.H H) {i : Nat} {v : V} : ∀ {e : Ent}, EntR Φ r os i v e → EntR Φ (r.at H) os i v e
  | .sh _, h => h.step g.stp
  | .ow _, ⟨a, e, m, h⟩ => ⟨a, e, m, h.grow g⟩
  | .bd _ _ _, ⟨a, e, m, h⟩ => ⟨a, e, m, h.grow g⟩
  | .eh _ _ _, ⟨a, dx, e, m, h⟩ => ⟨a, dx, e, m, h.step g.stp⟩
theorem Rl.grow {Φ : Ctx} {X : Cx} {ρ : Env} {μ : Sto} {C : List Addr} {os : Os} {σ : St} {H H' : Hp} (R : Rl Φ X ρ μ C os σ H) (g : Grow H H') : Rl Φ X ρ μ C os σ H' where
  len := R.len
  env := fun i e h => by
    obtain ⟨v, h1, h2⟩ := R.env i e h
    exact ⟨v, h1, EntR.grow (r := rc Φ X C os H) g h2⟩
  sto := ⟨R.sto.1, fun n a c h1 h2 => CellR.grow (r := rc Φ X C os H) g (R.sto.2 n a c h1 h2)⟩
  own := R.own
  fre := fun i a h => by
    obtain ⟨h1, h2, h3, o, h4⟩ := R.fre i a h
    exact ⟨h1, h2, h3, o, g _ _ h4⟩
  pre := R.pre
  cfr := R.cfr
  cnd := R.cnd
  clv := fun a h => let ⟨o, e⟩ := R.clv a h; ⟨o, g _ _ e⟩
  frm := fun a o h1 h2 h3 => g _ _ (R.frm a o h1 h2 h3)
  alv := fun a h => let ⟨o, e⟩ := R.alv a h; ⟨o, g _ _ e⟩
theorem rc_at {Φ : Ctx} {X : Cx} {C : List Addr} {os : Os} {H H' : Hp} : (rc Φ X C os H).at H' = rc Φ X C os H' := rfl
theorem stp_grow {Φ : Ctx} {X : Cx} {C : List Addr} {os : Os} {H H' : Hp} (g : Grow H H') : Stp (rc Φ X C os H) (rc Φ X C os H') := Grow.stp (r := rc Φ X C os H) g
theorem Rl.fresh {Φ : Ctx} {X : Cx} {ρ : Env} {μ : Sto} {C : List Addr} {os : Os} {σ : St} {H : Hp} (R : Rl Φ X ρ μ C os σ H) {p : Addr} (h : H p = none) : ¬ AA Φ C os p := by
  rintro (z | z | ⟨i, z⟩)
  · obtain ⟨o, e⟩ := R.alv p (.inl z)
    rw [h] at e; cases e
  · obtain ⟨o, e⟩ := R.clv p z
    rw [h] at e; cases e
  · obtain ⟨_, _, _, o, e⟩ := R.fre i p z
    rw [h] at e; cases e

/-! ### weakly: an owned thing read in passing -/
def RepW (r : RC) (v : V) (d : D) : Prop := Rep r v d ∨ ∃ a, v = .ref a ∧ OwnR r a d
theorem RepW.lst {r : RC} {v : V} {ds : List D} (h : RepW r v (.lst ds)) : ∃ a vs, v = .ref a ∧ r.H a = some (.lst vs) ∧ Reps r vs ds := by
  rcases h with h | ⟨a, e, vs, h, q⟩
  · cases h with
    | lst h n q => exact ⟨_, _, rfl, h, q⟩
  · exact ⟨a, vs, e, h, q⟩
theorem RepW.dct {r : RC} {v : V} {ks : List Key} {ds : List D} (h : RepW r v (.dct ks ds)) : ∃ a kvs, v = .ref a ∧ r.H a = some (.dK kvs) ∧ kvs.map (·.1) = ks ∧ Reps r (kvs.map (·.2)) ds := by
  rcases h with h | ⟨a, e, kvs, h, e2, q⟩
  · cases h with
    | dct h n e q => exact ⟨_, _, rfl, h, e, q⟩
  · exact ⟨a, kvs, e, h, e2, q⟩
theorem RepW.non {r : RC} {v : V} (h : RepW r v .non) : v = .non := by
  rcases h with h | ⟨a, e, h⟩
  · cases h; rfl
  · exact h.elim
theorem RepW.bl {r : RC} {v : V} {b : Bool} (h : RepW r v (.bl b)) : v = .bl b := by
  rcases h with h | ⟨a, e, h⟩
  · cases h; rfl
  · exact h.elim
theorem RepW.int {r : RC} {v : V} {i : Int} (h : RepW r v (.int i)) : v = .int i := by
  rcases h with h | ⟨a, e, h⟩
  · cases h; rfl
  · exact h.elim
theorem RepW.str {r : RC} {v : V} {s : Str} (h : RepW r v (.str s)) : v = .str s := by
  rcases h with h | ⟨a, e, h⟩
  · cases h; rfl
  · exact h.elim
theorem RepW.tup {r : RC} {v : V} {ds : List D} (h : RepW r v (.tup ds)) : ∃ a vs, v = .ref a ∧ r.Tup a vs ∧ Reps r vs ds := by
  rcases h with h | ⟨a, e, h⟩
  · cases h with
    | tup h q => exact ⟨_, _, rfl, h, q⟩
  · exact h.elim
theorem RepW.frz {r : RC} {v : V} {ds : List D} (h : RepW r v (.frz ds)) : ∃ a vs, v = .ref a ∧ r.Lst a vs ∧ Reps r vs ds := by
  rcases h with h | ⟨a, e, h⟩
  · cases h with
    | frz h q => exact ⟨_, _, rfl, h, q⟩
  · exact h.elim
theorem RepW.ins {r : RC} {v : V} {c : Str} {ns : List Str} {ds : List D} (h : RepW r v (.ins c ns ds)) : ∃ a Cc dx fs, v = .ref a ∧ r.H a = some (.ins Cc dx fs) ∧ r.mg c = some (.ref Cc) ∧ fs.map (·.1) = ns ∧ Reps r (fs.map (·.2)) ds := by
  rcases h with h | ⟨a, e, h⟩
  · cases h with
    | ins h n g e q => exact ⟨_, _, _, _, rfl, h, g, e, q⟩
  · exact h.elim
theorem RC.Tup.sq {r : RC} {a : Addr} {vs : List V} (h : r.Tup a vs) : SqT r.K r.H a vs := by
  rcases h with ⟨_, o, h, _⟩ | ⟨o, its, n, h1, h2, _, h3, h4, h5⟩
  · exact .inl (.inr ⟨o, h⟩)
  · exact .inr ⟨o, its, n, h1, h2, h3, h4, h5⟩
theorem RC.Tup.nd {r : RC} {a : Addr} {vs : List V} (h : r.Tup a vs) : TupNd r.K r.H (.ref a) := by
  rcases h with ⟨_, o, h, h2⟩ | ⟨o, its, n, h1, h2, h3, _⟩
  · exact ⟨a, rfl, .inl ⟨o, _, h, h2⟩⟩
  · exact ⟨a, rfl, .inr ⟨o, h1, h2, h3⟩⟩
theorem RC.Lst.sq {r : RC} {a : Addr} {vs : List V} (h : r.Lst a vs) : SqL r.K r.H a vs := by
  rcases h with ⟨_, h⟩ | h
  · exact .inl h
  · rcases h with h | h
    · rcases h with h | ⟨o, h⟩ <;> cases h
    · exact .inr h

def PostB (Φ : Ctx) (X : Cx) (C : List Addr) (os : Os) (σ : St) (H : Hp) (o : O D) (Q : VK) : Prop := match o with
  | .ok d ρ' μ' => ∀ v H' C' os', Rl Φ X ρ' μ' C' os' σ H' → Stp (rc Φ X C os H) (rc Φ X C' os' H') → RepW (rc Φ X C' os' H') v d → Q v H'
  | .ex c ns ds ρ' μ' => ∀ Cc dx H' C' os', Rl Φ X ρ' μ' C' os' σ H' → Stp (rc Φ X C os H) (rc Φ X C' os' H') → X.mg c = some (.ref Cc) → EhR (rc Φ X C' os' H') dx c ns ds → Φ.W (.ref Cc) (some dx) σ H'
  | .no => False
def cB (Φ : Ctx) (X : Cx) (f : Mo D) : TE := fun σ H Q => ∃ ρ μ C os, Rl Φ X ρ μ C os σ H ∧ PostB Φ X C os σ H (f ρ μ) Q
/-- an expression whose value is only read at once -/
def DB (Φ : Ctx) (X : Cx) (e : Expr) (f : Mo D) : Prop := PE X e (cB Φ X f)
section
variable {Φ : Ctx} {X : Cx} {a b c e : Expr} {f g k : Mo D} {pos : Pos}
theorem DE.wk (h : DE Φ X e f) : DB Φ X e f := PE.imp h fun σ H Q ⟨ρ, μ, C, os, R, q⟩ => ⟨ρ, μ, C, os, R, by
  cases e : f ρ μ with
  | ok d ρ' μ' => rw [e] at q; exact fun v H' C' os' R' S z => q v H' C' os' R' S (.inl z)
  | ex c ns ds ρ' μ' => rw [e] at q; exact q
  | no => rw [e] at q; exact q⟩

/-! ### names and constants -/
def cst (d : D) : Mo D := ret d
theorem cE_at {ρ : Env} {μ : Sto} {C : List Addr} {os : Os} {σ : St} {H : Hp} (R : Rl Φ X ρ μ C os σ H) {v : V} {d : D} (h : Rep (rc Φ X C os H) v d) {Q : VK} (q : PostE Φ X C os σ H (ret d ρ μ) Q) : Q v H := q v H C os R (Stp.refl _) h
theorem de_int {i : Int} {j pos} : DE Φ X (.Constant (.int i) j pos) (cst (.int i)) := PE.imp pe_int fun σ H Q ⟨ρ, μ, C, os, R, q⟩ => cE_at R (.int i) q
theorem de_bl {i : Bool} {j pos} : DE Φ X (.Constant (.bool i) j pos) (cst (.bl i)) := PE.imp pe_bl fun σ H Q ⟨ρ, μ, C, os, R, q⟩ => cE_at R (.bl i) q
theorem de_non {j pos} : DE Φ X (.Constant .none j pos) (cst .non) := PE.imp pe_non fun σ H Q ⟨ρ, μ, C, os, R, q⟩ => cE_at R .non q
theorem de_str {i : Str} {j pos} : DE Φ X (.Constant (.str i) j pos) (cst (.str i)) := PE.imp pe_str fun σ H Q ⟨ρ, μ, C, os, R, q⟩ => cE_at R (.str i) q
/-- what the module's name x holds, at every time -/
structure GlD (X : Cx) (x : Str) (d : D) : Prop where
  ex : ∃ u v, X.mg x = some u ∧ RelV v u ∧ ∀ r : RC, r.K = X.K → r.mg = X.mg → Rep r v d
theorem de_glob {x : Str} {d : D} (G : GlD X x d) (hg : Gl X x) (hd : (x == ("__debug__" : Str)) = false := by decide) : DE Φ X (.Name x pos) (cst d) := by
  obtain ⟨u, v, hm, r, h⟩ := G.ex
  exact PE.imp (pe_glob hg hm r hd) fun σ H Q ⟨ρ, μ, C, os, R, q⟩ => cE_at R (h _ rfl rfl) q

/-- an owned thing given out: from now on shared -/
def lett (i : Nat) : Mo D := fun ρ μ => match ρ[i]? with
  | some (some (.sh d)) => .ok d ρ μ
  | some (some (.ow d)) => .ok d (ρ.set i (some (.sh d))) μ
  | some (some (.bd c ns vs)) => .ok (.ins c ns vs) (ρ.set i (some (.sh (.ins c ns vs)))) μ
  | _ => .no
/-- what a cell holds, as a value -/
def Cell.d : Cell → D
  | .lst ds => .lst ds
  | .dct ks ds => .dct ks ds
  | .ins c ns ds => .ins c ns ds
/-- a shared value read in passing: a cell's content -/
def pekD (d : D) (μ : Sto) : Option D := match d with
  | .cell n => match μ[n]? with
    | some (.lst ds) => some (.lst ds)
    | some (.dct ks ds) => some (.dct ks ds)
    | _ => none
  | d => some d
/-- read in passing -/
def pek (i : Nat) : Mo D := fun ρ μ => match ρ[i]? with
  | some (some (.sh d)) => match pekD d μ with
    | some d' => .ok d' ρ μ
    | none => .no
  | some (some (.ow d)) => .ok d ρ μ
  | _ => .no
def noA (a : Addr) (os : Os) : Os := os.filter fun p => !(p.2 == a)
theorem mem_noA {a b : Addr} {i : Option Nat} {os : Os} : (i, b) ∈ noA a os ↔ (i, b) ∈ os ∧ b ≠ a := by
  unfold noA
  rw [List.mem_filter]
  simp
theorem OwnR.step {r r' : RC} (S : Stp r r') (hH : r'.H = r.H) {a : Addr} : ∀ {d : D}, OwnR r a d → OwnR r' a d
  | .lst _, ⟨vs, h, q⟩ => ⟨vs, by rw [hH]; exact h, q.step S⟩
  | .dct _ _, ⟨kvs, h, e, q⟩ => ⟨kvs, by rw [hH]; exact h, e, q.step S⟩
  | .non, h => h.elim | .bl _, h => h.elim | .int _, h => h.elim | .str _, h => h.elim | .tup _, h => h.elim | .frz _, h => h.elim | .ins _ _ _, h => h.elim | .cell _, h => h.elim
theorem BdR.stepH {r r' : RC} (S : Stp r r') (hH : r'.H = r.H) {a : Addr} {c : Str} {ns : List Str} {ds : List D} : BdR r a c ns ds → BdR r' a c ns ds := fun ⟨Cc, dx, fs, h, m, e, q⟩ =>
  ⟨Cc, dx, fs, by rw [hH]; exact h, by rw [S.g]; exact m, e, q.step S⟩
theorem CellR.step {r r' : RC} (S : Stp r r') (hH : r'.H = r.H) {a : Addr} : ∀ {c : Cell}, CellR r a c → CellR r' a c
  | .lst _, ⟨vs, h, q⟩ => ⟨vs, by rw [hH]; exact h, q.step S⟩
  | .dct _ _, ⟨kvs, h, e, q⟩ => ⟨kvs, by rw [hH]; exact h, e, q.step S⟩
  | .ins _ _ _, h => BdR.stepH S hH h
/-- the entry of slot i is turned, its address let go -/
theorem Rl.letgo {ρ : Env} {μ : Sto} {C : List Addr} {os : Os} {σ : St} {H : Hp} {i : Nat} {a : Addr} {d : D} (R : Rl Φ X ρ μ C os σ H) (hi : i < ρ.length) (hv : σ[i]? = some (some (.ref a))) (hm : (some i, a) ∈ os)
    (h : Rep (rc Φ X C (noA a os) H) (.ref a) d) : Rl Φ X (ρ.set i (some (.sh d))) μ C (noA a os) σ H ∧ Stp (rc Φ X C os H) (rc Φ X C (noA a os) H) := by
  have S : Stp (rc Φ X C os H) (rc Φ X C (noA a os) H) := ⟨rfl, rfl, fun b z => by
    rcases z with z | z | ⟨j, z⟩
    · exact .inl (.inl z)
    · exact .inl (.inr (.inl z))
    · exact .inl (.inr (.inr ⟨j, (mem_noA.mp z).1⟩)), ⟨[], by simp [rcK]⟩, fun b o z _ => z, fun b o z => ⟨o, z⟩, fun b z => mem_noA.mpr ⟨z, fun e => by
      have q := R.own none (some i) a (e ▸ z) hm
      cases q⟩, fun b o z _ => z⟩
  have other : ∀ (j : Nat) (b : Addr), j ≠ i → (some j, b) ∈ os → (some j, b) ∈ noA a os := fun j b ne z => mem_noA.mpr ⟨z, fun e => ne (Option.some.inj (R.own (some j) (some i) a (e ▸ z) hm))⟩
  refine ⟨⟨by rw [List.length_set]; exact R.len, fun j e q => ?_, ⟨R.sto.1, fun n b c h1 h2 => (R.sto.2 n b c h1 h2).step S rfl⟩, fun j k b z1 z2 => R.own j k b (mem_noA.mp z1).1 (mem_noA.mp z2).1,
    fun j b z => R.fre j b (mem_noA.mp z).1, R.pre, R.cfr, R.cnd, R.clv, R.frm, R.alv⟩, S⟩
  by_cases hj : j = i
  · subst hj
    rw [List.getElem?_set_self hi] at q
    cases q
    exact ⟨_, hv, h⟩
  · rw [List.getElem?_set_ne (Ne.symm hj)] at q
    obtain ⟨v, h1, h2⟩ := R.env j e q
    refine ⟨v, h1, ?_⟩
    cases e with
    | sh d' => exact Rep.step S h2
    | ow d' =>
      obtain ⟨b, e1, e2, e3⟩ := h2
      exact ⟨b, e1, other j b hj e2, e3.step S rfl⟩
    | bd c ns ds =>
      obtain ⟨b, e1, e2, e3⟩ := h2
      exact ⟨b, e1, other j b hj e2, BdR.stepH S rfl e3⟩
    | eh c ns ds =>
      obtain ⟨b, dx, e1, e2, e3⟩ := h2
      exact ⟨b, dx, e1, e2, e3.step S⟩
theorem Rl.share {ρ : Env} {μ : Sto} {C : List Addr} {os : Os} {σ : St} {H : Hp} {i : Nat} {d : D} (R : Rl Φ X ρ μ C os σ H) (hi : ρ[i]? = some (some (.ow d))) :
    ∃ v os', σ[i]? = some (some v) ∧ Rl Φ X (ρ.set i (some (.sh d))) μ C os' σ H ∧ Stp (rc Φ X C os H) (rc Φ X C os' H) ∧ Rep (rc Φ X C os' H) v d := by
  obtain ⟨v, hv, a, rfl, hm, hO⟩ := R.env i _ hi
  have na : ¬ AA Φ C (noA a os) a := by
    obtain ⟨_, h2, h3, _⟩ := R.fre i a hm
    rintro (z | z | ⟨j, z⟩)
    · exact h3 z
    · exact h2 z
    · exact (mem_noA.mp z).2 rfl
  have S : Stp (rc Φ X C os H) (rc Φ X C (noA a os) H) := ⟨rfl, rfl, fun b z => by
    rcases z with z | z | ⟨j, z⟩
    · exact .inl (.inl z)
    · exact .inl (.inr (.inl z))
    · exact .inl (.inr (.inr ⟨j, (mem_noA.mp z).1⟩)), ⟨[], by simp [rcK]⟩, fun b o z _ => z, fun b o z => ⟨o, z⟩, fun b z => mem_noA.mpr ⟨z, fun e => by
      have q := R.own none (some i) a (e ▸ z) hm
      cases q⟩, fun b o z _ => z⟩
  have q : Rep (rc Φ X C (noA a os) H) (.ref a) d := by
    cases d with
    | lst ds => obtain ⟨vs, h, q⟩ := hO; exact .lst h na (q.step S)
    | dct ks ds => obtain ⟨kvs, h, e, q⟩ := hO; exact .dct h na e (q.step S)
    | _ => exact hO.elim
  exact ⟨_, _, hv, (R.letgo (List.getElem?_eq_some_iff.mp hi).1 hv hm q).1, S, q⟩
theorem Rl.shareB {ρ : Env} {μ : Sto} {C : List Addr} {os : Os} {σ : St} {H : Hp} {i : Nat} {c : Str} {ns : List Str} {ds : List D} (R : Rl Φ X ρ μ C os σ H) (hi : ρ[i]? = some (some (.bd c ns ds))) :
    ∃ v os', σ[i]? = some (some v) ∧ Rl Φ X (ρ.set i (some (.sh (.ins c ns ds)))) μ C os' σ H ∧ Stp (rc Φ X C os H) (rc Φ X C os' H) ∧ Rep (rc Φ X C os' H) v (.ins c ns ds) := by
  obtain ⟨v, hv, a, rfl, hm, Cc, dx, fs, h, g, e, q⟩ := R.env i _ hi
  have na : ¬ AA Φ C (noA a os) a := by
    obtain ⟨_, h2, h3, _⟩ := R.fre i a hm
    rintro (z | z | ⟨j, z⟩)
    · exact h3 z
    · exact h2 z
    · exact (mem_noA.mp z).2 rfl
  have S : Stp (rc Φ X C os H) (rc Φ X C (noA a os) H) := ⟨rfl, rfl, fun b z => by
    rcases z with z | z | ⟨j, z⟩
    · exact .inl (.inl z)
    · exact .inl (.inr (.inl z))
    · exact .inl (.inr (.inr ⟨j, (mem_noA.mp z).1⟩)), ⟨[], by simp [rcK]⟩, fun b o z _ => z, fun b o z => ⟨o, z⟩, fun b z => mem_noA.mpr ⟨z, fun e => by
      have q := R.own none (some i) a (e ▸ z) hm
      cases q⟩, fun b o z _ => z⟩
  have q' : Rep (rc Φ X C (noA a os) H) (.ref a) (.ins c ns ds) := .ins h na g e (q.step S)
  exact ⟨_, _, hv, (R.letgo (List.getElem?_eq_some_iff.mp hi).1 hv hm q').1, S, q'⟩
theorem de_var {i : Nat} {x : Str} (hN : X.N[i]? = some x := by rfl) (hv : Vis X.env.scope x := by first | exact Or.inl rfl | exact Or.inr (Or.inl rfl) | exact Or.inr (Or.inr rfl)) (hd : (x == ("__debug__" : Str)) = false := by decide)
    (hcd : (x == ("__classdict__" : Str)) = false := by decide) : DE Φ X (.Name x pos) (lett i) := PE.imp (pe_var hN hv hd hcd) fun σ H Q ⟨ρ, μ, C, os, R, q⟩ => by
  unfold lett at q
  cases e : ρ[i]? with
  | none => rw [e] at q; exact q.elim
  | some o =>
    cases o with
    | none => rw [e] at q; exact q.elim
    | some t =>
      cases t with
      | sh d =>
        rw [e] at q
        obtain ⟨v, h1, h2⟩ := R.env i _ e
        exact ⟨v, h1, q v H C os R (Stp.refl _) h2⟩
      | ow d =>
        rw [e] at q
        obtain ⟨v, os', h1, R', S, h2⟩ := R.share e
        exact ⟨v, h1, q v H C os' R' S h2⟩
      | bd c ns ds =>
        rw [e] at q
        obtain ⟨v, os', h1, R', S, h2⟩ := R.shareB e
        exact ⟨v, h1, q v H C os' R' S h2⟩
      | eh c ns ds => rw [e] at q; exact q.elim
theorem cell_at {ρ : Env} {μ : Sto} {C : List Addr} {os : Os} {σ : St} {H : Hp} {n : Nat} {a : Addr} {c : Cell} (R : Rl Φ X ρ μ C os σ H) (h : C[n]? = some a) (e : μ[n]? = some c) : CellR (rc Φ X C os H) a c := R.sto.2 n a c h e
theorem pekD_at {ρ : Env} {μ : Sto} {C : List Addr} {os : Os} {σ : St} {H : Hp} {v : V} {d d' : D} (R : Rl Φ X ρ μ C os σ H) (h : Rep (rc Φ X C os H) v d) (e : pekD d μ = some d') : RepW (rc Φ X C os H) v d' := by
  cases h with
  | @cell a n h =>
    simp only [pekD] at e
    cases q : μ[n]? with
    | none => rw [q] at e; cases e
    | some c =>
      rw [q] at e
      have w := cell_at R h q
      cases c with
      | lst ds => cases e; exact .inr ⟨_, rfl, w⟩
      | dct ks ds => cases e; exact .inr ⟨_, rfl, w⟩
      | ins c ns ds => cases e
  | non => cases e; exact .inl .non
  | bl b => cases e; exact .inl (.bl b)
  | int i => cases e; exact .inl (.int i)
  | str s => cases e; exact .inl (.str s)
  | tup h q => cases e; exact .inl (.tup h q)
  | lst h n q => cases e; exact .inl (.lst h n q)
  | frz h q => cases e; exact .inl (.frz h q)
  | dct h n e' q => cases e; exact .inl (.dct h n e' q)
  | ins h n g e' q => cases e; exact .inl (.ins h n g e' q)
theorem pek_at {ρ ρ' : Env} {μ μ' : Sto} {C : List Addr} {os : Os} {σ : St} {H : Hp} {i : Nat} {d : D} (R : Rl Φ X ρ μ C os σ H) (e : pek i ρ μ = .ok d ρ' μ') : ρ' = ρ ∧ μ' = μ ∧ ∃ v, σ[i]? = some (some v) ∧ RepW (rc Φ X C os H) v d := by
  unfold pek at e
  cases q : ρ[i]? with
  | none => rw [q] at e; cases e
  | some o =>
    cases o with
    | none => rw [q] at e; cases e
    | some t =>
      obtain ⟨v, h1, h2⟩ := R.env i _ q
      cases t with
      | sh d' =>
        rw [q] at e
        cases q2 : pekD d' μ with
        | none => simp only [q2] at e; cases e
        | some d2 =>
          simp only [q2] at e
          cases e
          exact ⟨rfl, rfl, v, h1, pekD_at R h2 q2⟩
      | ow d' =>
        rw [q] at e; cases e
        obtain ⟨a, h3, _, h4⟩ := h2
        exact ⟨rfl, rfl, v, h1, .inr ⟨a, h3, h4⟩⟩
      | bd c ns ds => rw [q] at e; cases e
      | eh c ns ds => rw [q] at e; cases e
theorem pek_ex {ρ ρ' : Env} {μ μ' : Sto} {i : Nat} {c : Str} {ns : List Str} {ds : List D} : ¬ pek i ρ μ = .ex c ns ds ρ' μ' := fun e => by
  unfold pek at e
  split at e <;> first
    | cases e; done
    | (split at e <;> cases e)
theorem db_var {i : Nat} {x : Str} (hN : X.N[i]? = some x := by rfl) (hv : Vis X.env.scope x := by first | exact Or.inl rfl | exact Or.inr (Or.inl rfl) | exact Or.inr (Or.inr rfl)) (hd : (x == ("__debug__" : Str)) = false := by decide)
    (hcd : (x == ("__classdict__" : Str)) = false := by decide) : DB Φ X (.Name x pos) (pek i) := PE.imp (pe_var hN hv hd hcd) fun σ H Q ⟨ρ, μ, C, os, R, q⟩ => by
  cases e : pek i ρ μ with
  | no => rw [e] at q; exact q.elim
  | ex c ns ds ρ' μ' => exact (pek_ex e).elim
  | ok d ρ' μ' =>
    rw [e] at q
    obtain ⟨rfl, rfl, v, h1, h2⟩ := pek_at R e
    exact ⟨v, h1, q v H C os R (Stp.refl _) h2⟩

/-! ### operators by values -/
def OpD (X : Cx) (r : R2) (h : D → D → Option D) : Prop := ∀ (q : RC) (x y : V) (d1 d2 d : D) (Q : VK), q.K = X.K → q.mg = X.mg → (∀ p, q.H p = none → ¬ q.A p) → RepW q x d1 → RepW q y d2 → h d1 d2 = some d →
  (∀ v H', Grow q.H H' → Rep (q.at H') v d → Q v H') → r x y q.H Q
def UnD (X : Cx) (r : V → Hp → VK → Prop) (h : D → Option D) : Prop := ∀ (q : RC) (x : V) (d1 d : D) (Q : VK), q.K = X.K → q.mg = X.mg → (∀ p, q.H p = none → ¬ q.A p) → RepW q x d1 → h d1 = some d →
  (∀ v H', Grow q.H H' → Rep (q.at H') v d → Q v H') → r x q.H Q
theorem OpD.or {r r' : R2} {h h' : D → D → Option D} (a : OpD X r h) (b : OpD X r' h') : OpD X (fun x y H Q => r x y H Q ∨ r' x y H Q) (fun x y => (h x y).or (h' x y)) := fun q x y d1 d2 d Q k1 k2 k3 h1 h2 e z => by
  have e : (h d1 d2).or (h' d1 d2) = some d := e
  cases q1 : h d1 d2 with
  | some d' =>
    rw [q1] at e
    exact .inl (a q x y d1 d2 d Q k1 k2 k3 h1 h2 (by rw [q1]; exact e) z)
  | none =>
    rw [q1] at e
    exact .inr (b q x y d1 d2 d Q k1 k2 k3 h1 h2 e z)
/-- two values, then the operator -/
def op2 (h : D → D → Option D) (f g : Mo D) : Mo D := bnd f fun x => bnd g fun y => lift (h x y)
/-- the left one a name, read in passing -/
def op2v (h : D → D → Option D) (i : Nat) (g : Mo D) : Mo D := bnd (pek i) fun _ => bnd g fun y => bnd (pek i) fun x => lift (h x y)
def op1 (h : D → Option D) (f : Mo D) : Mo D := bnd f fun x => lift (h x)
theorem Rl.fr {ρ : Env} {μ : Sto} {C : List Addr} {os : Os} {σ : St} {H : Hp} (R : Rl Φ X ρ μ C os σ H) : ∀ p, (rc Φ X C os H).H p = none → ¬ (rc Φ X C os H).A p := fun p h => R.fresh h
theorem lift_ok {ρ : Env} {μ : Sto} {C : List Addr} {os : Os} {σ : St} {H : Hp} {o : Option D} {Q : VK} (R : Rl Φ X ρ μ C os σ H) (p : PostE Φ X C os σ H (lift o ρ μ) Q) :
    ∃ d, o = some d ∧ ∀ v H', Grow H H' → Rep (rc Φ X C os H') v d → Q v H' := by
  cases o with
  | none => exact p.elim
  | some d => exact ⟨d, rfl, fun v H' g h => p v H' C os (R.grow g) (stp_grow g) h⟩
theorem cB_bnd {ρ : Env} {μ : Sto} {C : List Addr} {os : Os} {σ : St} {H : Hp} {f : Mo D} {g : D → Mo D} {Q Q1 : VK} (h : PostE Φ X C os σ H (bnd f g ρ μ) Q)
    (k : ∀ d ρ1 μ1 v H1 C1 os1, Rl Φ X ρ1 μ1 C1 os1 σ H1 → Stp (rc Φ X C os H) (rc Φ X C1 os1 H1) → RepW (rc Φ X C1 os1 H1) v d → PostE Φ X C1 os1 σ H1 (g d ρ1 μ1) Q → Q1 v H1) : PostB Φ X C os σ H (f ρ μ) Q1 := by
  unfold bnd at h
  cases e : f ρ μ with
  | ok d ρ1 μ1 =>
    rw [e] at h
    exact fun v H1 C1 os1 R S q => k d ρ1 μ1 v H1 C1 os1 R S q (PostE.from S h)
  | ex c ns ds ρ1 μ1 => rw [e] at h; exact h
  | no => rw [e] at h; exact h
theorem run2 {r : R2} {h : D → D → Option D} (hD : OpD X r h) {σ : St} {H : Hp} {Q : VK} (z : cE Φ X (op2 h f g) σ H Q) : tOp r (cE Φ X f) (cB Φ X g) σ H Q := by
  obtain ⟨ρ, μ, C, os, R, z⟩ := z
  refine ⟨ρ, μ, C, os, R, PostE.bnd z fun d1 ρ1 μ1 x H1 C1 os1 R1 S1 q1 z1 => ⟨ρ1, μ1, C1, os1, R1, cB_bnd z1 fun d2 ρ2 μ2 y H2 C2 os2 R2 S2 q2 z2 => ?_⟩⟩
  obtain ⟨d, e, k⟩ := lift_ok R2 z2
  exact hD (rc Φ X C2 os2 H2) x y d1 d2 d Q rfl rfl R2.fr (.inl (q1.step S2)) q2 e k
theorem de_op {op : Operator} {r : R2} {h : D → D → Option D} (ho : OpR X (binaryOp op) r) (hD : OpD X r h) (ha : DE Φ X a f) (hb : DB Φ X b g) : DE Φ X (.BinOp a op b pos) (op2 h f g) := PE.imp (pe_op ho ha hb) fun _ _ _ z => run2 hD z
theorem run1 {r : V → Hp → VK → Prop} {h : D → Option D} (hD : UnD X r h) {σ : St} {H : Hp} {Q : VK} (z : cE Φ X (op1 h f) σ H Q) : tUn r (cB Φ X f) σ H Q := by
  obtain ⟨ρ, μ, C, os, R, z⟩ := z
  refine ⟨ρ, μ, C, os, R, cB_bnd z fun d1 ρ1 μ1 x H1 C1 os1 R1 S1 q1 z1 => ?_⟩
  obtain ⟨d, e, k⟩ := lift_ok R1 z1
  exact hD (rc Φ X C1 os1 H1) x d1 d Q rfl rfl R1.fr q1 e k
theorem de_un {op : UnaryOp} {r : V → Hp → VK → Prop} {h : D → Option D} (ho : UnR X (unaryOp op) r) (hD : UnD X r h) (ha : DB Φ X a f) : DE Φ X (.UnaryOp op a pos) (op1 h f) := PE.imp (pe_un ho ha) fun _ _ _ z => run1 hD z
theorem de_cmp {op : CmpOp} {r : R2} {h : D → D → Option D} (ho : OpR X (compareOp op) r) (hD : OpD X r h) (ha : DE Φ X a f) (hb : DB Φ X b g) (hm : behindInMarks op b = false) : DE Φ X (.Compare a [op] [b] pos) (op2 h f g) :=
  PE.imp (pe_cmpR ho ha hb hm) fun _ _ _ z => run2 hD z
/-- the left one is a name -/
theorem run2v {r : R2} {h : D → D → Option D} {i : Nat} (hD : OpD X r h) {σ : St} {H : Hp} {Q : VK} (z : cE Φ X (op2v h i g) σ H Q) : tOp r (tVar i) (cE Φ X g) σ H Q := by
  obtain ⟨ρ, μ, C, os, R, z⟩ := z
  unfold op2v bnd at z
  cases e0 : pek i ρ μ with
  | no => rw [e0] at z; exact z.elim
  | ex c ns ds ρ' μ' => exact (pek_ex e0).elim
  | ok d0 ρ0 μ0 =>
    obtain ⟨rfl, rfl, v, hv, _⟩ := pek_at R e0
    rw [e0] at z
    refine ⟨v, hv, ρ0, μ0, C, os, R, PostE.bnd (f := g) z fun d2 ρ2 μ2 y H2 C2 os2 R2 S2 q2 z2 => ?_⟩
    unfold bnd at z2
    cases e : pek i ρ2 μ2 with
    | no => rw [e] at z2; exact z2.elim
    | ex c ns ds ρ' μ' => exact (pek_ex e).elim
    | ok d1 ρ3 μ3 =>
      obtain ⟨rfl, rfl, v', h1, h2⟩ := pek_at R2 e
      rw [hv] at h1; cases h1
      rw [e] at z2
      obtain ⟨d, e2, k⟩ := lift_ok R2 z2
      exact hD (rc Φ X C2 os2 H2) v y d1 d2 d Q rfl rfl R2.fr h2 (.inl q2) e2 k
theorem de_cmpv {op : CmpOp} {r : R2} {h : D → D → Option D} {i : Nat} {x : Str} {px : Pos} (ho : OpR X (compareOp op) r) (hD : OpD X r h) (hb : DE Φ X b g) (hm : behindInMarks op b = false) (hN : X.N[i]? = some x := by rfl)
    (hv : Vis X.env.scope x := by first | exact Or.inl rfl | exact Or.inr (Or.inl rfl) | exact Or.inr (Or.inr rfl)) (hd : (x == ("__debug__" : Str)) = false := by decide) (hcd : (x == ("__classdict__" : Str)) = false := by decide) :
    DE Φ X (.Compare (.Name x px) [op] [b] pos) (op2v h i g) := PE.imp (pe_cmpR ho (pe_var hN hv hd hcd) hb hm) fun _ _ _ z => run2v hD z
theorem de_ixv {r : R2} {h : D → D → Option D} {i : Nat} {x : Str} {px : Pos} (ho : IxR X r) (hD : OpD X r h) (hb : DE Φ X b g) (hs : PlainIx b := by intro _ _; rfl) (hN : X.N[i]? = some x := by rfl)
    (hv : Vis X.env.scope x := by first | exact Or.inl rfl | exact Or.inr (Or.inl rfl) | exact Or.inr (Or.inr rfl)) (hd : (x == ("__debug__" : Str)) = false := by decide) (hcd : (x == ("__classdict__" : Str)) = false := by decide) :
    DE Φ X (.Subscript (.Name x px) b pos) (op2v h i g) := PE.imp (pe_ix ho (pe_var hN hv hd hcd) hb hs) fun _ _ _ z => run2v hD z
theorem de_ix {r : R2} {h : D → D → Option D} (ho : IxR X r) (hD : OpD X r h) (ha : DE Φ X a f) (hb : DE Φ X b g) (hs : PlainIx b := by intro _ _; rfl) : DE Φ X (.Subscript a b pos) (op2 h f g) := PE.imp (pe_ix ho ha hb.wk hs) fun _ _ _ z => run2 hD z
end
end L2.DL

/-! DL3: the operators on trees. -/
namespace L2.DL
open PySem PySem.Spec PyProof.Rows
abbrev lineN : Nat := 16777216
theorem line_eq : sizeLine = lineN := sizeLine_eq

/-! ### ints -/
def ii (g : Int → Int → Int) : D → D → Option D
  | .int i, .int j => some (.int (g i j))
  | _, _ => none
def iiC (C : Int → Int → Bool) (g : Int → Int → Int) : D → D → Option D
  | .int i, .int j => if C i j then some (.int (g i j)) else none
  | _, _ => none
def ib (g : Int → Int → Bool) : D → D → Option D
  | .int i, .int j => some (.bl (g i j))
  | _, _ => none
section
variable {X : Cx}
theorem od_i0 {g : Int → Int → Int} : OpD X (rI0 fun i j => .int (g i j)) (ii g) := by
  intro q x y d1 d2 d Q _ _ _ h1 h2 e k
  cases d1 <;> cases d2 <;> first
    | (cases e; exact ⟨_, _, h1.int, h2.int, k _ _ (Grow.refl _) (.int _)⟩)
    | cases e
theorem od_b0 {g : Int → Int → Bool} : OpD X (rI0 fun i j => .bl (g i j)) (ib g) := by
  intro q x y d1 d2 d Q _ _ _ h1 h2 e k
  cases d1 <;> cases d2 <;> first
    | (cases e; exact ⟨_, _, h1.int, h2.int, k _ _ (Grow.refl _) (.bl _)⟩)
    | cases e
theorem od_iC {P : Int → Int → Prop} {C : Int → Int → Bool} {g : Int → Int → Int} (hC : ∀ i j, C i j = true → P i j) : OpD X (rI P fun i j => .int (g i j)) (iiC C g) := by
  intro q x y d1 d2 d Q _ _ _ h1 h2 e k
  cases d1 <;> cases d2 <;> first
    | (simp only [iiC] at e
       split at e
       · cases e; exact ⟨_, _, h1.int, h2.int, hC _ _ (by assumption), k _ _ (Grow.refl _) (.int _)⟩
       · cases e)
    | cases e
end
def subD := ii fun i j => i - j
def mulC (i j : Int) : Bool := decide (i.natAbs.log2 + j.natAbs.log2 < 1000000)
def mulD := iiC mulC fun i j => i * j
def divC (_ j : Int) : Bool := decide (0 < j) && decide (j.natAbs.log2 < 9000)
def fdivD := iiC divC fun i j => i / j
def modC (_ j : Int) : Bool := decide (0 < j)
def modD := iiC modC fun i j => i % j
def powC (i j : Int) : Bool := decide (0 ≤ j) && decide (j ≤ 1000000) && decide (i.natAbs < 2 ^ 64)
def powD := iiC powC fun i j => i ^ j.toNat
def ltD := ib fun i j => decide (i < j)
def leD := ib fun i j => decide (i ≤ j)
def gtD := ib fun i j => decide (j < i)
def geD := ib fun i j => decide (j ≤ i)
def negD : D → Option D
  | .int i => some (.int (-i))
  | _ => none
section
variable {X : Cx}
theorem od_sub : OpD X (rI0 fun i j => .int (i - j)) subD := od_i0
theorem od_mul : OpD X (rI CMulW fun i j => .int (i * j)) mulD := od_iC fun i j h => (of_decide_eq_true (show decide (i.natAbs.log2 + j.natAbs.log2 < 1000000) = true from h) : i.natAbs.log2 + j.natAbs.log2 < 1000000)
theorem od_fdiv : OpD X (rI CDivW fun i j => .int (i / j)) fdivD := od_iC fun i j h => by
  unfold divC at h
  rw [Bool.and_eq_true, decide_eq_true_iff, decide_eq_true_iff] at h
  exact h
theorem od_mod : OpD X (rI (fun _ j => 0 < j) fun i j => .int (i % j)) modD := od_iC fun i j h => of_decide_eq_true h
theorem od_pow : OpD X (rI CPow fun i j => .int (i ^ j.toNat)) powD := od_iC fun i j h => by
  unfold powC at h
  rw [Bool.and_eq_true, Bool.and_eq_true, decide_eq_true_iff, decide_eq_true_iff, decide_eq_true_iff] at h
  exact ⟨h.1.1, h.1.2, h.2⟩
theorem od_lt : OpD X (rI0 fun i j => .bl (decide (i < j))) ltD := od_b0
theorem od_le : OpD X (rI0 fun i j => .bl (decide (i ≤ j))) leD := od_b0
theorem od_gt : OpD X (rI0 fun i j => .bl (decide (j < i))) gtD := od_b0
theorem od_ge : OpD X (rI0 fun i j => .bl (decide (j ≤ i))) geD := od_b0
theorem ud_neg : UnD X (rU fun i => .int (-i)) negD := by
  intro q x d1 d Q _ _ _ h1 e k
  cases d1 <;> first
    | (cases e; exact ⟨_, h1.int, k _ _ (Grow.refl _) (.int _)⟩)
    | cases e
end

/-! ### a new object -/
theorem OwnR.rep {r : RC} {a : Addr} (n : ¬ r.A a) : ∀ {d : D}, OwnR r a d → Rep r (.ref a) d
  | .lst _, ⟨_, h, q⟩ => .lst h n q
  | .dct _ _, ⟨_, h, e, q⟩ => .dct h n e q
  | .non, h => h.elim | .bl _, h => h.elim | .int _, h => h.elim | .str _, h => h.elim | .tup _, h => h.elim | .frz _, h => h.elim | .ins _ _ _, h => h.elim | .cell _, h => h.elim
/-- what stands in a new object -/
def NewR (q : RC) (o : HO) : D → Prop
  | .lst ds => ∃ vs, o = .lst vs ∧ Reps q vs ds
  | .dct ks ds => ∃ kvs, o = .dK kvs ∧ kvs.map (·.1) = ks ∧ Reps q (kvs.map (·.2)) ds
  | _ => False
theorem NewR.own {q r : RC} {p : Addr} {o : HO} (S : Stp q r) (h : r.H p = some o) : ∀ {d : D}, NewR q o d → OwnR r p d
  | .lst _, ⟨vs, e, w⟩ => ⟨vs, by rw [h, e], w.step S⟩
  | .dct _ _, ⟨kvs, e, e2, w⟩ => ⟨kvs, by rw [h, e], e2, w.step S⟩
  | .non, h => h.elim | .bl _, h => h.elim | .int _, h => h.elim | .str _, h => h.elim | .tup _, h => h.elim | .frz _, h => h.elim | .ins _ _ _, h => h.elim | .cell _, h => h.elim
theorem NewR.rep {q : RC} {p : Addr} {o : HO} {d : D} (h : NewR q o d) (n : q.H p = none) (na : ¬ q.A p) : Rep (q.at (upd q.H p o)) (.ref p) d :=
  OwnR.rep (r := q.at (upd q.H p o)) na (h.own (Grow.stp (Grow.upd n)) upd_same)
/-- an operator whose value is a new list or dict -/
def OpF (X : Cx) (r : R2) (h : D → D → Option D) : Prop := ∀ (q : RC) (x y : V) (d1 d2 d : D) (Q : VK), q.K = X.K → q.mg = X.mg → (∀ p, q.H p = none → ¬ q.A p) → RepW q x d1 → RepW q y d2 → h d1 d2 = some d →
  (∀ p o, q.H p = none → NewR q o d → Q (.ref p) (upd q.H p o)) → r x y q.H Q
theorem OpF.d {X : Cx} {r : R2} {h : D → D → Option D} (f : OpF X r h) : OpD X r h := fun q x y d1 d2 d Q k1 k2 k3 h1 h2 e k =>
  f q x y d1 d2 d Q k1 k2 k3 h1 h2 e fun p o n w => k _ _ (Grow.upd n) (w.rep n (k3 p n))
theorem own_lst {q : RC} {p : Addr} {vs : List V} {ds : List D} (n : q.H p = none) (h : Reps q vs ds) : OwnR (q.at (upd q.H p (.lst vs))) p (.lst ds) := ⟨vs, upd_same, h.step (Grow.stp (Grow.upd n))⟩
theorem own_dct {q : RC} {p : Addr} {kvs : List (Key × V)} {ks : List Key} {ds : List D} (n : q.H p = none) (e : kvs.map (·.1) = ks) (h : Reps q (kvs.map (·.2)) ds) : OwnR (q.at (upd q.H p (.dK kvs))) p (.dct ks ds) :=
  ⟨kvs, upd_same, e, h.step (Grow.stp (Grow.upd n))⟩
theorem rep_tup {q : RC} {p : Addr} {o : Obj} {vs : List V} {ds : List D} (n : q.H p = none) (na : ¬ q.A p) (hc : o.cls = .type "tuple") (hd : o.dict = none) (h : Reps q vs ds) : Rep (q.at (upd q.H p (.frz o (.tup vs)))) (.ref p) (.tup ds) :=
  .tup (.inl ⟨na, o, upd_same, hc, hd⟩) (h.step (Grow.stp (Grow.upd n)))
/-- a new tuple -/
theorem newT {q : RC} {vs : List V} {ds : List D} {Q : VK} (hn : ∀ p, q.H p = none → ¬ q.A p) (h : Reps q vs ds) (k : ∀ v H', Grow q.H H' → Rep (q.at H') v (.tup ds) → Q v H') : NewT vs q.H Q :=
  fun p o n hc hd => k _ _ (Grow.upd n) (rep_tup n (hn p n) hc hd h)

/-! ### + -/
def addL : D → D → Option D
  | .lst a, .lst b => if a.length + b.length ≤ lineN then some (.lst (a ++ b)) else none
  | _, _ => none
def addT : D → D → Option D
  | .tup a, .tup b => if a.length + b.length ≤ lineN then some (.tup (a ++ b)) else none
  | _, _ => none
def addS : D → D → Option D
  | .str a, .str b => if a.length + b.length ≤ lineN then some (.str (a ++ b)) else none
  | _, _ => none
def addI := ii fun i j => i + j
section
variable {X : Cx}
theorem of_addL : OpF X rCat addL := by
  intro q x y d1 d2 d Q _ _ _ h1 h2 e k
  cases d1 <;> cases d2 <;> first
    | (simp only [addL] at e
       split at e
       · rename_i hl
         cases e
         obtain ⟨a, vs, rfl, ha, qa⟩ := h1.lst
         obtain ⟨b, ws, rfl, hb, qb⟩ := h2.lst
         refine ⟨a, b, vs, ws, rfl, rfl, ha, hb, ?_, fun p n => k p _ n ⟨_, rfl, qa.append qb⟩⟩
         rw [qa.length, qb.length, line_eq]
         exact hl
       · cases e)
    | cases e
theorem od_addT : OpD X (rCatX X.K) addT := by
  intro q x y d1 d2 d Q hK _ hn h1 h2 e k
  cases d1 <;> cases d2 <;> first
    | (simp only [addT] at e
       split at e
       · rename_i hl
         cases e
         obtain ⟨a, vs, rfl, ha, qa⟩ := h1.tup
         obtain ⟨b, ws, rfl, hb, qb⟩ := h2.tup
         refine ⟨a, b, vs, ws, rfl, rfl, hK ▸ ha.sq, hK ▸ hb.sq, ?_, fun z => ?_, fun z1 z2 => ?_, fun z1 z2 => newT hn (qa.append qb) k⟩
         · rw [qa.length, qb.length, line_eq]; exact hl
         · subst z
           cases qa
           exact k _ _ (Grow.refl _) (.tup hb qb)
         · subst z2
           cases qb
           rw [List.append_nil] at k
           exact k _ _ (Grow.refl _) (.tup ha qa)
       · cases e)
    | cases e
theorem od_addS : OpD X (fun x y H Q => ∃ i j, x = .str i ∧ y = .str j ∧ i.length + j.length ≤ sizeLine ∧ Q (.str (i ++ j)) H) addS := by
  intro q x y d1 d2 d Q _ _ _ h1 h2 e k
  cases d1 <;> cases d2 <;> first
    | (simp only [addS] at e
       split at e
       · rename_i hl
         cases e
         exact ⟨_, _, h1.str, h2.str, by rw [line_eq]; exact hl, k _ _ (Grow.refl _) (.str _)⟩
       · cases e)
    | cases e
theorem od_addI : OpD X (rI0 fun i j => .int (i + j)) addI := od_i0
end
/-- x + y of ints, texts, lists, tuples -/
def addD : D → D → Option D := fun x y => (addI x y).or ((addS x y).or ((addL x y).or (addT x y)))
theorem addD_int (i j : Int) : addD (.int i) (.int j) = some (.int (i + j)) := rfl
theorem addD_str (s t : Str) : addD (.str s) (.str t) = if s.length + t.length ≤ lineN then some (.str (s ++ t)) else none := by
  show ((addS (.str s) (.str t)).or none) = _
  rw [Option.or_none]; rfl
theorem addD_lst (s t : List D) : addD (.lst s) (.lst t) = if s.length + t.length ≤ lineN then some (.lst (s ++ t)) else none := by
  show ((addL (.lst s) (.lst t)).or none) = _
  rw [Option.or_none]; rfl
theorem addD_tup (s t : List D) : addD (.tup s) (.tup t) = if s.length + t.length ≤ lineN then some (.tup (s ++ t)) else none := rfl
section
variable {Φ : Ctx} {X : Cx} {a b c e : Expr} {f g k : Mo D} {pos : Pos}
theorem de_add (ha : DE Φ X a f) (hb : DB Φ X b g) : DE Φ X (.BinOp a .Add b pos) (op2 addD f g) :=
  de_op (op_add.or (op_add_str.or (op_cat.or op_catX))) (od_addI.or (od_addS.or (of_addL.d.or od_addT))) ha hb
theorem de_sub (ha : DE Φ X a f) (hb : DB Φ X b g) : DE Φ X (.BinOp a .Sub b pos) (op2 subD f g) := de_op op_sub od_sub ha hb
theorem de_mul (ha : DE Φ X a f) (hb : DB Φ X b g) : DE Φ X (.BinOp a .Mult b pos) (op2 mulD f g) := de_op op_mulW od_mul ha hb
theorem de_fdiv (ha : DE Φ X a f) (hb : DB Φ X b g) : DE Φ X (.BinOp a .FloorDiv b pos) (op2 fdivD f g) := de_op op_fdivW od_fdiv ha hb
theorem de_mod (ha : DE Φ X a f) (hb : DB Φ X b g) : DE Φ X (.BinOp a .Mod b pos) (op2 modD f g) := de_op op_mod od_mod ha hb
theorem de_pow (ha : DE Φ X a f) (hb : DB Φ X b g) : DE Φ X (.BinOp a .Pow b pos) (op2 powD f g) := de_op op_pow od_pow ha hb
theorem de_neg (ha : DB Φ X a f) : DE Φ X (.UnaryOp .USub a pos) (op1 negD f) := de_un un_neg ud_neg ha
end

/-! ### comparisons of data -/
def flatD : D → Bool
  | .non | .bl _ | .int _ | .str _ => true
  | _ => false
def eqF : D → D → Bool
  | .non, .non => true
  | .bl a, .bl b => a == b
  | .bl a, .int b => (if a then 1 else 0) == b
  | .int a, .bl b => a == (if b then 1 else 0)
  | .int a, .int b => a == b
  | .str a, .str b => a == b
  | _, _ => false
theorem Rep.flat {r : RC} {v : V} {d : D} (h : Rep r v d) (f : flatD d = true) : flatV v = true := by cases h <;> first | rfl | (cases f; done)
theorem Reps.flatV {r : RC} : ∀ {vs : List V} {ds : List D}, Reps r vs ds → ds.all flatD = true → vs.all L2.flatV = true
  | _, _, .nil, _ => rfl
  | _, _, .cons h t, f => by
    rw [List.all_cons, Bool.and_eq_true] at f ⊢
    exact ⟨h.flat f.1, Reps.flatV t f.2⟩
theorem Rep.eqF {r : RC} {v w : V} {d e : D} (h : Rep r v d) (k : Rep r w e) (f : flatD d = true) (g : flatD e = true) : eqV v w = DL.eqF d e := by
  cases h <;> first
    | (cases f; done)
    | (cases k <;> first | (cases g; done) | rfl)
theorem Reps.inV {r : RC} {v : V} {d : D} (h : Rep r v d) (f : flatD d = true) : ∀ {vs : List V} {ds : List D}, Reps r vs ds → ds.all flatD = true → L2.inV v vs = ds.any fun y => DL.eqF y d
  | _, _, .nil, _ => rfl
  | _, _, .cons q t, g => by
    rw [List.all_cons, Bool.and_eq_true] at g
    unfold L2.inV
    rw [List.any_cons, List.any_cons, q.eqF h g.1 f]
    exact congrArg (fun b => _ || b) (Reps.inV h f t g.2)
def inL (neg : Bool) (x : D) (ds : List D) : Option D := if flatD x && ds.all flatD then some (.bl (if neg then !(ds.any fun y => eqF y x) else ds.any fun y => eqF y x)) else none
def inSeq (neg : Bool) (x : D) : D → Option D
  | .lst ds | .tup ds | .frz ds => inL neg x ds
  | _ => none
theorem RepW.flat {r : RC} {v : V} {d : D} (h : RepW r v d) (f : flatD d = true) : Rep r v d := by
  rcases h with h | ⟨a, e, h⟩
  · exact h
  · cases d <;> first | (cases f; done) | exact h.elim
section
variable {X : Cx}
theorem od_in (neg : Bool) : OpD X (rIn X.K neg) (inSeq neg) := by
  intro q x y d1 d2 d Q hK _ _ h1 h2 e k
  have fin : ∀ {p : Addr} {vs : List V} {ds : List D}, y = .ref p → (SqL X.K q.H p vs ∨ SqT X.K q.H p vs) → Reps q vs ds → inL neg d1 ds = some d → rIn X.K neg x y q.H Q := by
    intro p vs ds ey hs qs e
    unfold inL at e
    split at e
    · rename_i hf
      rw [Bool.and_eq_true] at hf
      cases e
      have r1 := h1.flat hf.1
      refine ⟨p, vs, ey, hs, r1.flat hf.1, qs.flatV hf.2, ?_⟩
      rw [Reps.inV r1 hf.1 qs hf.2]
      exact k _ _ (Grow.refl _) (.bl _)
    · cases e
  cases d2 with
  | lst ds =>
    obtain ⟨b, ws, rfl, hb, qb⟩ := h2.lst
    exact fin rfl (.inl (.of hb)) qb e
  | tup ds =>
    obtain ⟨b, ws, rfl, hb, qb⟩ := h2.tup
    exact fin rfl (.inr (hK ▸ hb.sq)) qb e
  | frz ds =>
    obtain ⟨b, ws, rfl, hb, qb⟩ := h2.frz
    exact fin rfl (.inl (hK ▸ hb.sq)) qb e
  | _ => cases e
end

/-! ### == -/
mutual
/-- as the model's data; junk for what is no data -/
def toP : D → PyData
  | .non => .none | .bl b => .bool b | .int i => .int i | .str s => .str s
  | .tup xs => .tuple (toPs xs) | .lst xs => .list (toPs xs) | .frz xs => .list (toPs xs)
  | .dct _ _ => .none | .ins _ _ _ => .none | .cell _ => .none
def toPs : List D → List PyData
  | [] => []
  | d :: ds => toP d :: toPs ds
end
mutual
def isData : D → Bool
  | .non | .bl _ | .int _ | .str _ => true
  | .tup xs | .lst xs | .frz xs => areData xs
  | .dct _ _ => false | .ins _ _ _ => false | .cell _ => false
def areData : List D → Bool
  | [] => true
  | d :: ds => isData d && areData ds
end
mutual
theorem Rep.dp {r : RC} : ∀ {v : V} {d : D}, Rep r v d → isData d = true → Dp r.K r.H v (toP d)
  | _, _, .non, _ => .non
  | _, _, .bl b, _ => .bl b
  | _, _, .int i, _ => .int i
  | _, _, .str s, _ => .str s
  | _, _, .tup h q, e => .tup h.sq (Reps.dp q e)
  | _, _, .lst h n q, e => .lst (.of h) (Reps.dp q e)
  | _, _, .frz h q, e => .lst h.sq (Reps.dp q e)
  | _, _, .dct _ _ _ _, e => by cases e
  | _, _, .ins _ _ _ _ _, e => by cases e
  | _, _, .cell _, e => by cases e
theorem Reps.dp {r : RC} : ∀ {vs : List V} {ds : List D}, Reps r vs ds → areData ds = true → DpAll r.K r.H vs (toPs ds)
  | _, _, .nil, _ => .nil
  | _, _, .cons h t, e => by
    have e : (isData _ && areData _) = true := e
    rw [Bool.and_eq_true] at e
    exact .cons (Rep.dp h e.1) (Reps.dp t e.2)
end
theorem RepW.dp {r : RC} {v : V} {d : D} (h : RepW r v d) (e : isData d = true) : Dp r.K r.H v (toP d) := by
  rcases h with h | ⟨a, rfl, h⟩
  · exact h.dp e
  · cases d with
    | lst ds => obtain ⟨vs, h, q⟩ := h; exact .lst (.of h) (q.dp e)
    | dct ks ds => cases e
    | _ => exact h.elim
/-- scalars that the plain rule tells apart -/
def scalD : D → D → Option Bool
  | .non, .non => some true | .non, .int _ => some false | .int _, .non => some false | .non, .bl _ => some false | .bl _, .non => some false | .non, .str _ => some false | .str _, .non => some false
  | .int i, .int j => some (decide (i = j)) | .bl i, .bl j => some (decide (i = j)) | .str i, .str j => some (decide (i = j))
  | .int _, .str _ => some false | .str _, .int _ => some false | .bl _, .str _ => some false | .str _, .bl _ => some false
  | _, _ => none
def dataEq (x y : D) : Option Bool := if isData x && isData y && SeqAt.shaped (toP x) && SeqAt.shaped (toP y) then some (PyData.eqv (toP x) (toP y)) else none
/-- two dicts of flat things that are the same -/
def dctEq : D → D → Option Bool
  | .dct ks vs, .dct ks' vs' => if decide (ks = ks') && decide (ks.Nodup) && vs.all flatD && vs'.all flatD && decide (vs.length = vs'.length) && (vs.zip vs').all (fun p => eqF p.1 p.2) then some true else none
  | _, _ => none
def eqB (x y : D) : Option Bool := (scalD x y).or (dataEq x y)
def eqD (x y : D) : Option D := ((scalD x y).map D.bl).or ((dataEq x y).map D.bl)
def neD (x y : D) : Option D := ((scalD x y).map fun b => D.bl (!b)).or ((dataEq x y).map fun b => D.bl (!b))
theorem scal_eq {r : RC} {x y : V} {d1 d2 : D} {b : Bool} (h1 : RepW r x d1) (h2 : RepW r y d2) (e : scalD d1 d2 = some b) : scal x y = true ∧ decide (x = y) = b := by
  cases d1 <;> cases d2 <;> first
    | cases e; done
    | (have e := Option.some.inj e
       subst e
       first
         | (rw [h1.int, h2.int]; exact ⟨rfl, by simp⟩)
         | (rw [h1.bl, h2.bl]; exact ⟨rfl, by simp⟩)
         | (rw [h1.str, h2.str]; exact ⟨rfl, by simp⟩)
         | (rw [h1.non, h2.non]; exact ⟨rfl, by simp⟩)
         | (rw [h1.int, h2.str]; exact ⟨rfl, by simp⟩)
         | (rw [h1.str, h2.int]; exact ⟨rfl, by simp⟩)
         | (rw [h1.bl, h2.str]; exact ⟨rfl, by simp⟩)
         | (rw [h1.str, h2.bl]; exact ⟨rfl, by simp⟩)
         | (rw [h1.non, h2.int]; exact ⟨rfl, by simp⟩)
         | (rw [h1.int, h2.non]; exact ⟨rfl, by simp⟩)
         | (rw [h1.non, h2.bl]; exact ⟨rfl, by simp⟩)
         | (rw [h1.bl, h2.non]; exact ⟨rfl, by simp⟩)
         | (rw [h1.non, h2.str]; exact ⟨rfl, by simp⟩)
         | (rw [h1.str, h2.non]; exact ⟨rfl, by simp⟩))
section
variable {X : Cx}
theorem od_eqS : OpD X rEq (fun x y => (scalD x y).map D.bl) := by
  intro q x y d1 d2 d Q _ _ _ h1 h2 e k
  obtain ⟨b, e2, rfl⟩ := Option.map_eq_some_iff.mp e
  obtain ⟨s, z⟩ := scal_eq h1 h2 e2
  exact ⟨s, by rw [z]; exact k _ _ (Grow.refl _) (.bl _)⟩
theorem od_neS : OpD X rNe (fun x y => (scalD x y).map fun b => D.bl (!b)) := by
  intro q x y d1 d2 d Q _ _ _ h1 h2 e k
  obtain ⟨b, e2, rfl⟩ := Option.map_eq_some_iff.mp e
  obtain ⟨s, z⟩ := scal_eq h1 h2 e2
  exact ⟨s, by rw [z]; exact k _ _ (Grow.refl _) (.bl _)⟩
theorem od_eqP : OpD X (rEqD X.K) (fun x y => (dataEq x y).map D.bl) := by
  intro q x y d1 d2 d Q hK _ _ h1 h2 e k
  obtain ⟨b, e2, rfl⟩ := Option.map_eq_some_iff.mp e
  unfold dataEq at e2
  split at e2
  · rename_i hc
    simp only [Bool.and_eq_true] at hc
    cases e2
    exact ⟨_, _, hK ▸ h1.dp hc.1.1.1, hK ▸ h2.dp hc.1.1.2, hc.1.2, hc.2, k _ _ (Grow.refl _) (.bl _)⟩
  · cases e2
theorem od_neP : OpD X (rNeD X.K) (fun x y => (dataEq x y).map fun b => D.bl (!b)) := by
  intro q x y d1 d2 d Q hK _ _ h1 h2 e k
  obtain ⟨b, e2, rfl⟩ := Option.map_eq_some_iff.mp e
  unfold dataEq at e2
  split at e2
  · rename_i hc
    simp only [Bool.and_eq_true] at hc
    cases e2
    exact ⟨_, _, hK ▸ h1.dp hc.1.1.1, hK ▸ h2.dp hc.1.1.2, hc.1.2, hc.2, k _ _ (Grow.refl _) (.bl _)⟩
  · cases e2
def isND (neg : Bool) : D → D → Option D
  | .non, .non => some (.bl (!neg))
  | .cell _, .non => none
  | _, .non => some (.bl neg)
  | _, _ => none
theorem Rep.notNon {r : RC} {v : V} {d : D} (h : Rep r v d) (n : d ≠ .non) : v ≠ .non := by
  cases h <;> first | exact absurd rfl n | (intro z; cases z)
theorem RepW.notNon {r : RC} {v : V} {d : D} (h : RepW r v d) (n : d ≠ .non) : v ≠ .non := by
  rcases h with h | ⟨a, rfl, h⟩
  · exact h.notNon n
  · intro z; cases z
theorem od_isN : OpD X (fun x y H Q => y = .non ∧ Q (.bl (decide (x = .non))) H) (isND false) := by
  intro q x y d1 d2 d Q _ _ _ h1 h2 e k
  have fin : d1 ≠ .non → d2 = .non → d = .bl false → y = .non ∧ Q (.bl (decide (x = .non))) q.H := fun n e2 e3 => by
    subst e2 e3
    refine ⟨h2.non, ?_⟩
    rw [decide_eq_false (h1.notNon n)]
    exact k _ _ (Grow.refl _) (.bl _)
  cases d2 <;> first
    | (cases d1 <;> first
        | cases e; done
        | exact fin (by intro z; cases z) rfl (Option.some.inj e).symm
        | (refine ⟨h2.non, ?_⟩
           rw [h1.non]
           cases e
           exact k _ _ (Grow.refl _) (.bl _)))
    | (cases d1 <;> cases e)
theorem od_notN : OpD X (fun x y H Q => y = .non ∧ Q (.bl (!decide (x = .non))) H) (isND true) := by
  intro q x y d1 d2 d Q _ _ _ h1 h2 e k
  have fin : d1 ≠ .non → d2 = .non → d = .bl true → y = .non ∧ Q (.bl (!decide (x = .non))) q.H := fun n e2 e3 => by
    subst e2 e3
    refine ⟨h2.non, ?_⟩
    rw [decide_eq_false (h1.notNon n)]
    exact k _ _ (Grow.refl _) (.bl _)
  cases d2 <;> first
    | (cases d1 <;> first
        | cases e; done
        | exact fin (by intro z; cases z) rfl (Option.some.inj e).symm
        | (refine ⟨h2.non, ?_⟩
           rw [h1.non]
           cases e
           exact k _ _ (Grow.refl _) (.bl _)))
    | (cases d1 <;> cases e)
end
end L2.DL

/-! DL4: tests, and/or, displays, slices, built-ins by values. -/
namespace L2.DL
open PySem PySem.Spec PyProof.Rows
section
variable {Φ : Ctx} {X : Cx} {a b c e : Expr} {f g k : Mo D} {pos : Pos}

/-! ### == of anything that is data -/
abbrev hasUnits (X : Cx) : Prop := X.A.units + 64 < cLine
theorem or_eq (hu : hasUnits X) : OpR X (compareOp .Eq) (fun x y H Q => rEq x y H Q ∨ rEqD X.K x y H Q) := op_eq.or (op_eqD hu)
theorem or_ne (hu : hasUnits X) : OpR X (compareOp .NotEq) (fun x y H Q => rNe x y H Q ∨ rNeD X.K x y H Q) := op_ne.or (op_neD hu)
theorem od_eq : OpD X (fun x y H Q => rEq x y H Q ∨ rEqD X.K x y H Q) eqD := od_eqS.or od_eqP
theorem od_ne : OpD X (fun x y H Q => rNe x y H Q ∨ rNeD X.K x y H Q) neD := od_neS.or od_neP

/-! ### one sign in a text -/
def inTxt (neg : Bool) : D → D → Option D
  | .str s, .str t => some (.bl (if neg then !(!(Builtin.Str.occurrences t s 0 t.length 1).isEmpty) else !(Builtin.Str.occurrences t s 0 t.length 1).isEmpty))
  | _, _ => none
theorem od_inT : OpD X (fun x y H Q => ∃ i j, x = .str i ∧ y = .str j ∧ Q (.bl (!(Builtin.Str.occurrences j i 0 j.length 1).isEmpty)) H) (inTxt false) := by
  intro q x y d1 d2 d Q _ _ _ h1 h2 e k
  cases d1 <;> cases d2 <;> first
    | (cases e; exact ⟨_, _, h1.str, h2.str, k _ _ (Grow.refl _) (.bl _)⟩)
    | cases e
theorem od_ninT : OpD X (fun x y H Q => ∃ i j, x = .str i ∧ y = .str j ∧ Q (.bl (!(!(Builtin.Str.occurrences j i 0 j.length 1).isEmpty))) H) (inTxt true) := by
  intro q x y d1 d2 d Q _ _ _ h1 h2 e k
  cases d1 <;> cases d2 <;> first
    | (cases e; exact ⟨_, _, h1.str, h2.str, k _ _ (Grow.refl _) (.bl _)⟩)
    | cases e
def inD (x y : D) : Option D := (inSeq false x y).or (inTxt false x y)
def ninD (x y : D) : Option D := (inSeq true x y).or (inTxt true x y)
theorem od_inD : OpD X (fun x y H Q => rIn X.K false x y H Q ∨ (∃ i j, x = .str i ∧ y = .str j ∧ Q (.bl (!(Builtin.Str.occurrences j i 0 j.length 1).isEmpty)) H)) inD := (od_in false).or od_inT
theorem od_ninD : OpD X (fun x y H Q => rIn X.K true x y H Q ∨ (∃ i j, x = .str i ∧ y = .str j ∧ Q (.bl (!(!(Builtin.Str.occurrences j i 0 j.length 1).isEmpty))) H)) ninD := (od_in true).or od_ninT

/-! ### order of ints and texts -/
def strLt : D → D → Option D
  | .str s, .str t => some (.bl (decide (s.cps.toList < t.cps.toList)))
  | _, _ => none
def strLe : D → D → Option D
  | .str s, .str t => some (.bl (decide (s.cps.toList ≤ t.cps.toList)))
  | _, _ => none
theorem od_ltS : OpD X (fun x y H Q => ∃ i j, x = .str i ∧ y = .str j ∧ Q (.bl (decide (i.cps.toList < j.cps.toList))) H) strLt := by
  intro q x y d1 d2 d Q _ _ _ h1 h2 e k
  cases d1 <;> cases d2 <;> first
    | (cases e; exact ⟨_, _, h1.str, h2.str, k _ _ (Grow.refl _) (.bl _)⟩)
    | cases e
def ltA (x y : D) : Option D := (ltD x y).or (strLt x y)
theorem ltA_int (i j : Int) : ltA (.int i) (.int j) = some (.bl (decide (i < j))) := rfl

theorem de_lt (ha : DE Φ X a f) (hb : DB Φ X b g) : DE Φ X (.Compare a [.Lt] [b] pos) (op2 ltA f g) := de_cmp (op_lt.or op_lt_str) (od_lt.or od_ltS) ha hb (nomark _)
theorem de_le (ha : DE Φ X a f) (hb : DB Φ X b g) : DE Φ X (.Compare a [.LtE] [b] pos) (op2 leD f g) := de_cmp op_le od_le ha hb (nomark _)
theorem de_gt (ha : DE Φ X a f) (hb : DB Φ X b g) : DE Φ X (.Compare a [.Gt] [b] pos) (op2 gtD f g) := de_cmp op_gt od_gt ha hb (nomark _)
theorem de_ge (ha : DE Φ X a f) (hb : DB Φ X b g) : DE Φ X (.Compare a [.GtE] [b] pos) (op2 geD f g) := de_cmp op_ge od_ge ha hb (nomark _)
theorem de_eq (hu : hasUnits X) (ha : DE Φ X a f) (hb : DB Φ X b g) : DE Φ X (.Compare a [.Eq] [b] pos) (op2 eqD f g) := de_cmp (or_eq hu) od_eq ha hb (nomark _)
theorem de_ne (hu : hasUnits X) (ha : DE Φ X a f) (hb : DB Φ X b g) : DE Φ X (.Compare a [.NotEq] [b] pos) (op2 neD f g) := de_cmp (or_ne hu) od_ne ha hb (nomark _)
theorem de_in (ha : DE Φ X a f) (hb : DB Φ X b g) (hm : behindInMarks .In b = false := by rfl) : DE Φ X (.Compare a [.In] [b] pos) (op2 inD f g) := de_cmp (op_in_seq.or op_in_str) od_inD ha hb hm
theorem de_nin (ha : DE Φ X a f) (hb : DB Φ X b g) (hm : behindInMarks .NotIn b = false := by rfl) : DE Φ X (.Compare a [.NotIn] [b] pos) (op2 ninD f g) := de_cmp (op_notIn_seq.or op_notIn_str) od_ninD ha hb hm
theorem de_isN (ha : DE Φ X a f) (hb : DB Φ X b g) : DE Φ X (.Compare a [.Is] [b] pos) (op2 (isND false) f g) := de_cmp op_isN od_isN ha hb (nomark _)
theorem de_notN (ha : DE Φ X a f) (hb : DB Φ X b g) : DE Φ X (.Compare a [.IsNot] [b] pos) (op2 (isND true) f g) := de_cmp op_notN od_notN ha hb (nomark _)

/-! ### tests -/
def PostT (Φ : Ctx) (X : Cx) (C : List Addr) (os : Os) (σ : St) (H : Hp) (o : O Bool) (Q : Bool → Hp → Prop) : Prop := match o with
  | .ok d ρ' μ' => ∀ H' C' os', Rl Φ X ρ' μ' C' os' σ H' → Stp (rc Φ X C os H) (rc Φ X C' os' H') → Q d H'
  | .ex c ns ds ρ' μ' => ∀ Cc dx H' C' os', Rl Φ X ρ' μ' C' os' σ H' → Stp (rc Φ X C os H) (rc Φ X C' os' H') → X.mg c = some (.ref Cc) → EhR (rc Φ X C' os' H') dx c ns ds → Φ.W (.ref Cc) (some dx) σ H'
  | .no => False
def cT (Φ : Ctx) (X : Cx) (f : Mo Bool) : TT := fun σ H Q => ∃ ρ μ C os, Rl Φ X ρ μ C os σ H ∧ PostT Φ X C os σ H (f ρ μ) Q
def DT (Φ : Ctx) (X : Cx) (e : Expr) (f : Mo Bool) : Prop := PT X e (cT Φ X f)
def DW (Φ : Ctx) (X : Cx) (e : Expr) (f : Mo Bool) : Prop := PW X e (cT Φ X f)
theorem PT.imp {e : Expr} {t t' : TT} (h : PT X e t) (i : ∀ σ H Q, t' σ H Q → t σ H Q) : PT X e t' := ⟨fun pins s σ H Q I q => h.run pins s σ H Q I (i σ H Q q)⟩
theorem PW.imp {e : Expr} {t t' : TT} (h : PW X e t) (i : ∀ σ H Q, t' σ H Q → t σ H Q) : PW X e t' := ⟨fun w pins s σ H Q I q => h.run w pins s σ H Q I (i σ H Q q)⟩
theorem PostT.from {C C1 : List Addr} {os os1 : Os} {σ : St} {H H1 : Hp} {o : O Bool} {Q : Bool → Hp → Prop} (S : Stp (rc Φ X C os H) (rc Φ X C1 os1 H1)) (h : PostT Φ X C os σ H o Q) : PostT Φ X C1 os1 σ H1 o Q := by
  cases o with
  | ok d ρ' μ' => exact fun H' C' os' R T => h H' C' os' R (S.trans T)
  | ex c ns ds ρ' μ' => exact fun Cc dx H' C' os' R T g e => h Cc dx H' C' os' R (S.trans T) g e
  | no => exact h
def asBl : D → Option Bool
  | .bl b => some b
  | _ => none
def tst (f : Mo D) : Mo Bool := bnd f fun x => lift (asBl x)
theorem cE_tst {σ : St} {H : Hp} {Q : Bool → Hp → Prop} (z : cT Φ X (tst f) σ H Q) : cE Φ X f σ H fun x H1 => ∃ k, x = .bl k ∧ Q k H1 := by
  obtain ⟨ρ, μ, C, os, R, z⟩ := z
  refine ⟨ρ, μ, C, os, R, ?_⟩
  unfold tst bnd at z
  cases e : f ρ μ with
  | no => rw [e] at z; exact z.elim
  | ex c ns ds ρ1 μ1 => rw [e] at z; exact z
  | ok d ρ1 μ1 =>
    rw [e] at z
    intro v H1 C1 os1 R1 S1 q
    cases d <;> first
      | (cases q; exact ⟨_, rfl, z H1 C1 os1 R1 S1⟩)
      | exact z.elim
theorem dt_val (h : DE Φ X e f) (he : ∀ whole, isTrue e X.env whole = (do let v ← whole; standAt e.pos; holding [v] (truthy v)) := by intro _; rfl) : DT Φ X e (tst f) := PT.imp (pt_val h he) fun σ H Q z => cE_tst z
theorem pt_of {op : CmpOp} {r : R2} {h : D → D → Option D} (ho : OpR X (compareOp op) r) (hD : OpD X r h) (ha : DE Φ X a f) (hb : DB Φ X b g) (hm : behindInMarks op b = false) : DT Φ X (.Compare a [op] [b] pos) (tst (op2 h f g)) :=
  PT.imp (pt_cmpR ho ha hb hm) fun σ H Q z => run2 hD (cE_tst z)
theorem pt_ofv {op : CmpOp} {r : R2} {h : D → D → Option D} {i : Nat} {x : Str} {px : Pos} (ho : OpR X (compareOp op) r) (hD : OpD X r h) (hb : DE Φ X b g) (hm : behindInMarks op b = false) (hN : X.N[i]? = some x := by rfl)
    (hv : Vis X.env.scope x := by first | exact Or.inl rfl | exact Or.inr (Or.inl rfl) | exact Or.inr (Or.inr rfl)) (hd : (x == ("__debug__" : Str)) = false := by decide) (hcd : (x == ("__classdict__" : Str)) = false := by decide) :
    DT Φ X (.Compare (.Name x px) [op] [b] pos) (tst (op2v h i g)) := PT.imp (pt_cmpR ho (pe_var hN hv hd hcd) hb hm) fun σ H Q z => run2v hD (cE_tst z)
theorem dt_lt (ha : DE Φ X a f) (hb : DB Φ X b g) : DT Φ X (.Compare a [.Lt] [b] pos) (tst (op2 ltA f g)) := pt_of (op_lt.or op_lt_str) (od_lt.or od_ltS) ha hb (nomark _)
theorem dt_le (ha : DE Φ X a f) (hb : DB Φ X b g) : DT Φ X (.Compare a [.LtE] [b] pos) (tst (op2 leD f g)) := pt_of op_le od_le ha hb (nomark _)
theorem dt_gt (ha : DE Φ X a f) (hb : DB Φ X b g) : DT Φ X (.Compare a [.Gt] [b] pos) (tst (op2 gtD f g)) := pt_of op_gt od_gt ha hb (nomark _)
theorem dt_ge (ha : DE Φ X a f) (hb : DB Φ X b g) : DT Φ X (.Compare a [.GtE] [b] pos) (tst (op2 geD f g)) := pt_of op_ge od_ge ha hb (nomark _)
theorem dt_eq (hu : hasUnits X) (ha : DE Φ X a f) (hb : DB Φ X b g) : DT Φ X (.Compare a [.Eq] [b] pos) (tst (op2 eqD f g)) := pt_of (or_eq hu) od_eq ha hb (nomark _)
theorem dt_ne (hu : hasUnits X) (ha : DE Φ X a f) (hb : DB Φ X b g) : DT Φ X (.Compare a [.NotEq] [b] pos) (tst (op2 neD f g)) := pt_of (or_ne hu) od_ne ha hb (nomark _)
theorem dt_in (ha : DE Φ X a f) (hb : DB Φ X b g) (hm : behindInMarks .In b = false := by rfl) : DT Φ X (.Compare a [.In] [b] pos) (tst (op2 inD f g)) := pt_of (op_in_seq.or op_in_str) od_inD ha hb hm
theorem dt_nin (ha : DE Φ X a f) (hb : DB Φ X b g) (hm : behindInMarks .NotIn b = false := by rfl) : DT Φ X (.Compare a [.NotIn] [b] pos) (tst (op2 ninD f g)) := pt_of (op_notIn_seq.or op_notIn_str) od_ninD ha hb hm
theorem dt_isN (ha : DE Φ X a f) (hb : DB Φ X b g) : DT Φ X (.Compare a [.Is] [b] pos) (tst (op2 (isND false) f g)) := pt_of op_isN od_isN ha hb (nomark _)
theorem dt_notN (ha : DE Φ X a f) (hb : DB Φ X b g) : DT Φ X (.Compare a [.IsNot] [b] pos) (tst (op2 (isND true) f g)) := pt_of op_notN od_notN ha hb (nomark _)

/-- a list, a tuple, a text, a dict, an int by its truth -/
def truD : D → Option Bool
  | .non => some false
  | .bl b => some b
  | .int i => some (i != 0)
  | .str s => if s.length ≤ lineN then some ((s.length : Int) != 0) else none
  | .lst ds | .tup ds | .frz ds => some (!ds.isEmpty)
  | .dct ks _ => some (!ks.isEmpty)
  | _ => none
theorem Reps.isEmpty {r : RC} {vs : List V} {ds : List D} (h : Reps r vs ds) : vs.isEmpty = ds.isEmpty := by cases h <;> rfl
theorem tru_of {r : RC} {v : V} {d : D} {k : Bool} (h : RepW r v d) (e : truD d = some k) : TruV r.K v r.H k := by
  unfold TruV
  cases d with
  | non => cases e; rw [h.non]
  | bl b => cases e; rw [h.bl]
  | int i => cases e; rw [h.int]
  | str s =>
    rw [h.str]
    simp only [truD] at e
    split at e
    · rename_i hl
      cases e
      exact ⟨by rw [line_eq]; exact hl, rfl⟩
    · cases e
  | tup ds =>
    obtain ⟨a, vs, rfl, ha, q⟩ := h.tup
    cases e
    exact .inr (.inl ⟨vs, ha.sq, by rw [q.isEmpty]⟩)
  | lst ds =>
    obtain ⟨a, vs, rfl, ha, q⟩ := h.lst
    cases e
    exact .inl ⟨vs, .of ha, by rw [q.isEmpty]⟩
  | frz ds =>
    obtain ⟨a, vs, rfl, ha, q⟩ := h.frz
    cases e
    exact .inl ⟨vs, ha.sq, by rw [q.isEmpty]⟩
  | dct ks ds =>
    obtain ⟨a, kvs, rfl, ha, hk, q⟩ := h.dct
    cases e
    refine .inr (.inr ⟨kvs, ha, ?_⟩)
    subst hk
    cases kvs <;> rfl
  | ins c ns ds => cases e
  | cell n => cases e
end
end L2.DL

/-! DL5: truth, and/or/not, a if b else c, chains, displays, slices. -/
namespace L2.DL
open PySem PySem.Spec PyProof.Rows
section
variable {Φ : Ctx} {X : Cx} {a b c e : Expr} {f g k : Mo D} {ft gt : Mo Bool} {rest : List Expr} {pos : Pos}
/-! ### a test by truth -/
def tru (f : Mo D) : Mo Bool := bnd f fun x => lift (truD x)
theorem dt_truth (h : DB Φ X e f) (he : ∀ whole, isTrue e X.env whole = (do let v ← whole; standAt e.pos; holding [v] (truthy v)) := by intro _; rfl) : DT Φ X e (tru f) := PT.imp (pt_truth h he) fun σ H Q ⟨ρ, μ, C, os, R, z⟩ => by
  refine ⟨ρ, μ, C, os, R, ?_⟩
  unfold tru bnd at z
  cases e : f ρ μ with
  | no => rw [e] at z; exact z.elim
  | ex c ns ds ρ1 μ1 => rw [e] at z; exact z
  | ok d ρ1 μ1 =>
    rw [e] at z
    intro v H1 C1 os1 R1 S1 q
    cases e2 : truD d with
    | none => simp only [lift, e2] at z; exact z.elim
    | some k =>
      simp only [lift, e2] at z
      exact ⟨k, tru_of q e2, z H1 C1 os1 R1 S1⟩

/-! ### and, or, not -/
def andM (f g : Mo Bool) : Mo Bool := bnd f fun b => if b then g else ret false
def orM (f g : Mo Bool) : Mo Bool := bnd f fun b => if b then ret true else g
def notM (f : Mo Bool) : Mo Bool := bnd f fun b => ret (!b)
theorem PostT.bnd {C : List Addr} {os : Os} {σ : St} {H : Hp} {f : Mo Bool} {g : Bool → Mo Bool} {ρ : Env} {μ : Sto} {Q Q1 : Bool → Hp → Prop} (h : PostT Φ X C os σ H (DL.bnd f g ρ μ) Q)
    (k : ∀ d ρ1 μ1 H1 C1 os1, Rl Φ X ρ1 μ1 C1 os1 σ H1 → Stp (rc Φ X C os H) (rc Φ X C1 os1 H1) → PostT Φ X C1 os1 σ H1 (g d ρ1 μ1) Q → Q1 d H1) : PostT Φ X C os σ H (f ρ μ) Q1 := by
  unfold DL.bnd at h
  cases e : f ρ μ with
  | ok d ρ1 μ1 =>
    rw [e] at h
    exact fun H1 C1 os1 R S => k d ρ1 μ1 H1 C1 os1 R S (PostT.from S h)
  | ex c ns ds ρ1 μ1 => rw [e] at h; exact h
  | no => rw [e] at h; exact h
theorem retT {ρ : Env} {μ : Sto} {C : List Addr} {os : Os} {σ : St} {H : Hp} {b : Bool} {Q : Bool → Hp → Prop} (R : Rl Φ X ρ μ C os σ H) (p : PostT Φ X C os σ H (ret b ρ μ) Q) : Q b H := p H C os R (Stp.refl _)
theorem DW.dt (h : DW Φ X e ft) : DT Φ X e ft := PW.pt h
theorem dw_and1 (h : DT Φ X a ft) : DW Φ X (.BoolOp .And [a] pos) ft := pw_and1 h
theorem dw_or1 (h : DT Φ X a ft) : DW Φ X (.BoolOp .Or [a] pos) ft := pw_or1 h
theorem dw_and (ha : DT Φ X a ft) (hb : DW Φ X (.BoolOp .And (b :: rest) pos) gt) : DW Φ X (.BoolOp .And (a :: b :: rest) pos) (andM ft gt) := PW.imp (pw_and ha hb) fun σ H Q ⟨ρ, μ, C, os, R, z⟩ =>
  ⟨ρ, μ, C, os, R, PostT.bnd z fun d ρ1 μ1 H1 C1 os1 R1 S1 z1 => by
    cases d with
    | true => exact (if_pos rfl).mpr ⟨ρ1, μ1, C1, os1, R1, z1⟩
    | false => exact (if_neg Bool.false_ne_true).mpr (retT R1 z1)⟩
theorem dw_or (ha : DT Φ X a ft) (hb : DW Φ X (.BoolOp .Or (b :: rest) pos) gt) : DW Φ X (.BoolOp .Or (a :: b :: rest) pos) (orM ft gt) := PW.imp (pw_or ha hb) fun σ H Q ⟨ρ, μ, C, os, R, z⟩ =>
  ⟨ρ, μ, C, os, R, PostT.bnd z fun d ρ1 μ1 H1 C1 os1 R1 S1 z1 => by
    cases d with
    | true => exact (if_pos rfl).mpr (retT R1 z1)
    | false => exact (if_neg Bool.false_ne_true).mpr ⟨ρ1, μ1, C1, os1, R1, z1⟩⟩
theorem dt_not (h : DT Φ X a ft) : DT Φ X (.UnaryOp .Not a pos) (notM ft) := PT.imp (pt_not h) fun σ H Q ⟨ρ, μ, C, os, R, z⟩ =>
  ⟨ρ, μ, C, os, R, PostT.bnd z fun d ρ1 μ1 H1 C1 os1 R1 S1 z1 => retT R1 z1⟩
/-- as values; the left one True or False -/
def andV (f g : Mo D) : Mo D := bnd f fun x => bnd (lift (asBl x)) fun b => if b then g else ret (.bl false)
def orV (f g : Mo D) : Mo D := bnd f fun x => bnd (lift (asBl x)) fun b => if b then ret (.bl true) else g
def notV (f : Mo D) : Mo D := bnd f fun x => bnd (lift (asBl x)) fun b => ret (.bl (!b))
theorem asBl_bnd {ρ : Env} {μ : Sto} {C : List Addr} {os : Os} {σ : St} {H : Hp} {d : D} {v : V} {g : Bool → Mo D} {Q : VK} (q : Rep (rc Φ X C os H) v d) (z : PostE Φ X C os σ H (bnd (lift (asBl d)) g ρ μ) Q) :
    ∃ k, v = .bl k ∧ PostE Φ X C os σ H (g k ρ μ) Q := by
  cases d <;> first
    | (cases q; exact ⟨_, rfl, z⟩)
    | exact z.elim
theorem de_one {op} (h : DE Φ X a f) : DE Φ X (.BoolOp op [a] pos) f := pe_one h
theorem de_and (ha : DE Φ X a f) (hb : DE Φ X (.BoolOp .And (b :: rest) pos) g) : DE Φ X (.BoolOp .And (a :: b :: rest) pos) (andV f g) := PE.imp (pe_and ha hb) fun σ H Q ⟨ρ, μ, C, os, R, z⟩ =>
  ⟨ρ, μ, C, os, R, PostE.bnd z fun d ρ1 μ1 v H1 C1 os1 R1 S1 q1 z1 => by
    obtain ⟨k, rfl, z2⟩ := asBl_bnd q1 z1
    refine ⟨k, rfl, ?_⟩
    cases k with
    | true => exact (if_pos rfl).mpr ⟨ρ1, μ1, C1, os1, R1, z2⟩
    | false => exact (if_neg Bool.false_ne_true).mpr (cE_at R1 (.bl false) z2)⟩
theorem de_or (ha : DE Φ X a f) (hb : DE Φ X (.BoolOp .Or (b :: rest) pos) g) : DE Φ X (.BoolOp .Or (a :: b :: rest) pos) (orV f g) := PE.imp (pe_or ha hb) fun σ H Q ⟨ρ, μ, C, os, R, z⟩ =>
  ⟨ρ, μ, C, os, R, PostE.bnd z fun d ρ1 μ1 v H1 C1 os1 R1 S1 q1 z1 => by
    obtain ⟨k, rfl, z2⟩ := asBl_bnd q1 z1
    refine ⟨k, rfl, ?_⟩
    cases k with
    | true => exact (if_pos rfl).mpr (cE_at R1 (.bl true) z2)
    | false => exact (if_neg Bool.false_ne_true).mpr ⟨ρ1, μ1, C1, os1, R1, z2⟩⟩
theorem de_not (ha : DE Φ X a f) : DE Φ X (.UnaryOp .Not a pos) (notV f) := PE.imp (pe_not ha) fun σ H Q ⟨ρ, μ, C, os, R, z⟩ =>
  ⟨ρ, μ, C, os, R, PostE.bnd z fun d ρ1 μ1 v H1 C1 os1 R1 S1 q1 z1 => by
    obtain ⟨k, rfl, z2⟩ := asBl_bnd q1 z1
    exact ⟨k, rfl, cE_at R1 (.bl _) z2⟩⟩
def ifM (t : Mo Bool) (f g : Mo D) : Mo D := bnd t fun b => if b then f else g
theorem PostE.bndT {C : List Addr} {os : Os} {σ : St} {H : Hp} {f : Mo Bool} {g : Bool → Mo D} {ρ : Env} {μ : Sto} {Q : VK} {Q1 : Bool → Hp → Prop} (h : PostE Φ X C os σ H (DL.bnd f g ρ μ) Q)
    (k : ∀ d ρ1 μ1 H1 C1 os1, Rl Φ X ρ1 μ1 C1 os1 σ H1 → Stp (rc Φ X C os H) (rc Φ X C1 os1 H1) → PostE Φ X C1 os1 σ H1 (g d ρ1 μ1) Q → Q1 d H1) : PostT Φ X C os σ H (f ρ μ) Q1 := by
  unfold DL.bnd at h
  cases e : f ρ μ with
  | ok d ρ1 μ1 =>
    rw [e] at h
    exact fun H1 C1 os1 R S => k d ρ1 μ1 H1 C1 os1 R S (PostE.from S h)
  | ex c ns ds ρ1 μ1 => rw [e] at h; exact h
  | no => rw [e] at h; exact h
theorem de_if (ht : DT Φ X c ft) (ha : DE Φ X a f) (hb : DE Φ X b g) : DE Φ X (.IfExp c a b pos) (ifM ft f g) := PE.imp (pe_ifExp ht ha hb) fun σ H Q ⟨ρ, μ, C, os, R, z⟩ =>
  ⟨ρ, μ, C, os, R, PostE.bndT z fun d ρ1 μ1 H1 C1 os1 R1 S1 z1 => by
    cases d with
    | true => exact (if_pos rfl).mpr ⟨ρ1, μ1, C1, os1, R1, z1⟩
    | false => exact (if_neg Bool.false_ne_true).mpr ⟨ρ1, μ1, C1, os1, R1, z1⟩⟩
/-- a < b < c: by two operators that say True or False -/
def chn (h h' : D → D → Option D) (f g k : Mo D) : Mo D := bnd f fun x => bnd g fun y => bnd (lift (h x y)) fun z => bnd (lift (asBl z)) fun b => if b then bnd k fun w => lift (h' y w) else ret (.bl false)
theorem run_chn {r r' : R2} {h h' : D → D → Option D} (hD : OpD X r h) (hD' : OpD X r' h') {σ : St} {H : Hp} {Q : VK} (z : cE Φ X (chn h h' f g k) σ H Q) : tChain r r' (cE Φ X f) (cE Φ X g) (cE Φ X k) σ H Q := by
  obtain ⟨ρ, μ, C, os, R, z⟩ := z
  refine ⟨ρ, μ, C, os, R, PostE.bnd z fun d1 ρ1 μ1 x H1 C1 os1 R1 S1 q1 z1 => ⟨ρ1, μ1, C1, os1, R1, PostE.bnd z1 fun d2 ρ2 μ2 y H2 C2 os2 R2 S2 q2 z2 => ?_⟩⟩
  cases e : h d1 d2 with
  | none => simp only [bnd, lift, e] at z2; exact z2.elim
  | some d =>
    have z2 : PostE Φ X C2 os2 σ H2 (bnd (lift (asBl d)) (fun b => if b then bnd k fun w => lift (h' d2 w) else ret (.bl false)) ρ2 μ2) Q := by
      have z3 := z2
      simp only [bnd, lift, e] at z3
      exact z3
    refine hD (rc Φ X C2 os2 H2) x y d1 d2 d _ rfl rfl R2.fr (.inl (q1.step S2)) (.inl q2) e fun v H' gr qv => ?_
    have R3 := R2.grow gr
    have S3 := stp_grow (Φ := Φ) (X := X) (C := C2) (os := os2) gr
    obtain ⟨b, rfl, z4⟩ := asBl_bnd (Φ := Φ) (X := X) (C := C2) (os := os2) (H := H') qv (PostE.from S3 z2)
    refine ⟨b, rfl, ?_⟩
    cases b with
    | true =>
      refine (if_pos rfl).mpr ⟨ρ2, μ2, C2, os2, R3, PostE.bnd z4 fun d3 ρ3 μ3 w H3 C3 os3 R4 S4 q3 z5 => ?_⟩
      obtain ⟨d4, e4, k4⟩ := lift_ok R4 z5
      exact hD' (rc Φ X C3 os3 H3) y w d2 d3 d4 Q rfl rfl R4.fr (.inl ((q2.step S3).step S4)) (.inl q3) e4 k4
    | false => exact (if_neg Bool.false_ne_true).mpr (cE_at R3 (.bl false) z4)
theorem de_chn {op op' : CmpOp} {r r' : R2} {h h' : D → D → Option D} (ho : OpR X (compareOp op) r) (ho' : OpR X (compareOp op') r') (hD : OpD X r h) (hD' : OpD X r' h') (ha : DE Φ X a f) (hb : DE Φ X b g) (hc : DE Φ X c k)
    (hm : lastMarks [op, op'] [b, c] = false := by rfl) : DE Φ X (.Compare a [op, op'] [b, c] pos) (chn h h' f g k) := PE.imp (pe_chain ho ho' ha hb hc hm) fun _ _ _ z => run_chn hD hD' z
theorem dt_chn {op op' : CmpOp} {r r' : R2} {h h' : D → D → Option D} (ho : OpR X (compareOp op) r) (ho' : OpR X (compareOp op') r') (hD : OpD X r h) (hD' : OpD X r' h') (ha : DE Φ X a f) (hb : DE Φ X b g) (hc : DE Φ X c k)
    (hm : lastMarks [op, op'] [b, c] = false := by rfl) : DT Φ X (.Compare a [op, op'] [b, c] pos) (tst (chn h h' f g k)) := PT.imp (pt_chain ho ho' ha hb hc hm) fun _ _ _ z => run_chn hD hD' (cE_tst z)

/-! ### displays -/
theorem PostE.bndA {C : List Addr} {os : Os} {σ : St} {H : Hp} {f : Mo (List D)} {g : List D → Mo D} {ρ : Env} {μ : Sto} {Q : VK} {Q1 : List V → Hp → Prop} (h : PostE Φ X C os σ H (DL.bnd f g ρ μ) Q)
    (k : ∀ d ρ1 μ1 v H1 C1 os1, Rl Φ X ρ1 μ1 C1 os1 σ H1 → Stp (rc Φ X C os H) (rc Φ X C1 os1 H1) → Reps (rc Φ X C1 os1 H1) v d → PostE Φ X C1 os1 σ H1 (g d ρ1 μ1) Q → Q1 v H1) : PostA Φ X C os σ H (f ρ μ) Q1 := by
  unfold DL.bnd at h
  cases e : f ρ μ with
  | ok d ρ1 μ1 =>
    rw [e] at h
    exact fun v H1 C1 os1 R S q => k d ρ1 μ1 v H1 C1 os1 R S q (PostE.from S h)
  | ex c ns ds ρ1 μ1 => rw [e] at h; exact h
  | no => rw [e] at h; exact h
def mkT (ds : List D) : Option D := if ds.length ≤ lineN then some (.tup ds) else none
def mkL (ds : List D) : Option D := if ds.length ≤ lineN then some (.lst ds) else none
def tupM (f : Mo (List D)) : Mo D := bnd f fun ds => lift (mkT ds)
def lstM (f : Mo (List D)) : Mo D := bnd f fun ds => lift (mkL ds)
variable {fa : Mo (List D)} {es : List Expr}
theorem de_tup {n} (h : DA Φ X es fa) : DE Φ X (.Tuple es n pos) (tupM fa) := PE.imp (pe_tupX h) fun σ H Q ⟨ρ, μ, C, os, R, z⟩ =>
  ⟨ρ, μ, C, os, R, PostE.bndA z fun ds ρ1 μ1 vs H1 C1 os1 R1 S1 q1 z1 => by
    obtain ⟨d, e, k⟩ := lift_ok R1 z1
    unfold mkT at e
    split at e
    · rename_i hl
      cases e
      exact ⟨by rw [q1.length, line_eq]; exact hl, newT (q := rc Φ X C1 os1 H1) R1.fr q1 k⟩
    · cases e⟩
theorem de_lst (h : DA Φ X es fa) : DE Φ X (.List es pos) (lstM fa) := PE.imp (pe_lst h) fun σ H Q ⟨ρ, μ, C, os, R, z⟩ =>
  ⟨ρ, μ, C, os, R, PostE.bndA z fun ds ρ1 μ1 vs H1 C1 os1 R1 S1 q1 z1 => by
    obtain ⟨d, e, k⟩ := lift_ok R1 z1
    unfold mkL at e
    split at e
    · rename_i hl
      cases e
      exact ⟨by rw [q1.length, line_eq]; exact hl, fun p n => k _ _ (Grow.upd n) (OwnR.rep (r := (rc Φ X C1 os1 H1).at _) (R1.fresh n) (own_lst (q := rc Φ X C1 os1 H1) n q1))⟩
    · cases e⟩

/-! ### slices -/
abbrev OI := Option Int
def PostO (Φ : Ctx) (X : Cx) (C : List Addr) (os : Os) (σ : St) (H : Hp) (o : O OI) (Q : OI → Hp → Prop) : Prop := match o with
  | .ok d ρ' μ' => ∀ H' C' os', Rl Φ X ρ' μ' C' os' σ H' → Stp (rc Φ X C os H) (rc Φ X C' os' H') → Q d H'
  | .ex c ns ds ρ' μ' => ∀ Cc dx H' C' os', Rl Φ X ρ' μ' C' os' σ H' → Stp (rc Φ X C os H) (rc Φ X C' os' H') → X.mg c = some (.ref Cc) → EhR (rc Φ X C' os' H') dx c ns ds → Φ.W (.ref Cc) (some dx) σ H'
  | .no => False
def cO (Φ : Ctx) (X : Cx) (f : Mo OI) : TO := fun σ H Q => ∃ ρ μ C os, Rl Φ X ρ μ C os σ H ∧ PostO Φ X C os σ H (f ρ μ) Q
def DO (Φ : Ctx) (X : Cx) (e : Option Expr) (f : Mo OI) : Prop := PO X e (cO Φ X f)
theorem PO.imp {e : Option Expr} {t t' : TO} (h : PO X e t) (i : ∀ σ H Q, t' σ H Q → t σ H Q) : PO X e t' := ⟨fun pins s σ H Q I q => h.run pins s σ H Q I (i σ H Q q)⟩
def asI : D → Option OI
  | .int i => some (some i)
  | _ => none
def noP : Mo OI := ret none
def prt (f : Mo D) : Mo OI := bnd f fun x => lift (asI x)
theorem do_none : DO Φ X none noP := PO.imp po_none fun σ H Q ⟨ρ, μ, C, os, R, z⟩ => z H C os R (Stp.refl _)
theorem do_some (h : DE Φ X e f) : DO Φ X (some e) (prt f) := PO.imp (po_some h) fun σ H Q ⟨ρ, μ, C, os, R, z⟩ => by
  refine ⟨ρ, μ, C, os, R, ?_⟩
  unfold prt bnd at z
  cases e : f ρ μ with
  | no => rw [e] at z; exact z.elim
  | ex c ns ds ρ1 μ1 => rw [e] at z; exact z
  | ok d ρ1 μ1 =>
    rw [e] at z
    intro v H1 C1 os1 R1 S1 q
    cases d <;> first
      | (cases q; exact ⟨_, rfl, z H1 C1 os1 R1 S1⟩)
      | exact z.elim
theorem PostE.bndO {C : List Addr} {os : Os} {σ : St} {H : Hp} {f : Mo OI} {g : OI → Mo D} {ρ : Env} {μ : Sto} {Q : VK} {Q1 : OI → Hp → Prop} (h : PostE Φ X C os σ H (DL.bnd f g ρ μ) Q)
    (k : ∀ d ρ1 μ1 H1 C1 os1, Rl Φ X ρ1 μ1 C1 os1 σ H1 → Stp (rc Φ X C os H) (rc Φ X C1 os1 H1) → PostE Φ X C1 os1 σ H1 (g d ρ1 μ1) Q → Q1 d H1) : PostO Φ X C os σ H (f ρ μ) Q1 := by
  unfold DL.bnd at h
  cases e : f ρ μ with
  | ok d ρ1 μ1 =>
    rw [e] at h
    exact fun H1 C1 os1 R S => k d ρ1 μ1 H1 C1 os1 R S (PostE.from S h)
  | ex c ns ds ρ1 μ1 => rw [e] at h; exact h
  | no => rw [e] at h; exact h
def cutD (xs : List D) (lo hi : OI) : List D := (xs.drop (HT.sIx xs.length 0 lo)).take (HT.sIx xs.length xs.length hi - HT.sIx xs.length 0 lo)
def slD (d : D) (lo hi : OI) : Option D := match d with
  | .str z => if z.length ≤ lineN then some (.str (cutS z lo hi)) else none
  | .tup xs => some (.tup (cutD xs lo hi))
  | .lst xs => some (.lst (cutD xs lo hi))
  | .frz xs => some (.lst (cutD xs lo hi))
  | _ => none
theorem Reps.cut {r : RC} {vs : List V} {ds : List D} (h : Reps r vs ds) (lo hi : OI) : Reps r (cutV vs lo hi) (cutD ds lo hi) := by
  unfold cutV cutD
  rw [h.length]
  exact Reps.take _ (Reps.drop _ h)
theorem cut_whole {α : Type} (xs : List α) {lo hi : OI} (h : HT.sIx xs.length 0 lo = 0 ∧ HT.sIx xs.length xs.length hi = xs.length) : (xs.drop (HT.sIx xs.length 0 lo)).take (HT.sIx xs.length xs.length hi - HT.sIx xs.length 0 lo) = xs := by
  rw [h.1, h.2]
  simp
def slR (K : PySem.W.Frag) : V → Option Int → Option Int → Hp → VK → Prop := fun x lo hi H Q => rSlL K x lo hi H Q ∨ (rSlX K x lo hi H Q ∨ rSlS x lo hi H Q)
theorem sl_all : SlR X (slR X.K) := sl_list.or (sl_tupX.or sl_str)
def slM (f : Mo D) (l h : Mo OI) : Mo D := bnd f fun x => bnd l fun lo => bnd h fun hi => lift (slD x lo hi)
variable {lo hi : Option Expr} {fl fh : Mo OI}
theorem sl_run {q : RC} {v : V} {d d' : D} {l h : OI} {Q : VK} (hK : q.K = X.K) (hn : ∀ p, q.H p = none → ¬ q.A p) (w : Rep q v d) (e : slD d l h = some d') (k : ∀ v H', Grow q.H H' → Rep (q.at H') v d' → Q v H') : slR X.K v l h q.H Q := by
  cases w with
  | str s =>
    simp only [slD] at e
    split at e
    · rename_i hl
      cases e
      exact .inr (.inr ⟨_, rfl, by rw [line_eq]; exact hl, k _ _ (Grow.refl _) (.str _)⟩)
    · cases e
  | tup hT qs =>
    cases e
    refine .inr (.inl ⟨_, _, rfl, hK ▸ hT.sq, fun z => ?_, fun z => newT hn (qs.cut l h) k⟩)
    have e1 : cutD _ l h = _ := cut_whole _ (by rw [← qs.length]; exact z)
    rw [e1] at k
    exact k _ _ (Grow.refl _) (.tup hT qs)
  | @lst a vs ds ha n qs =>
    cases e
    exact .inl ⟨_, _, rfl, .of ha, fun p n => k _ _ (Grow.upd n) (OwnR.rep (r := q.at (upd q.H p (HO.lst (cutV vs l h)))) (hn p n) (own_lst n (qs.cut l h)))⟩
  | @frz a vs ds ha qs =>
    cases e
    exact .inl ⟨_, _, rfl, hK ▸ ha.sq, fun p n => k _ _ (Grow.upd n) (OwnR.rep (r := q.at (upd q.H p (HO.lst (cutV vs l h)))) (hn p n) (own_lst n (qs.cut l h)))⟩
  | _ => cases e
theorem de_sl {p2} (he : DE Φ X e f) (hl : DO Φ X lo fl) (hh : DO Φ X hi fh) : DE Φ X (.Subscript e (.Slice lo hi none p2) pos) (slM f fl fh) := PE.imp (pe_slice sl_all he hl hh) fun σ H Q ⟨ρ, μ, C, os, R, z⟩ =>
  ⟨ρ, μ, C, os, R, PostE.bnd z fun d ρ1 μ1 v H1 C1 os1 R1 S1 q1 z1 => ⟨ρ1, μ1, C1, os1, R1, PostE.bndO z1 fun l ρ2 μ2 H2 C2 os2 R2 S2 z2 => ⟨ρ2, μ2, C2, os2, R2, PostE.bndO z2 fun h ρ3 μ3 H3 C3 os3 R3 S3 z3 => by
    obtain ⟨d', e, k⟩ := lift_ok R3 z3
    exact sl_run (q := rc Φ X C3 os3 H3) rfl R3.fr ((q1.step S2).step S3) e k⟩⟩⟩

/-! ### an item by its place -/
def ixL (xs : List D) (i : Int) : Option D := atI xs i
def ixD : D → D → Option D
  | .lst xs, .int i | .tup xs, .int i | .frz xs, .int i => atI xs i
  | .str z, .int i => if z.length ≤ lineN then (atI z.cps.toList i).map fun c => .str ⟨#[c]⟩ else none
  | _, _ => none
theorem Reps.atI {r : RC} {vs : List V} {ds : List D} {i : Int} {d : D} (h : Reps r vs ds) (e : L2.atI ds i = some d) : ∃ v, L2.atI vs i = some v ∧ Rep r v d := by
  unfold L2.atI at e ⊢
  rw [h.length]
  cases q : ixN ds.length i with
  | none => rw [q] at e; cases e
  | some j =>
    rw [q] at e
    exact h.get e
theorem od_ix : OpD X (rIx X.K) ixD := by
  intro q x y d1 d2 d Q hK _ _ h1 h2 e k
  cases d2 with
  | int i =>
    have ey := h2.int
    cases d1 with
    | lst ds =>
      obtain ⟨a, vs, rfl, ha, qa⟩ := h1.lst
      obtain ⟨v, e1, e2⟩ := qa.atI e
      exact .inl ⟨a, vs, i, v, rfl, ey, .of ha, e1, k _ _ (Grow.refl _) e2⟩
    | frz ds =>
      obtain ⟨a, vs, rfl, ha, qa⟩ := h1.frz
      obtain ⟨v, e1, e2⟩ := qa.atI e
      exact .inl ⟨a, vs, i, v, rfl, ey, hK ▸ ha.sq, e1, k _ _ (Grow.refl _) e2⟩
    | tup ds =>
      obtain ⟨a, vs, rfl, ha, qa⟩ := h1.tup
      obtain ⟨v, e1, e2⟩ := qa.atI e
      exact .inr (.inl ⟨a, vs, i, v, rfl, ey, hK ▸ ha.sq, e1, k _ _ (Grow.refl _) e2⟩)
    | str z =>
      simp only [ixD] at e
      split at e
      · rename_i hl
        obtain ⟨c, e1, rfl⟩ := Option.map_eq_some_iff.mp e
        exact .inr (.inr ⟨z, i, c, h1.str, ey, by rw [line_eq]; exact hl, e1, k _ _ (Grow.refl _) (.str _)⟩)
      · cases e
    | _ => cases e
  | _ => cases d1 <;> cases e
theorem de_at (ha : DE Φ X a f) (hb : DE Φ X b g) (hs : PlainIx b := by intro _ _; rfl) : DE Φ X (.Subscript a b pos) (op2 ixD f g) := de_ix ix_seq od_ix ha hb hs
theorem de_atv {i : Nat} {x : Str} {px : Pos} (hb : DE Φ X b g) (hs : PlainIx b := by intro _ _; rfl) (hN : X.N[i]? = some x := by rfl)
    (hv : Vis X.env.scope x := by first | exact Or.inl rfl | exact Or.inr (Or.inl rfl) | exact Or.inr (Or.inr rfl)) (hd : (x == ("__debug__" : Str)) = false := by decide) (hcd : (x == ("__classdict__" : Str)) = false := by decide) :
    DE Φ X (.Subscript (.Name x px) b pos) (op2v ixD i g) := de_ixv ix_seq od_ix hb hs hN hv hd hcd
end
end L2.DL

/-! DL6: statements, targets, owned things changed, for, while. -/
namespace L2.DL
open PySem PySem.Spec PyProof.Rows
inductive Fl where
  | nx | bk | ct | rt (d : D) | ro (d : D)
/-- what a rule wants of the body it stands in -/
structure Cn (Φ : Ctx) (X : Cx) (k : Nat) : Prop where
  nd : X.N.Nodup
  calm : X.calm = true
  po : PassesOwn (model X.prog X.w) X.A X.env X.xe
  tk : Takes X Φ.W
  rm : Room k X.A
theorem Cn.hu {Φ : Ctx} {X : Cx} {k : Nat} (c : Cn Φ X k) : hasUnits X := c.rm.units
section
variable {Φ : Ctx} {X : Cx} {a b c e : Expr} {f g k : Mo D} {pos : Pos}
def Fl.post (Φ : Ctx) (X : Cx) (D : Ends) (σ : St) (H : Hp) (C : List Addr) (os : Os) : Fl → Prop
  | .nx => D.nx σ H
  | .bk => D.bk σ H
  | .ct => D.ct σ H
  | .rt d => ∀ v, Rep (rc Φ X C os H) v d → D.rt v H
  | .ro d => ∀ a i, (i, a) ∈ os → OwnR (rc Φ X C os H) a d → D.rt (.ref a) H
def PostS (Φ : Ctx) (X : Cx) (C : List Addr) (os : Os) (H : Hp) (o : O Fl) (D : Ends) : Prop := match o with
  | .ok fl ρ' μ' => ∀ σ' H' C' os', Rl Φ X ρ' μ' C' os' σ' H' → Stp (rc Φ X C os H) (rc Φ X C' os' H') → fl.post Φ X D σ' H' C' os'
  | .ex c ns ds ρ' μ' => ∀ Cc dx σ' H' C' os', Rl Φ X ρ' μ' C' os' σ' H' → Stp (rc Φ X C os H) (rc Φ X C' os' H') → X.mg c = some (.ref Cc) → EhR (rc Φ X C' os' H') dx c ns ds → Φ.W (.ref Cc) (some dx) σ' H'
  | .no => False
def cS (Φ : Ctx) (X : Cx) (f : Mo Fl) : TS := fun D σ H => ∃ ρ μ C os, Rl Φ X ρ μ C os σ H ∧ PostS Φ X C os H (f ρ μ) D
def DS (Φ : Ctx) (X : Cx) (st : Stmt) (f : Mo Fl) : Prop := PS X st (cS Φ X f)
def DSs (Φ : Ctx) (X : Cx) (sts : List Stmt) (f : Mo Fl) : Prop := PSs X sts (cS Φ X f)
theorem PS.imp {st : Stmt} {t t' : TS} (h : PS X st t) (i : ∀ D σ H, t' D σ H → t D σ H) : PS X st t' := ⟨fun pins s σ H D I q => h.run pins s σ H D I (i D σ H q)⟩
theorem PSs.imp {st : List Stmt} {t t' : TS} (h : PSs X st t) (i : ∀ D σ H, t' D σ H → t D σ H) : PSs X st t' := ⟨fun pins s σ H D I q => h.run pins s σ H D I (i D σ H q)⟩
theorem PostS.from {C C1 : List Addr} {os os1 : Os} {H H1 : Hp} {o : O Fl} {D : Ends} (S : Stp (rc Φ X C os H) (rc Φ X C1 os1 H1)) (h : PostS Φ X C os H o D) : PostS Φ X C1 os1 H1 o D := by
  cases o with
  | ok d ρ' μ' => exact fun σ' H' C' os' R T => h σ' H' C' os' R (S.trans T)
  | ex c ns ds ρ' μ' => exact fun Cc dx σ' H' C' os' R T g e => h Cc dx σ' H' C' os' R (S.trans T) g e
  | no => exact h
/-- an expression, then the rest of the statement -/
theorem PostS.bndE {C : List Addr} {os : Os} {σ : St} {H : Hp} {f : Mo D} {g : D → Mo Fl} {ρ : Env} {μ : Sto} {E : Ends} {Q1 : VK} (h : PostS Φ X C os H (bnd f g ρ μ) E)
    (k : ∀ d ρ1 μ1 v H1 C1 os1, Rl Φ X ρ1 μ1 C1 os1 σ H1 → Stp (rc Φ X C os H) (rc Φ X C1 os1 H1) → Rep (rc Φ X C1 os1 H1) v d → PostS Φ X C1 os1 H1 (g d ρ1 μ1) E → Q1 v H1) : PostE Φ X C os σ H (f ρ μ) Q1 := by
  unfold bnd at h
  cases e : f ρ μ with
  | ok d ρ1 μ1 =>
    rw [e] at h
    exact fun v H1 C1 os1 R S q => k d ρ1 μ1 v H1 C1 os1 R S q (PostS.from S h)
  | ex c ns ds ρ1 μ1 => rw [e] at h; exact fun Cc dx H' C' os' R S g e => h Cc dx σ H' C' os' R S g e
  | no => rw [e] at h; exact h
theorem PostS.bndT {C : List Addr} {os : Os} {σ : St} {H : Hp} {f : Mo Bool} {g : Bool → Mo Fl} {ρ : Env} {μ : Sto} {E : Ends} {Q1 : Bool → Hp → Prop} (h : PostS Φ X C os H (bnd f g ρ μ) E)
    (k : ∀ d ρ1 μ1 H1 C1 os1, Rl Φ X ρ1 μ1 C1 os1 σ H1 → Stp (rc Φ X C os H) (rc Φ X C1 os1 H1) → PostS Φ X C1 os1 H1 (g d ρ1 μ1) E → Q1 d H1) : PostT Φ X C os σ H (f ρ μ) Q1 := by
  unfold bnd at h
  cases e : f ρ μ with
  | ok d ρ1 μ1 =>
    rw [e] at h
    exact fun H1 C1 os1 R S => k d ρ1 μ1 H1 C1 os1 R S (PostS.from S h)
  | ex c ns ds ρ1 μ1 => rw [e] at h; exact fun Cc dx H' C' os' R S g e => h Cc dx σ H' C' os' R S g e
  | no => rw [e] at h; exact h

/-! ### blocks -/
def skp : Mo Fl := ret .nx
def seqM (f g : Mo Fl) : Mo Fl := bnd f fun fl => match fl with
  | .nx => g
  | o => ret o
variable {st : Stmt} {sts : List Stmt} {fs gs : Mo Fl} {ft : Mo Bool}
theorem retS {C : List Addr} {os : Os} {σ : St} {H : Hp} {fl : Fl} {ρ : Env} {μ : Sto} {E : Ends} (R : Rl Φ X ρ μ C os σ H) (h : PostS Φ X C os H (ret fl ρ μ) E) : fl.post Φ X E σ H C os := h σ H C os R (Stp.refl _)
theorem dss_nil : DSs Φ X [] skp := PSs.imp pss_nil fun D σ H ⟨ρ, μ, C, os, R, z⟩ => retS R z
theorem dss_cons (h1 : DS Φ X st fs) (h2 : DSs Φ X sts gs) : DSs Φ X (st :: sts) (seqM fs gs) := PSs.imp (pss_cons h1 h2) fun D σ H ⟨ρ, μ, C, os, R, z⟩ => by
  refine ⟨ρ, μ, C, os, R, ?_⟩
  unfold seqM bnd at z
  cases e : fs ρ μ with
  | no => rw [e] at z; exact z
  | ex c ns ds ρ1 μ1 => rw [e] at z; exact z
  | ok fl ρ1 μ1 =>
    rw [e] at z
    intro σ1 H1 C1 os1 R1 S1
    cases fl with
    | nx => exact ⟨ρ1, μ1, C1, os1, R1, PostS.from S1 z⟩
    | bk => exact z σ1 H1 C1 os1 R1 S1
    | ct => exact z σ1 H1 C1 os1 R1 S1
    | rt d => exact z σ1 H1 C1 os1 R1 S1
    | ro d => exact z σ1 H1 C1 os1 R1 S1
theorem dss_one (h1 : DS Φ X st fs) : DSs Φ X [st] fs := pss_one h1
theorem ds_pass : DS Φ X (.Pass pos) (ret .nx) := PS.imp ps_pass fun D σ H ⟨ρ, μ, C, os, R, z⟩ => retS R z
theorem ds_break : DS Φ X (.Break pos) (ret .bk) := PS.imp ps_break fun D σ H ⟨ρ, μ, C, os, R, z⟩ => retS R z
theorem ds_cont : DS Φ X (.Continue pos) (ret .ct) := PS.imp ps_continue fun D σ H ⟨ρ, μ, C, os, R, z⟩ => retS R z
def rtM (f : Mo D) : Mo Fl := bnd f fun d => ret (.rt d)
theorem ds_ret (h : DE Φ X e f) : DS Φ X (.Return (some e) pos) (rtM f) := PS.imp (ps_ret h) fun D σ H ⟨ρ, μ, C, os, R, z⟩ =>
  ⟨ρ, μ, C, os, R, PostS.bndE z fun d ρ1 μ1 v H1 C1 os1 R1 S1 q1 z1 => retS R1 z1 v q1⟩
theorem ds_retN : DS Φ X (.Return none pos) (ret (.rt .non)) := PS.imp ps_retN fun D σ H ⟨ρ, μ, C, os, R, z⟩ => retS R z .non .non
def drp (f : Mo D) : Mo Fl := bnd f fun _ => ret .nx
theorem ds_expr (h : DE Φ X e f) (hs : swapsWith e none pos.line X.env = pure false := by rfl) : DS Φ X (.Expr e pos) (drp f) := PS.imp (ps_expr h hs) fun D σ H ⟨ρ, μ, C, os, R, z⟩ =>
  ⟨ρ, μ, C, os, R, PostS.bndE z fun d ρ1 μ1 v H1 C1 os1 R1 S1 q1 z1 => retS R1 z1⟩
def ifS (t : Mo Bool) (f g : Mo Fl) : Mo Fl := bnd t fun b => if b then f else g
theorem ds_if {A B : List Stmt} (ht : DT Φ X c ft) (ha : DSs Φ X A fs) (hb : DSs Φ X B gs) : DS Φ X (.If c A B pos) (ifS ft fs gs) := PS.imp (ps_if ht ha hb) fun D σ H ⟨ρ, μ, C, os, R, z⟩ =>
  ⟨ρ, μ, C, os, R, PostS.bndT z fun d ρ1 μ1 H1 C1 os1 R1 S1 z1 => by
    cases d with
    | true => exact (if_pos rfl).mpr ⟨ρ1, μ1, C1, os1, R1, z1⟩
    | false => exact (if_neg Bool.false_ne_true).mpr ⟨ρ1, μ1, C1, os1, R1, z1⟩⟩

/-! ### names stored -/
def put (i : Nat) (t : Ent) : Mo Fl := fun ρ μ => .ok .nx (ρ.set i (some t)) μ
theorem Rl.setv {ρ : Env} {μ : Sto} {C : List Addr} {os : Os} {σ : St} {H : Hp} {i : Nat} {v : V} {t : Ent} (R : Rl Φ X ρ μ C os σ H) (h : EntR Φ (rc Φ X C os H) os i v t) : Rl Φ X (ρ.set i (some t)) μ C os (σ.set i (some v)) H where
  len := by rw [List.length_set, List.length_set]; exact R.len
  env := fun j t' q => by
    by_cases hj : i = j
    · subst hj
      have hl : i < ρ.length := by
        have := (List.getElem?_eq_some_iff.mp q).1
        rwa [List.length_set] at this
      rw [List.getElem?_set_self hl] at q
      cases q
      exact ⟨v, List.getElem?_set_self (R.len ▸ hl), h⟩
    · rw [List.getElem?_set_ne hj] at q
      obtain ⟨v', h1, h2⟩ := R.env j t' q
      exact ⟨v', by rw [List.getElem?_set_ne hj]; exact h1, h2⟩
  sto := R.sto
  own := R.own
  fre := R.fre
  pre := R.pre
  cfr := R.cfr
  cnd := R.cnd
  clv := R.clv
  frm := R.frm
  alv := R.alv
def setM (i : Nat) (f : Mo D) : Mo Fl := bnd f fun d => put i (.sh d)
theorem ds_set {i : Nat} {x : Str} {pos' : Pos} (hN : X.N.Nodup) (he : DE Φ X e f) (hi : X.N[i]? = some x := by rfl) (hx : Loc X.env.scope x := by first | exact Or.inl rfl | exact Or.inr rfl)
    (hs : swapsWith e (some (.Name x pos')) pos.line X.env = pure false := by rfl) (hf : X.fn x = true ∨ X.env.scope.names.lookup x = some .local := by first | exact .inl rfl | exact .inr rfl) :
    DS Φ X (.Assign [.Name x pos'] e pos) (setM i f) := PS.imp (ps_set hN hi hx he hs hf) fun D σ H ⟨ρ, μ, C, os, R, z⟩ =>
  ⟨ρ, μ, C, os, R, PostS.bndE z fun d ρ1 μ1 v H1 C1 os1 R1 S1 q1 z1 => z1 _ _ C1 os1 (R1.setv (t := .sh d) q1) (Stp.refl _)⟩

/-! ### a new thing that only a name holds -/
def PostF (Φ : Ctx) (X : Cx) (i : Nat) (C : List Addr) (os : Os) (σ : St) (H : Hp) (o : O D) (Q : VK) : Prop := match o with
  | .ok d ρ' μ' => ∀ a H' C' os', Rl Φ X ρ' μ' C' ((some i, a) :: os') σ H' → Stp (rc Φ X C os H) (rc Φ X C' ((some i, a) :: os') H') → OwnR (rc Φ X C' ((some i, a) :: os') H') a d → Q (.ref a) H'
  | .ex c ns ds ρ' μ' => ∀ Cc dx H' C' os', Rl Φ X ρ' μ' C' os' σ H' → Stp (rc Φ X C os H) (rc Φ X C' os' H') → X.mg c = some (.ref Cc) → EhR (rc Φ X C' os' H') dx c ns ds → Φ.W (.ref Cc) (some dx) σ H'
  | .no => False
def cF (Φ : Ctx) (X : Cx) (i : Nat) (f : Mo D) : TE := fun σ H Q => ∃ ρ μ C os, Rl Φ X ρ μ C os σ H ∧ PostF Φ X i C os σ H (f ρ μ) Q
def DF (Φ : Ctx) (X : Cx) (i : Nat) (e : Expr) (f : Mo D) : Prop := PE X e (cF Φ X i f)
theorem OwnR.stepH {r r' : RC} (S : Stp r r') {a : Addr} (h : ∀ o, r.H a = some o → r'.H a = some o) : ∀ {d : D}, OwnR r a d → OwnR r' a d
  | .lst _, ⟨vs, z, q⟩ => ⟨vs, h _ z, q.step S⟩
  | .dct _ _, ⟨kvs, z, e, q⟩ => ⟨kvs, h _ z, e, q.step S⟩
  | .non, h => h.elim | .bl _, h => h.elim | .int _, h => h.elim | .str _, h => h.elim | .tup _, h => h.elim | .frz _, h => h.elim | .ins _ _ _, h => h.elim | .cell _, h => h.elim
theorem BdR.stepB {r r' : RC} (S : Stp r r') {a : Addr} {c : Str} {ns : List Str} {ds : List D} (h : ∀ o, r.H a = some o → r'.H a = some o) : BdR r a c ns ds → BdR r' a c ns ds := fun ⟨Cc, dx, fs, z, m, e, q⟩ =>
  ⟨Cc, dx, fs, h _ z, by rw [S.g]; exact m, e, q.step S⟩
theorem CellR.stepH {r r' : RC} (S : Stp r r') {a : Addr} (h : ∀ o, r.H a = some o → r'.H a = some o) : ∀ {c : Cell}, CellR r a c → CellR r' a c
  | .lst _, ⟨vs, z, q⟩ => ⟨vs, h _ z, q.step S⟩
  | .dct _ _, ⟨kvs, z, e, q⟩ => ⟨kvs, h _ z, e, q.step S⟩
  | .ins _ _ _, q => BdR.stepB S h q
/-- to a state in which only the objects of M are others: M owned or cells -/
theorem Rl.move {ρ : Env} {μ : Sto} {C : List Addr} {os os' : Os} {σ : St} {H H' : Hp} (R : Rl Φ X ρ μ C os σ H) (S : Stp (rc Φ X C os H) (rc Φ X C os' H')) (M : Addr → Prop)
    (same : ∀ b o, ¬ M b → H b = some o → H' b = some o)
    (he : ∀ (j : Nat) t v, ρ[j]? = some (some t) → σ[j]? = some (some v) → EntR Φ (rc Φ X C os H) os j v t → EntR Φ (rc Φ X C os' H') os' j v t)
    (hc : ∀ (n : Nat) a c, C[n]? = some a → μ[n]? = some c → CellR (rc Φ X C os H) a c → CellR (rc Φ X C os' H') a c)
    (own : ∀ i j a, (i, a) ∈ os' → (j, a) ∈ os' → i = j) (fre : ∀ i a, (i, a) ∈ os' → (Φ.H0 a = none ∨ Φ.M0 a) ∧ a ∉ C ∧ ¬ Φ.A0 a ∧ ∃ o, H' a = some o)
    (hM : ∀ b, M b → b ∉ C → Φ.H0 b = none ∨ Φ.M0 b) (live : ∀ b o, H b = some o → ∃ o', H' b = some o') : Rl Φ X ρ μ C os' σ H' where
  len := R.len
  env := fun j t q => by
    obtain ⟨v, h1, h2⟩ := R.env j t q
    exact ⟨v, h1, he j t v q h1 h2⟩
  sto := ⟨R.sto.1, fun n a c h1 h2 => hc n a c h1 h2 (R.sto.2 n a c h1 h2)⟩
  own := own
  fre := fre
  pre := R.pre
  cfr := R.cfr
  cnd := R.cnd
  clv := fun b h => let ⟨o, e⟩ := R.clv b h; live b o e
  frm := fun b o h1 h2 h3 => by
    by_cases hb : M b
    · rcases hM b hb h2 with z | z
      · rw [h1] at z; cases z
      · exact (h3 z).elim
    · exact same b o hb (R.frm b o h1 h2 h3)
  alv := fun b h => let ⟨o, e⟩ := R.alv b h; live b o e
theorem stp_add {C : List Addr} {os : Os} {H : Hp} {p : Addr} {o : HO} {i : Option Nat} (n : H p = none) : Stp (rc Φ X C os H) (rc Φ X C ((i, p) :: os) (upd H p o)) := ⟨rfl, rfl, fun b z => by
    rcases z with z | z | ⟨j, z⟩
    · exact .inl (.inl z)
    · exact .inl (.inr (.inl z))
    · rcases List.mem_cons.mp z with e | z
      · cases e; exact .inr n
      · exact .inl (.inr (.inr ⟨j, z⟩)), ⟨[], by simp [rcK]⟩, fun b u h _ => Grow.upd n b u h, fun b u h => ⟨u, Grow.upd n b u h⟩, fun b z => List.mem_cons_of_mem _ z, fun b u h _ => Grow.upd n b u h⟩
/-- a new object for slot i -/
theorem Rl.add {ρ : Env} {μ : Sto} {C : List Addr} {os : Os} {σ : St} {H : Hp} {p : Addr} {o : HO} (i : Option Nat) (R : Rl Φ X ρ μ C os σ H) (n : H p = none) : Rl Φ X ρ μ C ((i, p) :: os) σ (upd H p o) := by
  have S : Stp (rc Φ X C os H) (rc Φ X C ((i, p) :: os) (upd H p o)) := stp_add n
  have np : ∀ j, (j, p) ∉ os := fun j z => by
    obtain ⟨_, _, _, u, e⟩ := R.fre j p z
    rw [n] at e; cases e
  refine R.move S (fun _ => False) (fun b u _ h => Grow.upd n b u h) (fun j t v q h1 h2 => ?_) (fun m b c h1 h2 h3 => h3.stepH S (Grow.upd n b)) (fun j k b z1 z2 => ?_) (fun j b z => ?_) (fun _ h => h.elim) fun b u h => ⟨u, Grow.upd n b u h⟩
  · cases t with
    | sh d => exact Rep.step S h2
    | ow d =>
      obtain ⟨b, e1, e2, e3⟩ := h2
      exact ⟨b, e1, List.mem_cons_of_mem _ e2, e3.stepH S (Grow.upd n b)⟩
    | bd c ns ds =>
      obtain ⟨b, e1, e2, e3⟩ := h2
      exact ⟨b, e1, List.mem_cons_of_mem _ e2, BdR.stepB S (Grow.upd n b) e3⟩
    | eh c ns ds =>
      obtain ⟨b, dx, e1, e2, e3⟩ := h2
      exact ⟨b, dx, e1, e2, e3.step S⟩
  · rcases List.mem_cons.mp z1 with e1 | z1 <;> rcases List.mem_cons.mp z2 with e2 | z2
    · cases e1; cases e2; rfl
    · cases e1; exact (np _ z2).elim
    · cases e2; exact (np _ z1).elim
    · exact R.own j k b z1 z2
  · rcases List.mem_cons.mp z with e | z
    · cases e
      refine ⟨?_, fun hC => ?_, fun hA => ?_, ⟨o, upd_same⟩⟩
      · cases h0 : Φ.H0 p with
        | none => exact .inl rfl
        | some u =>
          refine .inr (Classical.byContradiction fun hm => ?_)
          have hC : p ∉ C := fun hC => by
            obtain ⟨u', e'⟩ := R.clv p hC
            rw [n] at e'; cases e'
          rw [R.frm p u h0 hC hm] at n
          cases n
      · obtain ⟨u', e'⟩ := R.clv p hC
        rw [n] at e'; cases e'
      · obtain ⟨u', e'⟩ := R.alv p (.inl hA)
        rw [n] at e'; cases e'
    · obtain ⟨h1, h2, h3, u, h4⟩ := R.fre j b z
      exact ⟨h1, h2, h3, u, Grow.upd n b u h4⟩
theorem PostF.bndA {i : Nat} {C : List Addr} {os : Os} {σ : St} {H : Hp} {f : Mo (List D)} {g : List D → Mo D} {ρ : Env} {μ : Sto} {Q : VK} {Q1 : List V → Hp → Prop} (h : PostF Φ X i C os σ H (bnd f g ρ μ) Q)
    (k : ∀ d ρ1 μ1 v H1 C1 os1, Rl Φ X ρ1 μ1 C1 os1 σ H1 → Stp (rc Φ X C os H) (rc Φ X C1 os1 H1) → Reps (rc Φ X C1 os1 H1) v d → PostF Φ X i C1 os1 σ H1 (g d ρ1 μ1) Q → Q1 v H1) : PostA Φ X C os σ H (f ρ μ) Q1 := by
  unfold bnd at h
  cases e : f ρ μ with
  | ok d ρ1 μ1 =>
    rw [e] at h
    refine fun v H1 C1 os1 R S q => k d ρ1 μ1 v H1 C1 os1 R S q ?_
    have h : PostF Φ X i C os σ H (g d ρ1 μ1) Q := h
    cases e2 : g d ρ1 μ1 with
    | ok d2 ρ2 μ2 => rw [e2] at h; exact fun a H' C' os' R' T w => h a H' C' os' R' (S.trans T) w
    | ex c ns ds ρ2 μ2 => rw [e2] at h; exact fun Cc dx H' C' os' R' T g e => h Cc dx H' C' os' R' (S.trans T) g e
    | no => rw [e2] at h; exact h
  | ex c ns ds ρ1 μ1 => rw [e] at h; exact h
  | no => rw [e] at h; exact h
theorem lift_okF {i : Nat} {ρ : Env} {μ : Sto} {C : List Addr} {os : Os} {σ : St} {H : Hp} {o : Option D} {Q : VK} (R : Rl Φ X ρ μ C os σ H) (p : PostF Φ X i C os σ H (lift o ρ μ) Q) :
    ∃ d, o = some d ∧ ∀ a u, H a = none → NewR (rc Φ X C os H) u d → Q (.ref a) (upd H a u) := by
  cases o with
  | none => exact p.elim
  | some d => exact ⟨d, rfl, fun a u n w => p a _ C os (R.add (some i) n) (stp_add n) (w.own (stp_add n) upd_same)⟩
variable {fa : Mo (List D)} {es : List Expr}
theorem df_lst {i : Nat} (h : DA Φ X es fa) : DF Φ X i (.List es pos) (lstM fa) := PE.imp (pe_lst h) fun σ H Q ⟨ρ, μ, C, os, R, z⟩ =>
  ⟨ρ, μ, C, os, R, PostF.bndA z fun ds ρ1 μ1 vs H1 C1 os1 R1 S1 q1 z1 => by
    obtain ⟨d, e, k⟩ := lift_okF R1 z1
    unfold mkL at e
    split at e
    · rename_i hl
      cases e
      exact ⟨by rw [q1.length, line_eq]; exact hl, fun p n => k _ _ n ⟨_, rfl, q1⟩⟩
    · cases e⟩
def setF (i : Nat) (f : Mo D) : Mo Fl := bnd f fun d => put i (.ow d)
theorem ds_setF {i : Nat} {x : Str} {pos' : Pos} (hN : X.N.Nodup) (he : DF Φ X i e f) (hi : X.N[i]? = some x := by rfl) (hx : Loc X.env.scope x := by first | exact Or.inl rfl | exact Or.inr rfl)
    (hs : swapsWith e (some (.Name x pos')) pos.line X.env = pure false := by rfl) (hf : X.fn x = true ∨ X.env.scope.names.lookup x = some .local := by first | exact .inl rfl | exact .inr rfl) :
    DS Φ X (.Assign [.Name x pos'] e pos) (setF i f) := PS.imp (ps_set hN hi hx he hs hf) fun D σ H ⟨ρ, μ, C, os, R, z⟩ => by
  refine ⟨ρ, μ, C, os, R, ?_⟩
  unfold setF bnd at z
  cases e : f ρ μ with
  | no => rw [e] at z; exact z
  | ex c ns ds ρ1 μ1 => rw [e] at z; exact fun Cc dx H' C' os' R S g e => z Cc dx σ H' C' os' R S g e
  | ok d ρ1 μ1 =>
    rw [e] at z
    exact fun a H1 C1 os1 R1 S1 w => z _ _ C1 _ (R1.setv (t := .ow d) ⟨a, rfl, List.mem_cons_self, w⟩) S1
end
end L2.DL

/-! DL7: owned lists and cells changed; for, while. -/
namespace L2.DL
open PySem PySem.Spec PyProof.Rows
section
variable {Φ : Ctx} {X : Cx} {a b c e : Expr} {f g k : Mo D} {pos : Pos}
theorem stp_mut {C : List Addr} {os : Os} {H : Hp} {p : Addr} {o o0 : HO} (h : H p = some o0) (hA : AA Φ C os p) (hB : (none, p) ∉ os) : Stp (rc Φ X C os H) (rc Φ X C os (upd H p o)) :=
  ⟨rfl, rfl, fun b z => .inl z, ⟨[], by simp [rcK]⟩, fun b u z n => by
    have nb : b ≠ p := fun e => n (by rw [e]; exact hA)
    show upd H p o b = some u
    rw [upd_ne nb]; exact z, fun b u z => by
    by_cases hb : b = p
    · exact ⟨o, by rw [hb]; exact upd_same⟩
    · exact ⟨u, by
        show upd H p o b = some u
        rw [upd_ne hb]; exact z⟩, fun b z => z, fun b u z w => by
    have nb : b ≠ p := fun e => hB (by rw [← e]; exact w)
    show upd H p o b = some u
    rw [upd_ne nb]; exact z⟩
theorem Rl.notB {ρ : Env} {μ : Sto} {C : List Addr} {os : Os} {σ : St} {H : Hp} {i : Nat} {p : Addr} (R : Rl Φ X ρ μ C os σ H) (h : (some i, p) ∈ os ∨ p ∈ C) : (none, p) ∉ os := fun z => by
  rcases h with h | h
  · have q := R.own none (some i) p z h
    cases q
  · exact (R.fre _ _ z).2.1 h
theorem Rl.forget {ρ : Env} {μ : Sto} {C : List Addr} {os : Os} {σ : St} {H : Hp} (i : Nat) (R : Rl Φ X ρ μ C os σ H) : Rl Φ X (ρ.set i none) μ C os σ H where
  len := by rw [List.length_set]; exact R.len
  env := fun j t q => by
    by_cases hj : i = j
    · subst hj
      by_cases hl : i < ρ.length
      · rw [List.getElem?_set_self hl] at q; cases q
      · rw [List.getElem?_eq_none (by rw [List.length_set]; omega)] at q; cases q
    · rw [List.getElem?_set_ne hj] at q
      exact R.env j t q
  sto := R.sto
  own := R.own
  fre := R.fre
  pre := R.pre
  cfr := R.cfr
  cnd := R.cnd
  clv := R.clv
  frm := R.frm
  alv := R.alv
theorem Rl.sete {ρ : Env} {μ : Sto} {C : List Addr} {os : Os} {σ : St} {H : Hp} {i : Nat} {v : V} {t : Ent} (R : Rl Φ X ρ μ C os σ H) (hv : σ[i]? = some (some v)) (h : EntR Φ (rc Φ X C os H) os i v t) : Rl Φ X (ρ.set i (some t)) μ C os σ H := by
  have q := R.setv (i := i) (v := v) h
  have e : σ.set i (some v) = σ := by
    apply List.ext_getElem?
    intro j
    by_cases hj : i = j
    · subst hj
      rw [List.getElem?_set_self (List.getElem?_eq_some_iff.mp hv).1, hv]
    · rw [List.getElem?_set_ne hj]
  rw [e] at q
  exact q
/-- an owned object changed -/
theorem Rl.mutO {ρ : Env} {μ : Sto} {C : List Addr} {os : Os} {σ : St} {H : Hp} {i : Nat} {p : Addr} {t : Ent} {o : HO} (R : Rl Φ X ρ μ C os σ H) (hv : σ[i]? = some (some (.ref p))) (hm : (some i, p) ∈ os)
    (h : EntR Φ (rc Φ X C os (upd H p o)) os i (.ref p) t) : Rl Φ X (ρ.set i (some t)) μ C os σ (upd H p o) ∧ Stp (rc Φ X C os H) (rc Φ X C os (upd H p o)) := by
  obtain ⟨f1, f2, f3, o0, h0⟩ := R.fre _ p hm
  have S : Stp (rc Φ X C os H) (rc Φ X C os (upd H p o)) := stp_mut h0 (.inr (.inr ⟨_, hm⟩)) (R.notB (.inl hm))
  have ne : ∀ {b : Addr} {u : HO}, b ≠ p → H b = some u → upd H p o b = some u := fun nb z => by rw [upd_ne nb]; exact z
  have R1 : Rl Φ X (ρ.set i none) μ C os σ (upd H p o) := by
    refine (R.forget i).move S (fun b => b = p) (fun b u nb z => ne nb z) (fun j t v q h1 h2 => ?_) (fun m b c h1 h2 h3 => ?_) R.own (fun j b z => ?_) (fun b e _ => by rw [e]; exact f1) S.l
    · have hj : j ≠ i := fun e => by
        subst e
        by_cases hl : j < ρ.length
        · rw [List.getElem?_set_self hl] at q; cases q
        · rw [List.getElem?_eq_none (by rw [List.length_set]; omega)] at q; cases q
      cases t with
      | sh d => exact Rep.step S h2
      | ow d =>
        obtain ⟨b, e1, e2, e3⟩ := h2
        exact ⟨b, e1, e2, e3.stepH S fun u z => ne (fun e => hj (Option.some.inj (R.own (some j) (some i) p (e ▸ e2) hm))) z⟩
      | bd c ns ds =>
        obtain ⟨b, e1, e2, e3⟩ := h2
        exact ⟨b, e1, e2, BdR.stepB S (fun u z => ne (fun e => hj (Option.some.inj (R.own (some j) (some i) p (e ▸ e2) hm))) z) e3⟩
      | eh c ns ds =>
        obtain ⟨b, dx, e1, e2, e3⟩ := h2
        exact ⟨b, dx, e1, e2, e3.step S⟩
    · exact h3.stepH S fun u z => ne (fun e => f2 (e ▸ List.mem_of_getElem? h1)) z
    · obtain ⟨h1, h2, h3, u, h4⟩ := R.fre j b z
      exact ⟨h1, h2, h3, S.l b u h4⟩
  have R2 := R1.sete hv h
  rw [List.set_set] at R2
  exact ⟨R2, S⟩
/-- a cell changed -/
theorem Rl.mutC {ρ : Env} {μ : Sto} {C : List Addr} {os : Os} {σ : St} {H : Hp} {n : Nat} {p : Addr} {c : Cell} {o : HO} (R : Rl Φ X ρ μ C os σ H) (hp : C[n]? = some p) (h : CellR (rc Φ X C os (upd H p o)) p c) :
    Rl Φ X ρ (μ.set n c) C os σ (upd H p o) ∧ Stp (rc Φ X C os H) (rc Φ X C os (upd H p o)) := by
  have hC : p ∈ C := List.mem_of_getElem? hp
  obtain ⟨o0, h0⟩ := R.clv p hC
  have S : Stp (rc Φ X C os H) (rc Φ X C os (upd H p o)) := stp_mut h0 (.inr (.inl hC)) (R.notB (i := 0) (.inr hC))
  have ne : ∀ {b : Addr} {u : HO}, b ≠ p → H b = some u → upd H p o b = some u := fun nb z => by rw [upd_ne nb]; exact z
  have nos : ∀ {j : Option Nat} {b : Addr}, (j, b) ∈ os → b ≠ p := fun z e => (R.fre _ _ z).2.1 (e ▸ hC)
  refine ⟨⟨R.len, fun j t q => ?_, ⟨by rw [List.length_set]; exact R.sto.1, fun m b c' h1 h2 => ?_⟩, R.own, fun j b z => ?_, R.pre, R.cfr, R.cnd, fun b z => let ⟨u, e⟩ := R.clv b z; S.l b u e, fun b u h1 h2 h3 => ne (fun e => h2 (e ▸ hC)) (R.frm b u h1 h2 h3),
    fun b z => let ⟨u, e⟩ := R.alv b z; S.l b u e⟩, S⟩
  · obtain ⟨v, h1, h2⟩ := R.env j t q
    refine ⟨v, h1, ?_⟩
    cases t with
    | sh d => exact Rep.step S h2
    | ow d =>
      obtain ⟨b, e1, e2, e3⟩ := h2
      exact ⟨b, e1, e2, e3.stepH S fun u z => ne (nos e2) z⟩
    | bd c ns ds =>
      obtain ⟨b, e1, e2, e3⟩ := h2
      exact ⟨b, e1, e2, BdR.stepB S (fun u z => ne (nos e2) z) e3⟩
    | eh c ns ds =>
      obtain ⟨b, dx, e1, e2, e3⟩ := h2
      exact ⟨b, dx, e1, e2, e3.step S⟩
  · by_cases hm : n = m
    · subst hm
      have hl : n < μ.length := by
        have := (List.getElem?_eq_some_iff.mp h2).1
        rwa [List.length_set] at this
      rw [List.getElem?_set_self hl] at h2
      cases h2
      have e : b = p := Option.some.inj (h1.symm.trans hp)
      rw [e]; exact h
    · rw [List.getElem?_set_ne hm] at h2
      refine (R.sto.2 m b c' h1 h2).stepH S fun u z => ne (fun e => hm ?_) z
      exact (List.getElem_inj R.cnd).mp ((List.getElem?_eq_some_iff.mp hp).2.trans ((List.getElem?_eq_some_iff.mp h1).2.trans e).symm)
  · obtain ⟨h1, h2, h3, u, h4⟩ := R.fre j b z
    exact ⟨h1, h2, h3, S.l b u h4⟩

/-! ### a list that a name holds, changed -/
/-- the list at slot i (owned, or a cell's) -/
def lstAt (i : Nat) (ρ : Env) (μ : Sto) : Option (List D) := match ρ[i]? with
  | some (some (.ow (.lst ds))) => some ds
  | some (some (.sh (.cell n))) => match μ[n]? with
    | some (.lst ds) => some ds
    | _ => none
  | _ => none
def lstPut (i : Nat) (ds : List D) : Mo Fl := fun ρ μ => match ρ[i]? with
  | some (some (.ow (.lst _))) => .ok .nx (ρ.set i (some (.ow (.lst ds)))) μ
  | some (some (.sh (.cell n))) => .ok .nx ρ (μ.set n (.lst ds))
  | _ => .no
/-- h: what becomes of the list -/
def lstUp (i : Nat) (h : List D → Option (List D)) : Mo Fl := fun ρ μ => match lstAt i ρ μ with
  | some ds => match h ds with
    | some es => lstPut i es ρ μ
    | none => .no
  | none => .no
def isLst (i : Nat) : Mo Unit := fun ρ μ => match lstAt i ρ μ with
  | some _ => .ok () ρ μ
  | none => .no
theorem lstAt_ok {ρ : Env} {μ : Sto} {C : List Addr} {os : Os} {σ : St} {H : Hp} {i : Nat} {ds : List D} (R : Rl Φ X ρ μ C os σ H) (h : lstAt i ρ μ = some ds) : ∃ p vs, σ[i]? = some (some (.ref p)) ∧ H p = some (.lst vs) ∧ Reps (rc Φ X C os H) vs ds ∧ AA Φ C os p ∧
    ∀ (ws : List V) (es : List D), Reps (rc Φ X C os H) ws es → ∃ ρ' μ', lstPut i es ρ μ = .ok .nx ρ' μ' ∧ Rl Φ X ρ' μ' C os σ (upd H p (.lst ws)) ∧ Stp (rc Φ X C os H) (rc Φ X C os (upd H p (.lst ws))) := by
  unfold lstAt at h
  cases q : ρ[i]? with
  | none => rw [q] at h; cases h
  | some o =>
    cases o with
    | none => rw [q] at h; cases h
    | some t =>
      obtain ⟨v, h1, h2⟩ := R.env i _ q
      cases t with
      | ow d =>
        cases d with
        | lst ds' =>
          rw [q] at h
          cases h
          obtain ⟨p, rfl, hm, vs, hp, qs⟩ := h2
          refine ⟨p, vs, h1, hp, qs, .inr (.inr ⟨_, hm⟩), fun ws es hq => ?_⟩
          have S : Stp (rc Φ X C os H) (rc Φ X C os (upd H p (.lst ws))) := stp_mut hp (.inr (.inr ⟨_, hm⟩)) (R.notB (.inl hm))
          have z := R.mutO (t := .ow (.lst es)) (o := .lst ws) h1 hm ⟨p, rfl, hm, ws, upd_same, hq.step S⟩
          exact ⟨_, _, by unfold lstPut; rw [q], z.1, z.2⟩
        | _ => rw [q] at h; cases h
      | sh d =>
        cases d with
        | cell n =>
          rw [q] at h
          cases q2 : μ[n]? with
          | none => simp only [q2] at h; cases h
          | some c =>
            simp only [q2] at h
            cases c with
            | lst ds' =>
              cases h
              cases h2 with
              | @cell p _ hc =>
                obtain ⟨vs, hp, qs⟩ := cell_at R hc q2
                refine ⟨p, vs, h1, hp, qs, .inr (.inl (List.mem_of_getElem? hc)), fun ws es hq => ?_⟩
                have S : Stp (rc Φ X C os H) (rc Φ X C os (upd H p (.lst ws))) := stp_mut hp (.inr (.inl (List.mem_of_getElem? hc))) (R.notB (i := 0) (.inr (List.mem_of_getElem? hc)))
                have z := R.mutC (c := .lst es) (o := .lst ws) hc ⟨ws, upd_same, hq.step S⟩
                exact ⟨_, _, by unfold lstPut; rw [q], z.1, z.2⟩
            | _ => cases h
        | _ => rw [q] at h; cases h
      | bd c ns ds => rw [q] at h; cases h
      | eh c ns ds => rw [q] at h; cases h
theorem lstUp_ok {ρ : Env} {μ : Sto} {C : List Addr} {os : Os} {σ : St} {H : Hp} {i : Nat} {h : List D → Option (List D)} {E : Ends} (R : Rl Φ X ρ μ C os σ H) (z : PostS Φ X C os H (lstUp i h ρ μ) E) :
    ∃ p vs ds es, σ[i]? = some (some (.ref p)) ∧ H p = some (.lst vs) ∧ Reps (rc Φ X C os H) vs ds ∧ h ds = some es ∧ ∀ ws, Reps (rc Φ X C os H) ws es → E.nx σ (upd H p (.lst ws)) := by
  unfold lstUp at z
  cases e : lstAt i ρ μ with
  | none => rw [e] at z; exact z.elim
  | some ds =>
    rw [e] at z
    cases e2 : h ds with
    | none => simp only [e2] at z; exact z.elim
    | some es =>
      simp only [e2] at z
      obtain ⟨p, vs, h1, h2, h3, _, k⟩ := lstAt_ok R e
      refine ⟨p, vs, ds, es, h1, h2, h3, e2, fun ws hq => ?_⟩
      obtain ⟨ρ', μ', e3, R', S⟩ := k ws es hq
      rw [e3] at z
      exact z σ _ C os R' S
theorem isLst_ok {ρ : Env} {μ : Sto} {C : List Addr} {os : Os} {σ : St} {H : Hp} {i : Nat} {g : Mo Fl} {E : Ends} (R : Rl Φ X ρ μ C os σ H) (z : PostS Φ X C os H (bnd (isLst i) (fun _ => g) ρ μ) E) :
    ∃ p vs, σ[i]? = some (some (.ref p)) ∧ H p = some (.lst vs) ∧ PostS Φ X C os H (g ρ μ) E := by
  unfold bnd isLst at z
  cases e : lstAt i ρ μ with
  | none => rw [e] at z; exact z.elim
  | some ds =>
    rw [e] at z
    obtain ⟨p, vs, h1, h2, _⟩ := lstAt_ok R e
    exact ⟨p, vs, h1, h2, z⟩
def apnM (i : Nat) (f : Mo D) : Mo Fl := bnd (isLst i) fun _ => bnd f fun d => lstUp i fun ds => if ds.length < lineN then some (ds ++ [d]) else none
theorem ds_apn {i : Nat} {x : Str} {p1 p2 cpos : Pos} (he : DE Φ X e f) (hN : X.N[i]? = some x := by rfl) (hv : Vis X.env.scope x := by first | exact Or.inl rfl | exact Or.inr (Or.inl rfl) | exact Or.inr (Or.inr rfl)) (hd : (x == ("__debug__" : Str)) = false := by decide)
    (hcd : (x == ("__classdict__" : Str)) = false := by decide) (hs : swapsWith (.Call (.Attribute (.Name x p1) "append" p2) [e] [] cpos) none pos.line X.env = pure false := by rfl)
    (hst : starEach [e] X.env = (false, eval e X.env) :: starEach [] X.env := by rfl) (hbase : attributeBase (.Name x p1) "append" X.env (eval (.Name x p1) X.env) = eval (.Name x p1) X.env := by rfl)
    (hfew : ((backTo cpos (starEach [e] X.env)).all (fun y => !y.1) && (backToKw cpos (keywordEach [] X.env)).all (fun y => y.1.isSome) && decide ([e].length + ([] : List Keyword).length + (if ([] : List Keyword).isEmpty then 0 else 1) < 30)) = true := by rfl)
    (hline : (p2.endLine == cpos.line) = true := by rfl) (hpl : (backTo cpos (starEach [] X.env)).any (·.1) = false := by rfl) : DS Φ X (.Expr (.Call (.Attribute (.Name x p1) "append" p2) [e] [] cpos) pos) (apnM i f) :=
  PS.imp (ps_expr (pe_bm PySem.F.plainAttrs_list PySem.F.slot_list_append PySem.F.type_list_append mt_append (pe_var hN hv hd hcd) (pa_cons he pa_nil hst) hbase hfew hline hst hpl) hs) fun D σ H ⟨ρ, μ, C, os, R, z⟩ => by
    obtain ⟨p, vs, h1, h2, z1⟩ := isLst_ok R z
    refine ⟨_, h1, .inl ⟨rfl, vs, .of h2⟩, ρ, μ, C, os, R, PostS.bndE z1 fun d ρ1 μ1 v H1 C1 os1 R1 S1 q1 z2 => ?_⟩
    obtain ⟨p', vs', ds, es, h3, h4, h5, h6, k⟩ := lstUp_ok R1 z2
    rw [h1] at h3; cases h3
    split at h6
    · rename_i hl
      cases h6
      exact ⟨p, vs', v, rfl, rfl, h4, by rw [h5.length, line_eq]; exact hl, k _ (h5.append (.one q1))⟩
    · cases h6
/-- x[j] = e -/
def stiM (i : Nat) (f g : Mo D) : Mo Fl := bnd f fun d => bnd (isLst i) fun _ => bnd g fun j => lstUp i fun ds => match j with
  | .int n => (ixN ds.length n).map fun m => ds.set m d
  | _ => none
theorem ds_sti {i : Nat} {x : Str} {p1 p2 : Pos} (he : DE Φ X e f) (hj : DE Φ X b g) (hN : X.N[i]? = some x := by rfl) (hv : Vis X.env.scope x := by first | exact Or.inl rfl | exact Or.inr (Or.inl rfl) | exact Or.inr (Or.inr rfl))
    (hd : (x == ("__debug__" : Str)) = false := by decide) (hcd : (x == ("__classdict__" : Str)) = false := by decide)
    (ha : ∀ v, assign (.Subscript (.Name x p1) b p2) X.env v = (do
      let ov ← holding [v] (eval (.Name x p1) X.env)
      let iv ← holding [v, ov] (eval b X.env)
      standAt p2
      holding [v, ov, iv] (setItem ov iv v)
      release [v, ov, iv] []) := by intro _; rfl)
    (hs : swapsWithSole [.Subscript (.Name x p1) b p2] e pos.line X.env = pure false := by rfl) (hw : swappedStores [.Subscript (.Name x p1) b p2] e X.env = pure none := by rfl) (h1 : (assignEach [.Subscript (.Name x p1) b p2] X.env).map (·.2) = [assign (.Subscript (.Name x p1) b p2) X.env] := by rfl) :
    DS Φ X (.Assign [.Subscript (.Name x p1) b p2] e pos) (stiM i f g) :=
  PS.imp (ps_asg he (pg_sub (pe_var hN hv hd hcd) hj set_list ha) hs hw h1) fun D σ H ⟨ρ, μ, C, os, R, z⟩ =>
    ⟨ρ, μ, C, os, R, PostS.bndE z fun d ρ1 μ1 v H1 C1 os1 R1 S1 q1 z1 => by
      obtain ⟨p, vs, h1, h2, z2⟩ := isLst_ok R1 z1
      refine ⟨_, h1, ρ1, μ1, C1, os1, R1, PostS.bndE z2 fun j ρ2 μ2 w H2 C2 os2 R2 S2 q2 z3 => ?_⟩
      obtain ⟨p', vs', ds, es, h3, h4, h5, h6, k⟩ := lstUp_ok R2 z3
      rw [h1] at h3; cases h3
      cases q2 with
      | int n =>
        obtain ⟨m, h7, rfl⟩ := Option.map_eq_some_iff.mp h6
        exact ⟨p, vs', n, m, rfl, rfl, h4, by rw [h5.length]; exact h7, k _ (Reps.set (q1.step S2) m h5)⟩
      | _ => cases h6⟩
end
end L2.DL

/-! DL8: targets, what is walked, for, while, list comprehensions. -/
namespace L2.DL
open PySem PySem.Spec PyProof.Rows
section
variable {Φ : Ctx} {X : Cx} {a b c e : Expr} {f g k : Mo D} {pos : Pos}
/-- what a walk yields: a value, or a pair that is unpacked at once -/
def RepU (r : RC) (v : V) (d : D) : Prop := Rep r v d ∨ ∃ a vs ds, v = .ref a ∧ d = .tup ds ∧ r.H a = some (.tup vs) ∧ ¬ r.A a ∧ Reps r vs ds
abbrev Vr := RC → V → D → Prop
/-! ### targets -/
def PostG (Φ : Ctx) (X : Cx) (C : List Addr) (os : Os) (H : Hp) (o : O Unit) (Q : St → Hp → Prop) : Prop := match o with
  | .ok _ ρ' μ' => ∀ σ' H' C' os', Rl Φ X ρ' μ' C' os' σ' H' → Stp (rc Φ X C os H) (rc Φ X C' os' H') → Q σ' H'
  | _ => False
def cG (U : Vr) (Φ : Ctx) (X : Cx) (g : D → Mo Unit) : TG := fun v σ H Q => ∃ ρ μ C os d, Rl Φ X ρ μ C os σ H ∧ U (rc Φ X C os H) v d ∧ PostG Φ X C os H (g d ρ μ) Q
def cGs (Φ : Ctx) (X : Cx) (g : List D → Mo Unit) : TGs := fun vs σ H Q => ∃ ρ μ C os ds, Rl Φ X ρ μ C os σ H ∧ Reps (rc Φ X C os H) vs ds ∧ PostG Φ X C os H (g ds ρ μ) Q
def DG (U : Vr) (Φ : Ctx) (X : Cx) (tg : Expr) (g : D → Mo Unit) : Prop := PG X tg (cG U Φ X g)
def DGs (Φ : Ctx) (X : Cx) (tgs : List Expr) (g : List D → Mo Unit) : Prop := PGs X tgs (cGs Φ X g)
theorem PG.imp {tg : Expr} {t t' : TG} (h : PG X tg t) (i : ∀ v σ H Q, t' v σ H Q → t v σ H Q) : PG X tg t' := ⟨fun pins s σ H v u Q I r q => h.run pins s σ H v u Q I r (i v σ H Q q)⟩
theorem PGs.imp {tgs : List Expr} {t t' : TGs} (h : PGs X tgs t) (i : ∀ v σ H Q, t' v σ H Q → t v σ H Q) : PGs X tgs t' := ⟨fun pins s σ H v u Q I r q => h.run pins s σ H v u Q I r (i v σ H Q q)⟩
theorem PostG.from {C C1 : List Addr} {os os1 : Os} {H H1 : Hp} {o : O Unit} {Q : St → Hp → Prop} (S : Stp (rc Φ X C os H) (rc Φ X C1 os1 H1)) (h : PostG Φ X C os H o Q) : PostG Φ X C1 os1 H1 o Q := by
  cases o with
  | ok d ρ' μ' => exact fun σ' H' C' os' R T => h σ' H' C' os' R (S.trans T)
  | ex c ns ds ρ' μ' => exact h
  | no => exact h
def tgN (i : Nat) (d : D) : Mo Unit := fun ρ μ => .ok () (ρ.set i (some (.sh d))) μ
def tgT (n : Nat) (g : List D → Mo Unit) : D → Mo Unit
  | .tup ds => if ds.length = n then g ds else no
  | _ => no
def tgNil : List D → Mo Unit
  | [] => ret ()
  | _ => no
def tgCons (g : D → Mo Unit) (gs : List D → Mo Unit) : List D → Mo Unit
  | d :: ds => bnd (g d) fun _ => gs ds
  | [] => no
theorem dg_name {i : Nat} {x : Str} (hN : X.N.Nodup) (hi : X.N[i]? = some x := by rfl) (hx : Loc X.env.scope x := by first | exact Or.inl rfl | exact Or.inr rfl) (hf : X.fn x = true ∨ X.env.scope.names.lookup x = some .local := by first | exact .inl rfl | exact .inr rfl) :
    DG Rep Φ X (.Name x pos) (tgN i) := PG.imp (pg_name hN hi hx hf) fun v σ H Q ⟨ρ, μ, C, os, d, R, q, z⟩ => z _ _ C os (R.setv (t := .sh d) q) (Stp.refl _)
theorem dgs_nil : DGs Φ X [] tgNil := PGs.imp pgs_nil fun vs σ H Q ⟨ρ, μ, C, os, ds, R, q, z⟩ => by
  cases q with
  | nil => exact ⟨rfl, z _ _ C os R (Stp.refl _)⟩
  | cons h t => exact z.elim
theorem dgs_cons {e : Expr} {es : List Expr} {g : D → Mo Unit} {gs : List D → Mo Unit} (h1 : DG Rep Φ X e g) (h2 : DGs Φ X es gs) (hs : (assignEach (e :: es) X.env).map (·.2) = assign e X.env :: (assignEach es X.env).map (·.2) := by rfl) : DGs Φ X (e :: es) (tgCons g gs) :=
  PGs.imp (pgs_cons h1 h2 hs) fun vs σ H Q ⟨ρ, μ, C, os, ds, R, q, z⟩ => by
    cases q with
    | nil => exact z.elim
    | @cons v d vs ds h t =>
      refine ⟨v, vs, rfl, ρ, μ, C, os, d, R, h, ?_⟩
      have z : PostG Φ X C os H (bnd (g d) (fun _ => gs ds) ρ μ) Q := z
      unfold bnd at z
      cases e1 : g d ρ μ with
      | no => rw [e1] at z; exact z.elim
      | ex c ns ds ρ1 μ1 => rw [e1] at z; exact z.elim
      | ok u ρ1 μ1 =>
        rw [e1] at z
        exact fun σ1 H1 C1 os1 R1 S1 => ⟨ρ1, μ1, C1, os1, ds, R1, t.step S1, PostG.from S1 z⟩
theorem dg_tup {es : List Expr} {n : Nat} {m : Nat} {gs : List D → Mo Unit} (hc : X.calm = true) (h : DGs Φ X es gs) (hn : (assignEach es X.env).length = n := by rfl) (hst : (assignEach es X.env).findIdx? (·.1) = none := by rfl) :
    DG RepU Φ X (.Tuple es m pos) (tgT n gs) := PG.imp (pg_tup hc h hn hst) fun v σ H Q ⟨ρ, μ, C, os, d, R, q, z⟩ => by
  have fin : ∀ {a : Addr} {vs : List V} {ds : List D}, SqT X.K H a vs → Reps (rc Φ X C os H) vs ds → PostG Φ X C os H ((if ds.length = n then gs ds else no) ρ μ) Q → gTup X.K n (cGs Φ X gs) (.ref a) σ H Q := fun {a vs ds} hT qs z => by
    by_cases hl : ds.length = n
    · rw [if_pos hl] at z
      exact ⟨a, vs, rfl, hT, by rw [qs.length]; exact hl, ρ, μ, C, os, ds, R, qs, z⟩
    · rw [if_neg hl] at z
      exact z.elim
  rcases q with q | ⟨a, vs, ds, rfl, rfl, hH, _, qs⟩
  · cases q with
    | @tup a vs ds hT qs => exact fin hT.sq qs z
    | _ => exact z.elim
  · exact fin (.of hH) qs z
theorem DG.rep {tg : Expr} {g : D → Mo Unit} (h : DG RepU Φ X tg g) : DG Rep Φ X tg g := PG.imp h fun v σ H Q ⟨ρ, μ, C, os, d, R, q, z⟩ => ⟨ρ, μ, C, os, d, R, .inl q, z⟩
/-- a, b = e with any targets -/
def asgM (f : Mo D) (g : D → Mo Unit) : Mo Fl := bnd f fun d => bnd (g d) fun _ => ret .nx
theorem PostG_nx {C : List Addr} {os : Os} {H : Hp} {g : Mo Unit} {ρ : Env} {μ : Sto} {E : Ends} (z : PostS Φ X C os H (bnd g (fun _ => ret .nx) ρ μ) E) (hx : ∀ c ns ds ρ' μ', g ρ μ ≠ .ex c ns ds ρ' μ') : PostG Φ X C os H (g ρ μ) E.nx := by
  unfold bnd at z
  cases e : g ρ μ with
  | no => rw [e] at z; exact z
  | ex c ns ds ρ1 μ1 => exact (hx _ _ _ _ _ e).elim
  | ok u ρ1 μ1 => rw [e] at z; exact fun σ' H' C' os' R S => z σ' H' C' os' R S
/-- a target's store raises nothing -/
def NoEx (g : D → Mo Unit) : Prop := ∀ d ρ μ c ns ds ρ' μ', g d ρ μ ≠ .ex c ns ds ρ' μ'
theorem ds_asg {tg : Expr} {g : D → Mo Unit} (he : DE Φ X e f) (hg : DG Rep Φ X tg g) (hx : NoEx g) (hs : swapsWithSole [tg] e pos.line X.env = pure false := by rfl) (hw : swappedStores [tg] e X.env = pure none := by rfl)
    (h1 : (assignEach [tg] X.env).map (·.2) = [assign tg X.env] := by rfl) : DS Φ X (.Assign [tg] e pos) (asgM f g) := PS.imp (ps_asg he hg hs hw h1) fun D σ H ⟨ρ, μ, C, os, R, z⟩ =>
  ⟨ρ, μ, C, os, R, PostS.bndE z fun d ρ1 μ1 v H1 C1 os1 R1 S1 q1 z1 => ⟨ρ1, μ1, C1, os1, d, R1, q1, PostG_nx z1 (hx d ρ1 μ1)⟩⟩

/-! ### what is walked -/
structure ItOk (U : Vr) (J : It) (r : RC) (ds : List D) : Prop where
  go : ∀ (i : Nat) r', Stq r r' → i < ds.length → J.go i r'.H
  yl : ∀ (i : Nat) r' x H' d, Stq r r' → (∀ p, r'.H p = none → ¬ r'.A p) → ds[i]? = some d → J.yld i r'.H x H' → Grow r'.H H' ∧ U (r'.at H') x d
  st : ∀ r', Stq r r' → J.stop ds.length r'.H
def PostI (U : Vr) (Φ : Ctx) (X : Cx) (C : List Addr) (os : Os) (σ : St) (H : Hp) (o : O (List D)) (R : It → Hp → Prop) : Prop := match o with
  | .ok ds ρ' μ' => ∀ J H' C' os', Rl Φ X ρ' μ' C' os' σ H' → Stp (rc Φ X C os H) (rc Φ X C' os' H') → ItOk U J (rc Φ X C' os' H') ds → R J H'
  | .ex c ns ds ρ' μ' => ∀ Cc dx H' C' os', Rl Φ X ρ' μ' C' os' σ H' → Stp (rc Φ X C os H) (rc Φ X C' os' H') → X.mg c = some (.ref Cc) → EhR (rc Φ X C' os' H') dx c ns ds → Φ.W (.ref Cc) (some dx) σ H'
  | .no => False
def cI (U : Vr) (Φ : Ctx) (X : Cx) (f : Mo (List D)) : TI := fun σ H R => ∃ ρ μ C os, Rl Φ X ρ μ C os σ H ∧ PostI U Φ X C os σ H (f ρ μ) R
def DI (U : Vr) (Φ : Ctx) (X : Cx) (tg e : Expr) (f : Mo (List D)) : Prop := PI X tg e (cI U Φ X f)
theorem PI.imp {tg e : Expr} {t t' : TI} (h : PI X tg e t) (i : ∀ σ H R, t' σ H R → t σ H R) : PI X tg e t' := ⟨fun pins s σ H R I q => h.run pins s σ H R I (i σ H R q)⟩
theorem PI.or {tg e : Expr} {t t' : TI} (h : PI X tg e t) (h' : PI X tg e t') : PI X tg e (fun σ H R => t σ H R ∨ t' σ H R) := ⟨fun pins s σ H R I q => by
  rcases q with q | q
  · exact h.run pins s σ H R I q
  · exact h'.run pins s σ H R I q⟩
theorem PostI.from {U : Vr} {C C1 : List Addr} {os os1 : Os} {σ : St} {H H1 : Hp} {o : O (List D)} {Q : It → Hp → Prop} (S : Stp (rc Φ X C os H) (rc Φ X C1 os1 H1)) (h : PostI U Φ X C os σ H o Q) : PostI U Φ X C1 os1 σ H1 o Q := by
  cases o with
  | ok d ρ' μ' => exact fun J H' C' os' R T q => h J H' C' os' R (S.trans T) q
  | ex c ns ds ρ' μ' => exact fun Cc dx H' C' os' R T g e => h Cc dx H' C' os' R (S.trans T) g e
  | no => exact h
theorem sqL_stp {r r' : RC} (S : Stq r r') {a : Addr} {vs : List V} (h : (r.H a = some (.lst vs) ∧ ¬ r.A a) ∨ r.Lst a vs) : SqL r.K r'.H a vs := by
  rcases h with ⟨h, n⟩ | h
  · exact .inl (.inl (S.h _ _ h n))
  · rw [← S.k]; exact (S.lst h).sq
theorem it_list {r : RC} {a : Addr} {vs : List V} {ds : List D} (h : (r.H a = some (.lst vs) ∧ ¬ r.A a) ∨ r.Lst a vs) (q : Reps r vs ds) : ItOk Rep (Itl r.K a) r ds where
  go := fun i r' S hi => by
    obtain ⟨v, e, _⟩ := q.get (List.getElem?_eq_getElem hi)
    exact ⟨vs, v, sqL_stp S h, e⟩
  yl := fun i r' x H' d S _ e ⟨e1, e2⟩ => by
    subst e1
    obtain ⟨v, e3, e4⟩ := q.get e
    have e5 := e2 vs (sqL_stp S h)
    rw [e3] at e5; cases e5
    exact ⟨Grow.refl _, e4.stq S⟩
  st := fun r' S => ⟨vs, sqL_stp S h, Nat.le_of_eq q.length⟩
theorem it_tup {r : RC} {a : Addr} {vs : List V} {ds : List D} (h : r.Tup a vs) (q : Reps r vs ds) : ItOk Rep (Itt r.K a) r ds where
  go := fun i r' S hi => by
    obtain ⟨v, e, _⟩ := q.get (List.getElem?_eq_getElem hi)
    exact ⟨vs, v, S.k ▸ (S.tup h).sq, e⟩
  yl := fun i r' x H' d S _ e ⟨e1, e2⟩ => by
    subst e1
    obtain ⟨v, e3, e4⟩ := q.get e
    have e5 := e2 vs (S.k ▸ (S.tup h).sq)
    rw [e3] at e5; cases e5
    exact ⟨Grow.refl _, e4.stq S⟩
  st := fun r' S => ⟨vs, S.k ▸ (S.tup h).sq, Nat.le_of_eq q.length⟩
theorem it_range {r : RC} (lo : Int) (n : Nat) : ItOk Rep (Itr lo n) r ((List.range n).map fun k => D.int (lo + (k : Nat))) where
  go := fun i r' S hi => (by simpa using hi : i < n)
  yl := fun i r' x H' d S _ e ⟨e1, e2⟩ => by
    subst e1 e2
    rw [List.getElem?_map] at e
    cases q : (List.range n)[i]? with
    | none => rw [q] at e; cases e
    | some k =>
      rw [q] at e
      cases e
      obtain ⟨h1, h2⟩ := List.getElem?_eq_some_iff.mp q
      rw [List.getElem_range] at h2
      subst h2
      exact ⟨Grow.refl _, .int _⟩
  st := fun r' S => by simp [Itr]
theorem it_str {r : RC} (s : Str) : ItOk Rep (Its s) r (s.cps.toList.map fun c => D.str ⟨#[c]⟩) where
  go := fun i r' S hi => (by simpa using hi : i < s.cps.size)
  yl := fun i r' x H' d S _ e ⟨e1, c, e2, e3⟩ => by
    subst e1 e3
    rw [List.getElem?_map, Array.getElem?_toList, e2] at e
    cases e
    exact ⟨Grow.refl _, .str _⟩
  st := fun r' S => by simp [Its]
def seqD : D → Option (List D)
  | .lst ds | .tup ds | .frz ds => some ds
  | _ => none
def walk (f : Mo D) : Mo (List D) := bnd f fun d => lift (seqD d)
theorem walk_ok {U : Vr} {ρ : Env} {μ : Sto} {C : List Addr} {os : Os} {σ : St} {H : Hp} {R : It → Hp → Prop} {g : D → Option (List D)} (z : PostI U Φ X C os σ H (bnd f (fun d => lift (g d)) ρ μ) R) {Q1 : VK}
    (k : ∀ d ds ρ1 μ1 v H1 C1 os1, f ρ μ = .ok d ρ1 μ1 → g d = some ds → Rl Φ X ρ1 μ1 C1 os1 σ H1 → Stp (rc Φ X C os H) (rc Φ X C1 os1 H1) → Rep (rc Φ X C1 os1 H1) v d → (∀ J, ItOk U J (rc Φ X C1 os1 H1) ds → R J H1) → Q1 v H1) : PostE Φ X C os σ H (f ρ μ) Q1 := by
  unfold bnd at z
  cases e : f ρ μ with
  | no => rw [e] at z; exact z.elim
  | ex c ns ds ρ1 μ1 => rw [e] at z; exact z
  | ok d ρ1 μ1 =>
    rw [e] at z
    intro v H1 C1 os1 R1 S1 q
    cases e2 : g d with
    | none => simp only [lift, e2] at z; exact z.elim
    | some ds =>
      simp only [lift, e2] at z
      exact k d ds ρ1 μ1 v H1 C1 os1 e e2 R1 S1 q fun J hJ => z J H1 C1 os1 R1 S1 hJ
theorem di_seq {tg : Expr} (h : DE Φ X e f) : DI Rep Φ X tg e (walk f) := PI.imp (PI.or (pi_list h) (pi_tup h)) fun σ H R ⟨ρ, μ, C, os, R0, z⟩ => by
  have key : (∃ ds ρ1 μ1, f ρ μ = .ok (.tup ds) ρ1 μ1) ∨ ∀ ds ρ1 μ1, f ρ μ ≠ .ok (.tup ds) ρ1 μ1 := Classical.em _ |>.imp id fun h ds ρ1 μ1 e => h ⟨ds, ρ1, μ1, e⟩
  rcases key with ⟨ds0, ρ0, μ0, e0⟩ | nt
  · refine .inr ⟨ρ, μ, C, os, R0, walk_ok z fun d ds ρ1 μ1 v H1 C1 os1 e1 e2 R1 S1 q k => ?_⟩
    rw [e0] at e1; cases e1; cases e2
    cases q with
    | tup hT qs => exact ⟨_, rfl, ⟨_, hT.sq⟩, k _ (it_tup hT qs)⟩
  · refine .inl ⟨ρ, μ, C, os, R0, walk_ok z fun d ds ρ1 μ1 v H1 C1 os1 e1 e2 R1 S1 q k => ?_⟩
    cases q with
    | lst ha n qs => cases e2; exact ⟨_, rfl, ⟨_, .of ha⟩, k _ (it_list (.inl ⟨ha, n⟩) qs)⟩
    | frz ha qs => cases e2; exact ⟨_, rfl, ⟨_, ha.sq⟩, k _ (it_list (.inr ha) qs)⟩
    | tup hT qs => exact (nt _ _ _ e1).elim
    | _ => cases e2
def chrs : D → Option (List D)
  | .str s => some (s.cps.toList.map fun c => D.str ⟨#[c]⟩)
  | _ => none
def walkS (f : Mo D) : Mo (List D) := bnd f fun d => lift (chrs d)
theorem di_str {tg : Expr} (h : DE Φ X e f) : DI Rep Φ X tg e (walkS f) := PI.imp (pi_str h) fun σ H R ⟨ρ, μ, C, os, R0, z⟩ =>
  ⟨ρ, μ, C, os, R0, walk_ok z fun d ds ρ1 μ1 v H1 C1 os1 e1 e2 R1 S1 q k => by
    cases q with
    | str s => cases e2; exact ⟨s, rfl, k _ (it_str s)⟩
    | _ => cases e2⟩
theorem PostI.bndA {U : Vr} {C : List Addr} {os : Os} {σ : St} {H : Hp} {f : Mo (List D)} {g : List D → Option (List D)} {ρ : Env} {μ : Sto} {R : It → Hp → Prop} {Q1 : List V → Hp → Prop} (z : PostI U Φ X C os σ H (bnd f (fun d => lift (g d)) ρ μ) R)
    (k : ∀ d ds v H1 C1 os1, g d = some ds → (∀ p, (rc Φ X C1 os1 H1).H p = none → ¬ (rc Φ X C1 os1 H1).A p) → Reps (rc Φ X C1 os1 H1) v d → (∀ J, ItOk U J (rc Φ X C1 os1 H1) ds → R J H1) → Q1 v H1) : PostA Φ X C os σ H (f ρ μ) Q1 := by
  unfold bnd at z
  cases e : f ρ μ with
  | no => rw [e] at z; exact z.elim
  | ex c ns ds ρ1 μ1 => rw [e] at z; exact z
  | ok d ρ1 μ1 =>
    rw [e] at z
    intro v H1 C1 os1 R1 S1 q
    cases e2 : g d with
    | none => simp only [lift, e2] at z; exact z.elim
    | some ds =>
      simp only [lift, e2] at z
      exact k d ds v H1 C1 os1 e2 R1.fr q fun J hJ => z J H1 C1 os1 R1 S1 hJ
def rngL (lo hi : Int) : List D := (List.range (hi - lo).toNat).map fun k => D.int (lo + (k : Nat))
def inB (i : Int) : Bool := decide (-(2 ^ 62) ≤ i) && decide (i < 2 ^ 62)
def rng1 : List D → Option (List D)
  | [.int j] => if inB j then some (rngL 0 j) else none
  | _ => none
def rng2 : List D → Option (List D)
  | [.int i, .int j] => if inB i && inB j then some (rngL i j) else none
  | _ => none
def rngM1 (f : Mo (List D)) : Mo (List D) := bnd f fun ds => lift (rng1 ds)
def rngM2 (f : Mo (List D)) : Mo (List D) := bnd f fun ds => lift (rng2 ds)
theorem inB_of {i : Int} (h : inB i = true) : -(2 ^ 62) ≤ i ∧ i < 2 ^ 62 := by
  unfold inB at h
  rw [Bool.and_eq_true, decide_eq_true_iff, decide_eq_true_iff] at h
  exact h
theorem di_rng1 {tg a : Expr} {p : Pos} {fa : Mo (List D)} (hm : X.mg "range" = none) (ha : DA Φ X [a] fa) (hg : Gl X "range" := by rfl) (hs : starEach [a] X.env = [(false, eval a X.env)] := by rfl) :
    DI Rep Φ X tg (.Call (.Name "range" p) [a] [] pos) (rngM1 fa) := PI.imp (pi_range1 hg hm ha hs) fun σ H R ⟨ρ, μ, C, os, R0, z⟩ =>
  ⟨ρ, μ, C, os, R0, PostI.bndA z fun d ds vs H1 C1 os1 e _ q k => by
    cases q with
    | nil => cases e
    | cons h t =>
      cases t with
      | cons _ _ => cases h <;> cases e
      | nil =>
        cases h with
        | int j =>
          simp only [rng1] at e
          split at e
          · rename_i hb
            cases e
            refine ⟨j, rfl, (inB_of hb).1, (inB_of hb).2, ?_⟩
            have w := it_range (r := rc Φ X C1 os1 H1) 0 j.toNat
            have e2 : (j - 0).toNat = j.toNat := by omega
            unfold rngL at k
            rw [e2] at k
            exact k _ w
          · cases e
        | _ => cases e⟩
theorem di_rng2 {tg a b : Expr} {p : Pos} {fa : Mo (List D)} (hm : X.mg "range" = none) (ha : DA Φ X [a, b] fa) (hg : Gl X "range" := by rfl) (hs : starEach [a, b] X.env = [(false, eval a X.env), (false, eval b X.env)] := by rfl) (hs2 : starEach [b] X.env = [(false, eval b X.env)] := by rfl) :
    DI Rep Φ X tg (.Call (.Name "range" p) [a, b] [] pos) (rngM2 fa) := PI.imp (pi_range2 hg hm ha hs hs2) fun σ H R ⟨ρ, μ, C, os, R0, z⟩ =>
  ⟨ρ, μ, C, os, R0, PostI.bndA z fun d ds vs H1 C1 os1 e _ q k => by
    cases q with
    | nil => cases e
    | cons h t =>
      cases t with
      | nil => cases h <;> cases e
      | cons h2 t2 =>
        cases t2 with
        | cons _ _ => cases h <;> cases h2 <;> cases e
        | nil =>
          cases h <;> first
            | (cases e; done)
            | (cases h2 <;> first
                | (cases e; done)
                | (simp only [rng2] at e
                   split at e
                   · rename_i hb
                     rw [Bool.and_eq_true] at hb
                     cases e
                     exact ⟨_, _, rfl, ⟨(inB_of hb.1).1, (inB_of hb.1).2, (inB_of hb.2).1, (inB_of hb.2).2⟩, k _ (it_range _ _)⟩
                   · cases e))⟩
/-! zip of two lists or two tuples -/
def zipL (xs ys : List D) : List D := (xs.zip ys).map fun p => .tup [p.1, p.2]
def zipD : List D → Option (List D)
  | [.lst xs, .lst ys] => some (zipL xs ys)
  | [.tup xs, .tup ys] => some (zipL xs ys)
  | _ => none
def zipM (f : Mo (List D)) : Mo (List D) := bnd f fun ds => lift (zipD ds)
theorem zipL_get {xs ys : List D} {i : Nat} {d : D} (h : (zipL xs ys)[i]? = some d) : ∃ x y, xs[i]? = some x ∧ ys[i]? = some y ∧ d = .tup [x, y] := by
  unfold zipL at h
  rw [List.getElem?_map] at h
  cases q : (xs.zip ys)[i]? with
  | none => rw [q] at h; cases h
  | some p =>
    rw [q] at h
    cases h
    obtain ⟨h1, h2⟩ := List.getElem?_zip_eq_some.mp q
    exact ⟨p.1, p.2, h1, h2, rfl⟩
theorem zipL_len (xs ys : List D) : (zipL xs ys).length = min xs.length ys.length := by simp [zipL]
theorem it_zipL {r : RC} {a b : Addr} {vs ws : List V} {xs ys : List D} (ha : r.H a = some (.lst vs)) (na : ¬ r.A a) (hb : r.H b = some (.lst ws)) (nb : ¬ r.A b) (qa : Reps r vs xs) (qb : Reps r ws ys) : ItOk RepU (Itz r.K a b) r (zipL xs ys) where
  go := fun i r' S hi => by
    rw [zipL_len] at hi
    obtain ⟨v, e, _⟩ := qa.get (List.getElem?_eq_getElem (show i < xs.length by omega))
    obtain ⟨w, e', _⟩ := qb.get (List.getElem?_eq_getElem (show i < ys.length by omega))
    exact ⟨vs, ws, v, w, .of (S.h _ _ ha na), .of (S.h _ _ hb nb), e, e'⟩
  yl := fun i r' x H' d S hn e ⟨T, x1, y1, ex, hT, eH, k1, k2⟩ => by
    subst ex eH
    obtain ⟨d1, d2, g1, g2, rfl⟩ := zipL_get e
    obtain ⟨v, e3, e4⟩ := qa.get g1
    obtain ⟨w, e5, e6⟩ := qb.get g2
    have e7 := k1 vs (.of (S.h _ _ ha na))
    have e8 := k2 ws (.of (S.h _ _ hb nb))
    rw [e3] at e7; cases e7
    rw [e5] at e8; cases e8
    exact ⟨Grow.upd hT, .inr ⟨T, _, _, rfl, rfl, upd_same, hn T hT, Reps.step (Grow.stp (Grow.upd hT)) (.cons (e4.stq S) (.cons (e6.stq S) .nil))⟩⟩
  st := fun r' S => ⟨vs, ws, .of (S.h _ _ ha na), .of (S.h _ _ hb nb), by rw [zipL_len, qa.length, qb.length]; omega⟩
theorem it_zipT {r : RC} {a b : Addr} {vs ws : List V} {xs ys : List D} (ha : r.Tup a vs) (hb : r.Tup b ws) (qa : Reps r vs xs) (qb : Reps r ws ys) : ItOk RepU (RZ.ItzT r.K a b) r (zipL xs ys) where
  go := fun i r' S hi => by
    rw [zipL_len] at hi
    obtain ⟨v, e, _⟩ := qa.get (List.getElem?_eq_getElem (show i < xs.length by omega))
    obtain ⟨w, e', _⟩ := qb.get (List.getElem?_eq_getElem (show i < ys.length by omega))
    exact ⟨vs, ws, v, w, S.k ▸ (S.tup ha).sq, S.k ▸ (S.tup hb).sq, e, e'⟩
  yl := fun i r' x H' d S hn e ⟨T, x1, y1, ex, hT, eH, k1, k2⟩ => by
    subst ex eH
    obtain ⟨d1, d2, g1, g2, rfl⟩ := zipL_get e
    obtain ⟨v, e3, e4⟩ := qa.get g1
    obtain ⟨w, e5, e6⟩ := qb.get g2
    have e7 := k1 vs (S.k ▸ (S.tup ha).sq)
    have e8 := k2 ws (S.k ▸ (S.tup hb).sq)
    rw [e3] at e7; cases e7
    rw [e5] at e8; cases e8
    exact ⟨Grow.upd hT, .inr ⟨T, _, _, rfl, rfl, upd_same, hn T hT, Reps.step (Grow.stp (Grow.upd hT)) (.cons (e4.stq S) (.cons (e6.stq S) .nil))⟩⟩
  st := fun r' S => ⟨vs, ws, S.k ▸ (S.tup ha).sq, S.k ▸ (S.tup hb).sq, by rw [zipL_len, qa.length, qb.length]; omega⟩
theorem di_zip {a b : Expr} {p tpos : Pos} {elts : List Expr} {kk : Nat} {fa : Mo (List D)} (hm : X.mg "zip" = none) (ha : DA Φ X [a, b] fa) (hg : Gl X "zip" := by rfl) (hs : starEach [a, b] X.env = (false, eval a X.env) :: starEach [b] X.env := by rfl)
    (hpl : (backTo pos (starEach [b] X.env)).any (·.1) = false := by rfl) : DI RepU Φ X (.Tuple elts kk tpos) (.Call (.Name "zip" p) [a, b] [] pos) (zipM fa) := PI.imp (RZ.pi_zipA hg hm ha hs hpl) fun σ H R ⟨ρ, μ, C, os, R0, z⟩ =>
  ⟨ρ, μ, C, os, R0, PostI.bndA z fun d ds vs H1 C1 os1 e hn q k => by
    cases q with
    | nil => cases e
    | cons h t =>
      cases t with
      | nil => cases h <;> cases e
      | cons h2 t2 =>
        cases t2 with
        | cons _ _ => cases h <;> cases h2 <;> cases e
        | nil =>
          cases h with
          | @lst a1 vs1 ds1 g1 n1 q1 =>
            cases h2 with
            | @lst a2 vs2 ds2 g2 n2 q2 =>
              cases e
              exact ⟨a1, a2, vs1, vs2, rfl, .inl ⟨.of g1, .of g2, k _ (it_zipL g1 n1 g2 n2 q1 q2)⟩⟩
            | _ => cases e
          | @tup a1 vs1 ds1 g1 q1 =>
            cases h2 with
            | @tup a2 vs2 ds2 g2 q2 =>
              cases e
              exact ⟨a1, a2, vs1, vs2, rfl, .inr ⟨g1.sq, g2.sq, k _ (it_zipT g1 g2 q1 q2)⟩⟩
            | _ => cases e
          | _ => cases h2 <;> cases e⟩
end
end L2.DL

/-! DL9: for, while, list comprehensions. -/
namespace L2.DL
open PySem PySem.Spec PyProof.Rows
section
variable {Φ : Ctx} {X : Cx} {a b c e : Expr} {f g k : Mo D} {pos : Pos} {fs gs : Mo Fl} {ft : Mo Bool}
/-! ### for -/
def forL (gt : D → Mo Unit) (body : Mo Fl) : List D → Mo Fl
  | [] => ret .nx
  | d :: ds => bnd (gt d) fun _ => bnd body fun fl => match fl with
    | .nx => forL gt body ds
    | .ct => forL gt body ds
    | .bk => ret .nx
    | .rt v => ret (.rt v)
    | .ro v => ret (.ro v)
def forM (fi : Mo (List D)) (gt : D → Mo Unit) (body : Mo Fl) : Mo Fl := bnd fi fun ds => forL gt body ds
theorem ds_for {U : Vr} {tg iter : Expr} {body : List Stmt} {fi : Mo (List D)} {gt : D → Mo Unit} {n : Nat} (cn : Cn Φ X n) (hi : DI U Φ X tg iter fi) (hg : DG U Φ X tg gt) (hx : NoEx gt) (hb : DSs Φ X body fs)
    (hs : ∀ x, foldedSetIterable iter X.env x = pure x := by intro _; rfl) : DS Φ X (.For tg iter body [] pos) (forM fi gt fs) := PS.imp (ps_for cn.po cn.calm hi hg hb hs) fun D σ H ⟨ρ, μ, C, os, R, z⟩ => by
  refine ⟨ρ, μ, C, os, R, ?_⟩
  unfold forM bnd at z
  cases e : fi ρ μ with
  | no => rw [e] at z; exact z.elim
  | ex c ns ds ρ1 μ1 => rw [e] at z; exact fun Cc dx H' C' os' R S g e => z Cc dx σ H' C' os' R S g e
  | ok ds ρ1 μ1 =>
    rw [e] at z
    intro J H1 C1 os1 R1 S1 hJ
    have z := PostS.from S1 z
    let W : Nat → Nat → L2.St → Hp → Prop := fun i m σ H => m = ds.length - i ∧ i ≤ ds.length ∧ ∃ ρ μ C os, Rl Φ X ρ μ C os σ H ∧ Stp (rc Φ X C1 os1 H1) (rc Φ X C os H) ∧ PostS Φ X C os H (forL gt fs (ds.drop i) ρ μ) D
    refine ⟨W, ⟨ds.length, rfl, Nat.zero_le _, ρ1, μ1, C1, os1, R1, Stp.refl _, z⟩, ?_⟩
    rintro i m σ2 H2 ⟨rfl, hi, ρ2, μ2, C2, os2, R2, S2, z2⟩
    by_cases hlt : i < ds.length
    · refine .inr ⟨hJ.go i _ S2.q hlt, fun σ' H' => W (i + 1) (ds.length - (i + 1)) σ' H', fun σ' H' h => ⟨ds.length - (i + 1), by omega, h⟩, fun x H3 hy => ?_⟩
      obtain ⟨gr, rep⟩ := hJ.yl i _ x H3 ds[i] S2.q R2.fr (List.getElem?_eq_getElem hlt) hy
      have R3 : Rl Φ X ρ2 μ2 C2 os2 σ2 H3 := R2.grow gr
      have S3 : Stp (rc Φ X C2 os2 H2) (rc Φ X C2 os2 H3) := stp_grow gr
      have z3 := PostS.from S3 z2
      rw [List.drop_eq_getElem_cons hlt] at z3
      refine ⟨ρ2, μ2, C2, os2, ds[i], R3, rep, ?_⟩
      have z3 : PostS Φ X C2 os2 H3 (bnd (gt ds[i]) (fun _ => bnd fs fun fl => match fl with
        | .nx => forL gt fs (ds.drop (i + 1))
        | .ct => forL gt fs (ds.drop (i + 1))
        | .bk => ret .nx
        | .rt v => ret (.rt v)
        | .ro v => ret (.ro v)) ρ2 μ2) D := z3
      unfold bnd at z3
      cases e1 : gt ds[i] ρ2 μ2 with
      | no => rw [e1] at z3; exact z3
      | ex c ns es ρ3 μ3 => exact (hx _ _ _ _ _ _ _ _ e1).elim
      | ok u ρ3 μ3 =>
        rw [e1] at z3
        intro σ4 H4 C4 os4 R4 S4
        refine ⟨ρ3, μ3, C4, os4, R4, ?_⟩
        have z4 := PostS.from S4 z3
        cases e2 : fs ρ3 μ3 with
        | no => simp only [e2] at z4; exact z4
        | ex c ns es ρ5 μ5 => simp only [e2] at z4; exact z4
        | ok fl ρ5 μ5 =>
          simp only [e2] at z4
          intro σ5 H5 C5 os5 R5 S5
          have S6 := ((S2.trans S3).trans S4).trans S5
          cases fl with
          | nx => exact ⟨rfl, hlt, ρ5, μ5, C5, os5, R5, S6, PostS.from S5 z4⟩
          | ct => exact ⟨rfl, hlt, ρ5, μ5, C5, os5, R5, S6, PostS.from S5 z4⟩
          | bk => exact z4 σ5 H5 C5 os5 R5 S5
          | rt d => exact z4 σ5 H5 C5 os5 R5 S5
          | ro d => exact z4 σ5 H5 C5 os5 R5 S5
    · have ei : i = ds.length := by omega
      subst ei
      rw [List.drop_length] at z2
      exact .inl ⟨hJ.st _ S2.q, retS R2 z2⟩

/-! ### while -/
def whileN (t : Mo Bool) (body : Mo Fl) : Nat → Mo Fl
  | 0 => no
  | n + 1 => bnd t fun b => if b then bnd body fun fl => match fl with
    | .nx => whileN t body n
    | .ct => whileN t body n
    | .bk => ret .nx
    | .rt v => ret (.rt v)
    | .ro v => ret (.ro v) else ret .nx
open Classical in
noncomputable def whileM (t : Mo Bool) (body : Mo Fl) : Mo Fl := fun ρ μ => if h : ∃ n, whileN t body n ρ μ ≠ .no then whileN t body (Classical.choose h) ρ μ else .no
theorem whileN_mono {t : Mo Bool} {body : Mo Fl} : ∀ {n : Nat} {ρ : Env} {μ : Sto}, whileN t body n ρ μ ≠ .no → whileN t body (n + 1) ρ μ = whileN t body n ρ μ
  | 0, _, _, h => (h rfl).elim
  | n + 1, ρ, μ, h => by
    have e1 : ∀ m, whileN t body (m + 1) ρ μ = bnd t (fun b => if b then bnd body fun fl => match fl with
        | .nx => whileN t body m
        | .ct => whileN t body m
        | .bk => ret .nx
        | .rt v => ret (.rt v)
        | .ro v => ret (.ro v) else ret .nx) ρ μ := fun _ => rfl
    rw [e1] at h
    rw [e1, e1]
    unfold bnd at h ⊢
    cases e : t ρ μ with
    | no => rfl
    | ex c ns ds ρ1 μ1 => rfl
    | ok b ρ1 μ1 =>
      simp only [e] at h ⊢
      cases b with
      | false => rfl
      | true =>
        simp only [if_true] at h ⊢
        cases e2 : body ρ1 μ1 with
        | no => rfl
        | ex c ns ds ρ2 μ2 => rfl
        | ok fl ρ2 μ2 =>
          simp only [e2] at h ⊢
          cases fl with
          | nx => exact whileN_mono h
          | ct => exact whileN_mono h
          | bk => rfl
          | rt v => rfl
          | ro v => rfl
theorem whileN_le {t : Mo Bool} {body : Mo Fl} {n : Nat} {ρ : Env} {μ : Sto} (h : whileN t body n ρ μ ≠ .no) : ∀ k, whileN t body (n + k) ρ μ = whileN t body n ρ μ
  | 0 => rfl
  | k + 1 => by
    have ih := whileN_le h k
    rw [← Nat.add_assoc, whileN_mono (by rw [ih]; exact h), ih]
theorem whileM_of {t : Mo Bool} {body : Mo Fl} {n : Nat} {ρ : Env} {μ : Sto} {r : O Fl} (h : whileN t body n ρ μ = r) (hr : r ≠ .no) : whileM t body ρ μ = r := by
  have hn : whileN t body n ρ μ ≠ .no := by rw [h]; exact hr
  have he : ∃ n, whileN t body n ρ μ ≠ .no := ⟨n, hn⟩
  unfold whileM
  rw [dif_pos he]
  have hc := Classical.choose_spec he
  rcases Nat.le_total n (Classical.choose he) with q | q
  · obtain ⟨k, e⟩ := Nat.exists_eq_add_of_le q
    rw [e, whileN_le hn k, h]
  · obtain ⟨k, e⟩ := Nat.exists_eq_add_of_le q
    rw [← whileN_le hc k, ← e, h]
theorem ds_while {test : Expr} {body : List Stmt} {n : Nat} (cn : Cn Φ X n) (ht : DT Φ X test ft) (hb : DSs Φ X body fs) : DS Φ X (.While test body [] pos) (whileM ft fs) := PS.imp (ps_while cn.po ht hb) fun D σ H ⟨ρ, μ, C, os, R, z⟩ => by
  unfold whileM at z
  split at z
  · rename_i h
    refine ⟨fun m σ H => ∃ ρ μ C os, Rl Φ X ρ μ C os σ H ∧ PostS Φ X C os H (whileN ft fs m ρ μ) D, ⟨_, ρ, μ, C, os, R, z⟩, ?_⟩
    rintro m σ1 H1 ⟨ρ1, μ1, C1, os1, R1, z1⟩
    cases m with
    | zero => exact z1.elim
    | succ m =>
      refine ⟨ρ1, μ1, C1, os1, R1, PostS.bndT (f := ft) z1 fun b ρ2 μ2 H2 C2 os2 R2 S2 z2 => ?_⟩
      cases b with
      | false => exact (if_neg Bool.false_ne_true).mpr (retS R2 z2)
      | true =>
        refine (if_pos rfl).mpr ⟨fun σ' H' => ∃ ρ μ C os, Rl Φ X ρ μ C os σ' H' ∧ PostS Φ X C os H' (whileN ft fs m ρ μ) D, fun σ' H' h => ⟨m, Nat.lt_succ_self m, h⟩, ρ2, μ2, C2, os2, R2, ?_⟩
        have z2 : PostS Φ X C2 os2 H2 (bnd fs (fun fl => match fl with
          | .nx => whileN ft fs m
          | .ct => whileN ft fs m
          | .bk => ret .nx
          | .rt v => ret (.rt v)
          | .ro v => ret (.ro v)) ρ2 μ2) D := z2
        unfold bnd at z2
        cases e2 : fs ρ2 μ2 with
        | no => rw [e2] at z2; exact z2
        | ex c ns es ρ5 μ5 => rw [e2] at z2; exact z2
        | ok fl ρ5 μ5 =>
          rw [e2] at z2
          intro σ5 H5 C5 os5 R5 S5
          cases fl with
          | nx => exact ⟨ρ5, μ5, C5, os5, R5, PostS.from S5 z2⟩
          | ct => exact ⟨ρ5, μ5, C5, os5, R5, PostS.from S5 z2⟩
          | bk => exact z2 σ5 H5 C5 os5 R5 S5
          | rt d => exact z2 σ5 H5 C5 os5 R5 S5
          | ro d => exact z2 σ5 H5 C5 os5 R5 S5
  · exact z.elim

/-! ### comprehensions: the block's own names are wiped -/
def Ctx.nx (Φ : Ctx) : Ctx := { Φ with W := fun _ _ _ _ => False }
def wipD (ρ : Env) : List Nat → Env
  | [] => ρ
  | v :: vs => (wipD ρ vs).set v none
def shO : Option (Option Ent) → Option Ent
  | some (some (.sh d)) => some (.sh d)
  | _ => none
/-- behind the block: the wiped names as they were, if shared -/
def resD (ρ0 ρ : Env) : List Nat → Env
  | [] => ρ
  | v :: vs => (resD ρ0 ρ vs).set v (shO ρ0[v]?)
theorem wip_len (ρ : Env) : ∀ vs, (wipD ρ vs).length = ρ.length
  | [] => rfl
  | v :: vs => by unfold wipD; rw [List.length_set, wip_len ρ vs]
theorem res_len (ρ0 ρ : Env) : ∀ vs, (resD ρ0 ρ vs).length = ρ.length
  | [] => rfl
  | v :: vs => by unfold resD; rw [List.length_set, res_len ρ0 ρ vs]
theorem wip_some {ρ : Env} {i : Nat} {t : Ent} : ∀ {vs : List Nat}, (wipD ρ vs)[i]? = some (some t) → ρ[i]? = some (some t) ∧ i ∉ vs
  | [], h => ⟨h, by simp⟩
  | v :: vs, h => by
    unfold wipD at h
    by_cases hi : v = i
    · subst hi
      by_cases hv : v < (wipD ρ vs).length
      · rw [List.getElem?_set_self hv] at h; cases h
      · rw [List.getElem?_eq_none (by simpa using hv)] at h; cases h
    · rw [List.getElem?_set_ne hi] at h
      obtain ⟨h1, h2⟩ := wip_some h
      exact ⟨h1, by simp only [List.mem_cons, not_or]; exact ⟨fun e => hi e.symm, h2⟩⟩
theorem wipe_out' {σ : L2.St} {i : Nat} : ∀ {vs : List Nat}, i ∉ vs → (wipe σ vs)[i]? = σ[i]?
  | [], _ => rfl
  | v :: vs, h => by
    unfold wipe
    simp only [List.mem_cons, not_or] at h
    rw [List.getElem?_set_ne (Ne.symm h.1)]
    exact wipe_out' h.2
theorem wipe_in {σ : L2.St} {i : Nat} : ∀ {vs : List Nat}, i ∈ vs → i < σ.length → (wipe σ vs)[i]? = some none
  | [], h, _ => by cases h
  | v :: vs, h, hl => by
    unfold wipe
    by_cases hv : v = i
    · subst hv
      rw [List.getElem?_set_self (by rw [wipe_length]; exact hl)]
    · rw [List.getElem?_set_ne hv]
      rcases List.mem_cons.mp h with z | z
      · exact (hv z.symm).elim
      · exact wipe_in z hl
theorem wipe_set {σ : L2.St} {i : Nat} {v : Option V} {vs : List Nat} (h : i ∈ vs) : wipe (σ.set i v) vs = wipe σ vs := by
  apply List.ext_getElem?
  intro j
  by_cases hj : j ∈ vs
  · by_cases hl : j < σ.length
    · rw [wipe_in hj (by rw [List.length_set]; exact hl), wipe_in hj hl]
    · rw [List.getElem?_eq_none (by rw [wipe_length, List.length_set]; omega), List.getElem?_eq_none (by rw [wipe_length]; omega)]
  · rw [wipe_out' hj, wipe_out' hj, List.getElem?_set_ne (fun e => hj (by rw [← e]; exact h))]
theorem wipe_wipe (σ : L2.St) (vs : List Nat) : wipe (wipe σ vs) vs = wipe σ vs := by
  apply List.ext_getElem?
  intro j
  by_cases hj : j ∈ vs
  · by_cases hl : j < σ.length
    · rw [wipe_in hj (by rw [wipe_length]; exact hl), wipe_in hj hl]
    · rw [List.getElem?_eq_none (by rw [wipe_length, wipe_length]; omega), List.getElem?_eq_none (by rw [wipe_length]; omega)]
  · rw [wipe_out' hj]
theorem Rl.wipe {ρ : Env} {μ : Sto} {C : List Addr} {os : Os} {σ : L2.St} {H : Hp} (R : Rl Φ X ρ μ C os σ H) (vs : List Nat) : Rl Φ X (wipD ρ vs) μ C os (L2.wipe σ vs) H where
  len := by rw [wip_len, wipe_length]; exact R.len
  env := fun i t h => by
    obtain ⟨h1, h2⟩ := wip_some h
    obtain ⟨v, h3, h4⟩ := R.env i t h1
    exact ⟨v, by rw [wipe_out' h2]; exact h3, h4⟩
  sto := R.sto
  own := R.own
  fre := R.fre
  pre := R.pre
  cfr := R.cfr
  cnd := R.cnd
  clv := R.clv
  frm := R.frm
  alv := R.alv
theorem res_some {ρ0 ρ : Env} {i : Nat} {t : Ent} : ∀ {vs : List Nat}, (resD ρ0 ρ vs)[i]? = some (some t) → (i ∈ vs ∧ ∃ d, t = .sh d ∧ ρ0[i]? = some (some (.sh d))) ∨ (i ∉ vs ∧ ρ[i]? = some (some t))
  | [], h => .inr ⟨by simp, h⟩
  | v :: vs, h => by
    unfold resD at h
    by_cases hi : v = i
    · subst hi
      by_cases hv : v < (resD ρ0 ρ vs).length
      · rw [List.getElem?_set_self hv] at h
        have h := Option.some.inj h
        unfold shO at h
        split at h
        · rename_i d e
          cases h
          exact .inl ⟨List.mem_cons_self, d, rfl, e⟩
        · cases h
      · rw [List.getElem?_eq_none (by simpa using hv)] at h; cases h
    · rw [List.getElem?_set_ne hi] at h
      rcases res_some h with ⟨h1, h2⟩ | ⟨h1, h2⟩
      · exact .inl ⟨List.mem_cons_of_mem _ h1, h2⟩
      · exact .inr ⟨by simp only [List.mem_cons, not_or]; exact ⟨fun e => hi e.symm, h1⟩, h2⟩
/-- the block is left -/
theorem Rl.unwipe {ρ0 ρ : Env} {μ0 μ : Sto} {C0 C : List Addr} {os0 os : Os} {σ : L2.St} {H0 H : Hp} {vs : List Nat} (R0 : Rl Φ X ρ0 μ0 C0 os0 σ H0) (S : Stp (rc Φ X C0 os0 H0) (rc Φ X C os H)) (R : Rl Φ X ρ μ C os (L2.wipe σ vs) H) :
    Rl Φ X (resD ρ0 ρ vs) μ C os σ H where
  len := by rw [res_len, R.len, wipe_length]
  env := fun i t h => by
    rcases res_some h with ⟨h1, d, rfl, h2⟩ | ⟨h1, h2⟩
    · obtain ⟨v, h3, h4⟩ := R0.env i _ h2
      exact ⟨v, h3, Rep.step S h4⟩
    · obtain ⟨v, h3, h4⟩ := R.env i t h2
      exact ⟨v, by rw [wipe_out' h1] at h3; exact h3, h4⟩
  sto := R.sto
  own := R.own
  fre := R.fre
  pre := R.pre
  cfr := R.cfr
  cnd := R.cnd
  clv := R.clv
  frm := R.frm
  alv := R.alv
theorem Rl.wW {Φ : Ctx} {K : PySem.W.Frag} {mg : Str → Option Value} {ρ : Env} {μ : Sto} {C : List Addr} {os : Os} {σ : L2.St} {H : Hp} (R : RlK Φ K mg ρ μ C os σ H) (w : WX) : RlK { Φ with W := w } K mg ρ μ C os σ H :=
  ⟨R.len, fun i t h => by
    obtain ⟨v, h1, h2⟩ := R.env i t h
    refine ⟨v, h1, ?_⟩
    cases t with
    | sh d => exact h2
    | ow d => exact h2
    | bd c ns ds => exact h2
    | eh c ns ds => exact h2, R.sto, R.own, R.fre, R.pre, R.cfr, R.cnd, R.clv, R.frm, R.alv⟩
theorem Rl.unW {Φ : Ctx} {K : PySem.W.Frag} {mg : Str → Option Value} {ρ : Env} {μ : Sto} {C : List Addr} {os : Os} {σ : L2.St} {H : Hp} {w : WX} (R : RlK { Φ with W := w } K mg ρ μ C os σ H) : RlK Φ K mg ρ μ C os σ H := Rl.wW R Φ.W
end
end L2.DL

/-! DL10: [e for t in w if c]. -/
namespace L2.DL
open PySem PySem.Spec PyProof.Rows
section
variable {Φ : Ctx} {X : Cx} {a b c e : Expr} {f g k : Mo D} {pos : Pos} {ft : Mo Bool}
/-! ### targets that store block names alone -/
def PostGp (Φ : Ctx) (X : Cx) (vs : List Nat) (σ : L2.St) (C : List Addr) (os : Os) (H : Hp) (o : O Unit) (Q : L2.St → Hp → Prop) : Prop := match o with
  | .ok _ ρ' μ' => ∀ σ' H' C' os', Rl Φ X ρ' μ' C' os' σ' H' → Stp (rc Φ X C os H) (rc Φ X C' os' H') → wipe σ' vs = wipe σ vs → Q σ' H'
  | _ => False
def cGp (U : Vr) (Φ : Ctx) (X : Cx) (vs : List Nat) (g : D → Mo Unit) : TG := fun v σ H Q => ∃ ρ μ C os d, Rl Φ X ρ μ C os σ H ∧ U (rc Φ X C os H) v d ∧ PostGp Φ X vs σ C os H (g d ρ μ) Q
def cGsp (Φ : Ctx) (X : Cx) (vs : List Nat) (g : List D → Mo Unit) : TGs := fun ws σ H Q => ∃ ρ μ C os ds, Rl Φ X ρ μ C os σ H ∧ Reps (rc Φ X C os H) ws ds ∧ PostGp Φ X vs σ C os H (g ds ρ μ) Q
def DGp (U : Vr) (Φ : Ctx) (X : Cx) (vs : List Nat) (tg : Expr) (g : D → Mo Unit) : Prop := PG X tg (cGp U Φ X vs g)
def DGsp (Φ : Ctx) (X : Cx) (vs : List Nat) (tgs : List Expr) (g : List D → Mo Unit) : Prop := PGs X tgs (cGsp Φ X vs g)
variable {vs : List Nat}
theorem dgp_name {i : Nat} {x : Str} (hN : X.N.Nodup) (hm : i ∈ vs := by decide) (hi : X.N[i]? = some x := by rfl) (hx : Loc X.env.scope x := by first | exact Or.inl rfl | exact Or.inr rfl)
    (hf : X.fn x = true ∨ X.env.scope.names.lookup x = some .local := by first | exact .inl rfl | exact .inr rfl) : DGp Rep Φ X vs (.Name x pos) (tgN i) :=
  PG.imp (pg_name hN hi hx hf) fun v σ H Q ⟨ρ, μ, C, os, d, R, q, z⟩ => z _ _ C os (R.setv (t := .sh d) q) (Stp.refl _) (wipe_set hm)
theorem dgsp_nil : DGsp Φ X vs [] tgNil := PGs.imp pgs_nil fun ws σ H Q ⟨ρ, μ, C, os, ds, R, q, z⟩ => by
  cases q with
  | nil => exact ⟨rfl, z _ _ C os R (Stp.refl _) rfl⟩
  | cons h t => exact z.elim
theorem dgsp_cons {e : Expr} {es : List Expr} {g : D → Mo Unit} {gs : List D → Mo Unit} (h1 : DGp Rep Φ X vs e g) (h2 : DGsp Φ X vs es gs) (hs : (assignEach (e :: es) X.env).map (·.2) = assign e X.env :: (assignEach es X.env).map (·.2) := by rfl) : DGsp Φ X vs (e :: es) (tgCons g gs) :=
  PGs.imp (pgs_cons h1 h2 hs) fun ws σ H Q ⟨ρ, μ, C, os, ds, R, q, z⟩ => by
    cases q with
    | nil => exact z.elim
    | @cons v d ws ds h t =>
      refine ⟨v, ws, rfl, ρ, μ, C, os, d, R, h, ?_⟩
      have z : PostGp Φ X vs σ C os H (bnd (g d) (fun _ => gs ds) ρ μ) Q := z
      unfold bnd at z
      cases e1 : g d ρ μ with
      | no => rw [e1] at z; exact z.elim
      | ex c ns ds ρ1 μ1 => rw [e1] at z; exact z.elim
      | ok u ρ1 μ1 =>
        rw [e1] at z
        intro σ1 H1 C1 os1 R1 S1 w1
        refine ⟨ρ1, μ1, C1, os1, ds, R1, t.step S1, ?_⟩
        cases e2 : gs ds ρ1 μ1 with
        | no => simp only [e2] at z; exact z.elim
        | ex c ns ds ρ1 μ1 => simp only [e2] at z; exact z.elim
        | ok u ρ2 μ2 =>
          simp only [e2] at z
          exact fun σ' H' C' os' R2 S2 w2 => z σ' H' C' os' R2 (S1.trans S2) (w2.trans w1)
theorem dgp_tup {es : List Expr} {n : Nat} {m : Nat} {gs : List D → Mo Unit} (hc : X.calm = true) (h : DGsp Φ X vs es gs) (hn : (assignEach es X.env).length = n := by rfl) (hst : (assignEach es X.env).findIdx? (·.1) = none := by rfl) :
    DGp RepU Φ X vs (.Tuple es m pos) (tgT n gs) := PG.imp (pg_tup hc h hn hst) fun v σ H Q ⟨ρ, μ, C, os, d, R, q, z⟩ => by
  have fin : ∀ {a : Addr} {ws : List V} {ds : List D}, SqT X.K H a ws → Reps (rc Φ X C os H) ws ds → PostGp Φ X vs σ C os H ((if ds.length = n then gs ds else no) ρ μ) Q → gTup X.K n (cGsp Φ X vs gs) (.ref a) σ H Q := fun {a ws ds} hT qs z => by
    by_cases hl : ds.length = n
    · rw [if_pos hl] at z
      exact ⟨a, ws, rfl, hT, by rw [qs.length]; exact hl, ρ, μ, C, os, ds, R, qs, z⟩
    · rw [if_neg hl] at z
      exact z.elim
  rcases q with q | ⟨a, ws, ds, rfl, rfl, hH, _, qs⟩
  · cases q with
    | @tup a ws ds hT qs => exact fin hT.sq qs z
    | _ => exact z.elim
  · exact fin (.of hH) qs z
theorem DGp.rep {tg : Expr} {g : D → Mo Unit} (h : DGp RepU Φ X vs tg g) : DGp Rep Φ X vs tg g := PG.imp h fun v σ H Q ⟨ρ, μ, C, os, d, R, q, z⟩ => ⟨ρ, μ, C, os, d, R, .inl q, z⟩

/-! ### the tests of a clause -/
def DTs (Φ : Ctx) (X : Cx) (es : List Expr) (f : Mo Bool) : Prop := PTs X es (cT Φ X f)
theorem dts_nil : DTs Φ X [] (ret true) := ⟨fun pins s σ H Q I ⟨ρ, μ, C, os, R, z⟩ => pts_nil.run pins s σ H Q I (retT R z)⟩
theorem dts_one (h : DT Φ X c ft) : DTs Φ X [c] ft := pts_one h

/-- a thing under way is let go -/
theorem Rl.rel {ρ : Env} {μ : Sto} {C : List Addr} {os : Os} {σ : L2.St} {H : Hp} {p : Addr} (R : Rl Φ X ρ μ C os σ H) (hm : (none, p) ∈ os) : Rl Φ X ρ μ C (noA p os) σ H ∧ Stq (rc Φ X C os H) (rc Φ X C (noA p os) H) := by
  have keep : ∀ {j : Nat} {b : Addr}, (some j, b) ∈ os → (some j, b) ∈ noA p os := fun {j b} z => mem_noA.mpr ⟨z, fun e => by
    have q := R.own (some j) none p (e ▸ z) hm
    cases q⟩
  have S : Stq (rc Φ X C os H) (rc Φ X C (noA p os) H) := ⟨rfl, rfl, fun b z => by
    rcases z with z | z | ⟨j, z⟩
    · exact .inl (.inl z)
    · exact .inl (.inr (.inl z))
    · exact .inl (.inr (.inr ⟨j, (mem_noA.mp z).1⟩)), ⟨[], by simp [rcK]⟩, fun b o z _ => z⟩
  have own : ∀ {a : Addr} {d : D}, OwnR (rc Φ X C os H) a d → OwnR (rc Φ X C (noA p os) H) a d := fun {a d} h => by
    cases d with
    | lst ds => obtain ⟨vs, e, q⟩ := h; exact ⟨vs, e, q.stq S⟩
    | dct ks ds => obtain ⟨kvs, e, e2, q⟩ := h; exact ⟨kvs, e, e2, q.stq S⟩
    | _ => exact h.elim
  have bd : ∀ {a : Addr} {c : Str} {ns : List Str} {ds : List D}, BdR (rc Φ X C os H) a c ns ds → BdR (rc Φ X C (noA p os) H) a c ns ds := fun ⟨Cc, dx, fs, h, m, e, q⟩ => ⟨Cc, dx, fs, h, m, e, q.stq S⟩
  refine ⟨⟨R.len, fun i t h => ?_, ⟨R.sto.1, fun n b c h1 h2 => ?_⟩, fun i j b z1 z2 => R.own i j b (mem_noA.mp z1).1 (mem_noA.mp z2).1, fun i b z => R.fre i b (mem_noA.mp z).1, R.pre, R.cfr, R.cnd, R.clv, R.frm, R.alv⟩, S⟩
  · obtain ⟨v, h1, h2⟩ := R.env i t h
    refine ⟨v, h1, ?_⟩
    cases t with
    | sh d => exact Rep.stq S h2
    | ow d =>
      obtain ⟨b, e1, e2, e3⟩ := h2
      exact ⟨b, e1, keep e2, own e3⟩
    | bd c ns ds =>
      obtain ⟨b, e1, e2, e3⟩ := h2
      exact ⟨b, e1, keep e2, bd e3⟩
    | eh c ns ds =>
      obtain ⟨b, dx, e1, e2, fs, e3, e4, e5, e6⟩ := h2
      exact ⟨b, dx, e1, e2, fs, e3, S.na e3 e4, e5, e6.stq S⟩
  · have h := R.sto.2 n b c h1 h2
    cases c with
    | lst ds => obtain ⟨vs, e, q⟩ := h; exact ⟨vs, e, q.stq S⟩
    | dct ks ds => obtain ⟨kvs, e, e2, q⟩ := h; exact ⟨kvs, e, e2, q.stq S⟩
    | ins c ns ds => exact bd h
/-- a thing under way is changed -/
theorem Rl.mutB {ρ : Env} {μ : Sto} {C : List Addr} {os : Os} {σ : L2.St} {H : Hp} {p : Addr} (R : Rl Φ X ρ μ C os σ H) (hm : (none, p) ∈ os) (o : HO) : Rl Φ X ρ μ C os σ (upd H p o) ∧ Stq (rc Φ X C os H) (rc Φ X C os (upd H p o)) := by
  obtain ⟨f1, f2, f3, o0, h0⟩ := R.fre _ p hm
  have ne : ∀ {b : Addr} {u : HO}, b ≠ p → H b = some u → upd H p o b = some u := fun nb z => by rw [upd_ne nb]; exact z
  have S : Stq (rc Φ X C os H) (rc Φ X C os (upd H p o)) := ⟨rfl, rfl, fun b z => .inl z, ⟨[], by simp [rcK]⟩, fun b u z n => ne (fun e => n (by rw [e]; exact .inr (.inr ⟨_, hm⟩))) z⟩
  have live : ∀ b u, H b = some u → ∃ u', upd H p o b = some u' := fun b u z => by
    by_cases hb : b = p
    · exact ⟨o, by rw [hb]; exact upd_same⟩
    · exact ⟨u, ne hb z⟩
  have nos : ∀ {j : Nat} {b : Addr}, (some j, b) ∈ os → b ≠ p := fun z e => by
    have q := R.own (some _) none p (e ▸ z) hm
    cases q
  have own : ∀ {a : Addr} {d : D}, a ≠ p → OwnR (rc Φ X C os H) a d → OwnR (rc Φ X C os (upd H p o)) a d := fun {a d} na h => by
    cases d with
    | lst ds => obtain ⟨vs, e, q⟩ := h; exact ⟨vs, ne na e, q.stq S⟩
    | dct ks ds => obtain ⟨kvs, e, e2, q⟩ := h; exact ⟨kvs, ne na e, e2, q.stq S⟩
    | _ => exact h.elim
  have bd : ∀ {a : Addr} {c : Str} {ns : List Str} {ds : List D}, a ≠ p → BdR (rc Φ X C os H) a c ns ds → BdR (rc Φ X C os (upd H p o)) a c ns ds := fun na ⟨Cc, dx, fs, h, m, e, q⟩ => ⟨Cc, dx, fs, ne na h, m, e, q.stq S⟩
  refine ⟨⟨R.len, fun i t h => ?_, ⟨R.sto.1, fun n b c h1 h2 => ?_⟩, R.own, fun i b z => ?_, R.pre, R.cfr, R.cnd, fun b z => let ⟨u, e⟩ := R.clv b z; live b u e, fun b u h1 h2 h3 => ?_, fun b z => let ⟨u, e⟩ := R.alv b z; live b u e⟩, S⟩
  · obtain ⟨v, h1, h2⟩ := R.env i t h
    refine ⟨v, h1, ?_⟩
    cases t with
    | sh d => exact Rep.stq S h2
    | ow d =>
      obtain ⟨b, e1, e2, e3⟩ := h2
      exact ⟨b, e1, e2, own (nos e2) e3⟩
    | bd c ns ds =>
      obtain ⟨b, e1, e2, e3⟩ := h2
      exact ⟨b, e1, e2, bd (nos e2) e3⟩
    | eh c ns ds =>
      obtain ⟨b, dx, e1, e2, fs, e3, e4, e5, e6⟩ := h2
      exact ⟨b, dx, e1, e2, fs, S.h _ _ e3 e4, S.na e3 e4, e5, e6.stq S⟩
  · have h := R.sto.2 n b c h1 h2
    have na : b ≠ p := fun e => f2 (e ▸ List.mem_of_getElem? h1)
    cases c with
    | lst ds => obtain ⟨vs, e, q⟩ := h; exact ⟨vs, ne na e, q.stq S⟩
    | dct ks ds => obtain ⟨kvs, e, e2, q⟩ := h; exact ⟨kvs, ne na e, e2, q.stq S⟩
    | ins c ns ds => exact bd na h
  · obtain ⟨h1, h2, h3, u, h4⟩ := R.fre i b z
    exact ⟨h1, h2, h3, live b u h4⟩
  · refine ne (fun e => ?_) (R.frm b u h1 h2 h3)
    subst e
    rcases f1 with z | z
    · rw [h1] at z; cases z
    · exact h3 z

/-! ### the rule -/
/-- item by item; acc: what has been kept -/
def lcGo (own : List Nat) (gt : D → Mo Unit) (ft : Mo Bool) (fe : Mo D) : List D → List D → Mo (List D)
  | [], acc => ret acc
  | d :: ds, acc => fun ρ μ => match gt d ρ μ with
    | .ok _ ρ1 μ1 => match ft ρ1 μ1 with
      | .ok true ρ2 μ2 => match fe ρ2 μ2 with
        | .ok v ρ3 μ3 => if acc.length < lineN then lcGo own gt ft fe ds (acc ++ [v]) (wipD ρ3 own) μ3 else .no
        | _ => .no
      | .ok false ρ2 μ2 => lcGo own gt ft fe ds acc (wipD ρ2 own) μ2
      | _ => .no
    | _ => .no
def lcAll (own : List Nat) (gt : D → Mo Unit) (ft : Mo Bool) (fe : Mo D) (ds : List D) : Mo D := fun ρ μ => match lcGo own gt ft fe ds [] (wipD ρ own) μ with
  | .ok vs ρ' μ' => .ok (.lst vs) (resD ρ ρ' own) μ'
  | _ => .no
def lcM (own : List Nat) (fi : Mo (List D)) (gt : D → Mo Unit) (ft : Mo Bool) (fe : Mo D) : Mo D := bnd fi fun ds => lcAll own gt ft fe ds
/-- what holds of the list at p behind a block -/
def LcEnd (Φ : Ctx) (X : Cx) (own : List Nat) (σ : L2.St) (r1 : RC) (p : Addr) (K : List D → Env → Sto → List V → Hp → List Addr → Os → Prop) (o : O (List D)) : Prop := match o with
  | .ok vs ρ' μ' => ∀ accV H' C' os', Rl Φ X ρ' μ' C' os' (wipe σ own) H' → (none, p) ∈ os' → H' p = some (.lst accV) → Reps (rc Φ X C' os' H') accV vs → Stp r1 (rc Φ X C' os' H') → K vs ρ' μ' accV H' C' os'
  | _ => False
theorem stp_mutB {r1 : RC} {C : List Addr} {os : Os} {H : Hp} {p : Addr} (S : Stp r1 (rc Φ X C os H)) (hp : r1.H p = none) (o : HO) : Stp r1 (rc Φ X C os (upd H p o)) := by
  have ne : ∀ {b : Addr} {u w : HO}, r1.H b = some w → H b = some u → upd H p o b = some u := fun {b u w} h z => by
    rw [upd_ne (fun e => by rw [e, hp] at h; cases h)]
    exact z
  exact ⟨S.k, S.g, S.a, S.c, fun b u h n => ne h (S.h b u h n), fun b u h => let ⟨u', e⟩ := S.l b u h; ⟨u', ne h e⟩, S.m, fun b u h n => ne h (S.n b u h n)⟩
theorem lc_run {U : Vr} {own : List Nat} {gt : D → Mo Unit} {ft : Mo Bool} {fe : Mo D} {g : TG} {tt : TT} {te : TE} {σ : L2.St} {H1 : Hp} {C1 : List Addr} {os1 : Os} {ρ1 : Env} {μ1 : Sto} {J : It} {ds : List D} {p : Addr} {Qd : Hp → Prop}
    (hg : g = cGp U Φ.nx X own gt) (ht : tt = cT Φ.nx X ft) (he : te = cE Φ.nx X fe) (R1 : Rl Φ X ρ1 μ1 C1 os1 σ H1) (hJ : ItOk U J (rc Φ X C1 os1 H1) ds) (hp : H1 p = none)
    (z : LcEnd Φ X own σ (rc Φ X C1 os1 H1) p (fun vs ρ' μ' accV H' C' os' => Qd H') (lcGo own gt ft fe ds [] (wipD ρ1 own) μ1)) :
    ∃ W : Nat → Nat → Hp → Prop, (∃ m, W 0 m (upd H1 p (.lst []))) ∧ ∀ i m H, W i m H →
      (J.stop i H ∧ Qd H) ∨ (J.go i H ∧ ∃ Nx : Hp → Prop, (∀ H', Nx H' → ∃ m', m' < m ∧ W (i + 1) m' H') ∧ ∀ x H', J.yld i H x H' → g x (wipe σ own) H' fun σ2 H2 => wipe σ2 own = wipe σ own ∧ tt σ2 H2 fun b H3 =>
        if b = true then te σ2 H3 fun y H4 => ∃ acc, H4 p = some (.lst acc) ∧ acc.length < sizeLine ∧ Nx (upd H4 p (.lst (acc ++ [y]))) else Nx H3) := by
  subst hg ht he
  let r1 := rc Φ X C1 os1 H1
  let W : Nat → Nat → Hp → Prop := fun i m H => m = ds.length - i ∧ i ≤ ds.length ∧ ∃ ρ μ C os acc accV, Rl Φ X ρ μ C os (wipe σ own) H ∧ (none, p) ∈ os ∧ H p = some (.lst accV) ∧ Reps (rc Φ X C os H) accV acc ∧ Stp r1 (rc Φ X C os H) ∧
    LcEnd Φ X own σ r1 p (fun vs ρ' μ' accV H' C' os' => Qd H') (lcGo own gt ft fe (ds.drop i) acc ρ μ)
  refine ⟨W, ⟨ds.length, rfl, Nat.zero_le _, wipD ρ1 own, μ1, C1, (none, p) :: os1, [], [], (R1.add none hp).wipe own, List.mem_cons_self, upd_same, .nil, stp_add hp, z⟩, ?_⟩
  rintro i m H ⟨rfl, hi, ρ, μ, C, os, acc, accV, R, hm, hH, qa, S, z⟩
  by_cases hlt : i < ds.length
  · refine .inr ⟨hJ.go i _ S.q hlt, fun H' => W (i + 1) (ds.length - (i + 1)) H', fun H' h => ⟨ds.length - (i + 1), by omega, h⟩, fun x H2 hy => ?_⟩
    obtain ⟨gr, rep⟩ := hJ.yl i _ x H2 ds[i] S.q R.fr (List.getElem?_eq_getElem hlt) hy
    have R2 : Rl Φ X ρ μ C os (wipe σ own) H2 := R.grow gr
    have S2 : Stp (rc Φ X C os H) (rc Φ X C os H2) := stp_grow gr
    rw [List.drop_eq_getElem_cons hlt] at z
    unfold lcGo at z
    refine ⟨ρ, μ, C, os, ds[i], Rl.wW R2 _, rep, ?_⟩
    cases e1 : gt ds[i] ρ μ with
    | no => simp only [e1] at z; exact z.elim
    | ex c ns es ρ3 μ3 => simp only [e1] at z; exact z.elim
    | ok u ρ3 μ3 =>
      simp only [e1] at z
      intro σ3 H3 C3 os3 R3 S3 hw
      have hw : wipe σ3 own = wipe σ own := by rw [hw, wipe_wipe]
      refine ⟨hw, ρ3, μ3, C3, os3, R3, ?_⟩
      cases e2 : ft ρ3 μ3 with
      | no => simp only [e2] at z; exact z.elim
      | ex c ns es ρ4 μ4 => simp only [e2] at z; exact z.elim
      | ok b ρ4 μ4 =>
        intro H4 C4 os4 R4 S4
        have T4 : Stp (rc Φ X C os H) (rc Φ X C4 os4 H4) := (S2.trans S3).trans S4
        cases b with
        | false =>
          simp only [e2] at z
          refine (if_neg Bool.false_ne_true).mpr ⟨rfl, hlt, wipD ρ4 own, μ4, C4, os4, acc, accV, ?_, T4.m p hm, T4.n p _ hH hm, qa.step T4, S.trans T4, z⟩
          have q := Rl.wipe (Φ := Φ) (X := X) (Rl.unW R4) own
          rw [hw] at q
          exact q
        | true =>
          simp only [e2] at z
          refine (if_pos rfl).mpr ⟨ρ4, μ4, C4, os4, R4, ?_⟩
          cases e3 : fe ρ4 μ4 with
          | no => simp only [e3] at z; exact z.elim
          | ex c ns es ρ5 μ5 => simp only [e3] at z; exact z.elim
          | ok v ρ5 μ5 =>
            simp only [e3] at z
            intro y H5 C5 os5 R5 S5 q5
            have T5 : Stp (rc Φ X C os H) (rc Φ X C5 os5 H5) := T4.trans S5
            have q6 := qa.step T5
            split at z
            · rename_i hl
              have R6 := Rl.wipe (Φ := Φ) (X := X) (Rl.unW R5) own
              rw [hw] at R6
              obtain ⟨R7, S7⟩ := R6.mutB (T5.m p hm) (.lst (accV ++ [y]))
              exact ⟨accV, T5.n p _ hH hm, by rw [q6.length, line_eq]; exact hl, rfl, hlt, wipD ρ5 own, μ5, C5, os5, acc ++ [v], accV ++ [y], R7, T5.m p hm, upd_same, (q6.append (.one q5)).stq S7, stp_mutB (S.trans T5) hp _, z⟩
            · exact z.elim
  · have ei : i = ds.length := by omega
    subst ei
    rw [List.drop_length] at z
    exact .inl ⟨hJ.st _ S.q, z accV H C os R hm hH qa S⟩
/-- behind the block: the list is given out -/
theorem lc_out {own : List Nat} {σ : L2.St} {H1 H : Hp} {C1 C : List Addr} {os1 os : Os} {ρ1 ρ : Env} {μ1 μ : Sto} {p : Addr} {accV : List V} {vs : List D} (R1 : Rl Φ X ρ1 μ1 C1 os1 σ H1) (hp : H1 p = none) (R : Rl Φ X ρ μ C os (wipe σ own) H) (hm : (none, p) ∈ os)
    (hH : H p = some (.lst accV)) (qa : Reps (rc Φ X C os H) accV vs) (S : Stp (rc Φ X C1 os1 H1) (rc Φ X C os H)) :
    Rl Φ X (resD ρ1 ρ own) μ C (noA p os) σ H ∧ Stp (rc Φ X C1 os1 H1) (rc Φ X C (noA p os) H) ∧ Rep (rc Φ X C (noA p os) H) (.ref p) (.lst vs) := by
  obtain ⟨R2, S2⟩ := R.rel hm
  have S3 : Stp (rc Φ X C1 os1 H1) (rc Φ X C (noA p os) H) := ⟨rfl, rfl, fun b z => by
    rcases z with z | z | ⟨j, z⟩
    · exact S.a b (.inl z)
    · exact S.a b (.inr (.inl z))
    · exact S.a b (.inr (.inr ⟨j, (mem_noA.mp z).1⟩)), S.c, S.h, S.l, fun b z => mem_noA.mpr ⟨S.m b z, fun e => by
      obtain ⟨_, _, _, u, e2⟩ := R1.fre none b z
      rw [e, hp] at e2; cases e2⟩, S.n⟩
  refine ⟨R1.unwipe S3 R2, S3, .lst hH ?_ (qa.stq S2)⟩
  obtain ⟨_, h2, h3, _⟩ := R.fre none p hm
  rintro (z | z | ⟨j, z⟩)
  · exact h3 z
  · exact h2 z
  · exact (mem_noA.mp z).2 rfl
theorem lcI {U : Vr} {own : List Nat} {fi : Mo (List D)} {gt : D → Mo Unit} {ft : Mo Bool} {fe : Mo D} {σ : L2.St} {H : Hp} {Q : VK} (z : cE Φ X (lcM own fi gt ft fe) σ H Q) : tLc (cI U Φ X fi) (cGp U Φ.nx X own gt) (cT Φ.nx X ft) (cE Φ.nx X fe) own σ H Q := by
  obtain ⟨ρ, μ, C, os, R, z⟩ := z
  refine ⟨ρ, μ, C, os, R, ?_⟩
  unfold lcM bnd at z
  cases e : fi ρ μ with
  | no => rw [e] at z; exact z.elim
  | ex c ns ds ρ1 μ1 => rw [e] at z; exact z
  | ok ds ρ1 μ1 =>
    rw [e] at z
    intro J H1 C1 os1 R1 S1 hJ p hp
    have z : PostE Φ X C os σ H (lcAll own gt ft fe ds ρ1 μ1) Q := z
    have z := PostE.from S1 z
    refine lc_run (U := U) (Qd := fun H => Q (.ref p) H) rfl rfl rfl R1 hJ hp ?_
    unfold lcAll at z
    cases e2 : lcGo own gt ft fe ds [] (wipD ρ1 own) μ1 with
    | no => rw [e2] at z; exact z
    | ex c ns es ρ2 μ2 => rw [e2] at z; exact z
    | ok vs ρ2 μ2 =>
      rw [e2] at z
      intro accV H2 C2 os2 R2 hm hH qa S
      obtain ⟨R3, S3, q3⟩ := lc_out R1 hp R2 hm hH qa S
      exact z _ _ _ _ R3 S3 q3
theorem de_lc {U : Vr} {tg iter : Expr} {ifs : List Expr} {scope : Scope} {own : List (Str × Nat)} {fi : Mo (List D)} {gt : D → Mo Unit} {ft : Mo Bool} {fe : Mo D} {vs : List Nat} {n : Nat} (cn : Cn Φ X n) (ok : BlkOk X.N X.env.scope scope own) (hvs : own.map (·.2) = vs) (hi : DI U Φ X tg iter fi)
    (hg : ∀ (s : Shared) (H : Hp) (C : Addr) (cl : List (Str × Addr)) (fp : List Addr), DGp U Φ.nx (X.blk s H scope (compEnvC scope cl C X.env) fp) vs tg gt) (ht : ∀ (s : Shared) (H : Hp) (C : Addr) (cl : List (Str × Addr)) (fp : List Addr), DTs Φ.nx (X.blk s H scope (compEnvC scope cl C X.env) fp) ifs ft)
    (he : ∀ (s : Shared) (H : Hp) (C : Addr) (cl : List (Str × Addr)) (fp : List Addr), DE Φ.nx (X.blk s H scope (compEnvC scope cl C X.env) fp) e fe) (hs : ∀ x, foldedSetIterable iter X.env x = pure x := by intro _; rfl) :
    DE Φ X (.ListComp e [⟨tg, iter, ifs, 0⟩] scope pos) (lcM vs fi gt ft fe) := by
  subst hvs
  exact PE.imp (pe_lc (g := cGp U Φ.nx X (own.map fun y : Str × Nat => y.2) gt) (tt := cT Φ.nx X ft) (te := cE Φ.nx X fe) cn.calm cn.nd hi ok hg ht he hs) fun σ H Q z => lcI z
end
end L2.DL

/-! DL11: built-in functions, types and methods. -/
namespace L2.DL
open PySem PySem.Spec PyProof.Rows
/-- a built-in upon one value -/
def Cal1 (X : Cx) (r : List V → Hp → VK → Prop) (h : D → Option D) : Prop := ∀ (q : RC) (x : V) (d1 d : D) (Q : VK), q.K = X.K → q.mg = X.mg → (∀ p, q.H p = none → ¬ q.A p) → RepW q x d1 → h d1 = some d →
  (∀ v H', Grow q.H H' → Rep (q.at H') v d → Q v H') → r [x] q.H Q
/-- a built-in upon some values -/
def CalN (X : Cx) (r : List V → Hp → VK → Prop) (h : List D → Option D) : Prop := ∀ (q : RC) (xs : List V) (ds : List D) (d : D) (Q : VK), q.K = X.K → q.mg = X.mg → (∀ p, q.H p = none → ¬ q.A p) → Reps q xs ds → h ds = some d →
  (∀ v H', Grow q.H H' → Rep (q.at H') v d → Q v H') → r xs q.H Q
section
variable {Φ : Ctx} {X : Cx} {a b c e : Expr} {es : List Expr} {f g k : Mo D} {fa : Mo (List D)} {pos p apos : Pos} {x : Str} {id T : String} {r : List V → Hp → VK → Prop} {h : D → Option D} {hn : List D → Option D}
def opN (h : List D → Option D) (f : Mo (List D)) : Mo D := bnd f fun ds => lift (h ds)
theorem run_c1 (hD : Cal1 X r h) {σ : L2.St} {H : Hp} {Q : VK} (z : cE Φ X (op1 h f) σ H Q) : tCB r (tCons (cB Φ X f) tNil) σ H Q := by
  obtain ⟨ρ, μ, C, os, R, z⟩ := z
  refine ⟨ρ, μ, C, os, R, cB_bnd z fun d1 ρ1 μ1 x H1 C1 os1 R1 S1 q1 z1 => ?_⟩
  obtain ⟨d, e, k⟩ := lift_ok R1 z1
  exact hD (rc Φ X C1 os1 H1) x d1 d Q rfl rfl R1.fr q1 e k
theorem run_cN (hD : CalN X r hn) {σ : L2.St} {H : Hp} {Q : VK} (z : cE Φ X (opN hn fa) σ H Q) : tCB r (cA Φ X fa) σ H Q := by
  obtain ⟨ρ, μ, C, os, R, z⟩ := z
  refine ⟨ρ, μ, C, os, R, PostE.bndA z fun ds ρ1 μ1 vs H1 C1 os1 R1 S1 q1 z1 => ?_⟩
  obtain ⟨d, e, k⟩ := lift_ok R1 z1
  exact hD (rc Φ X C1 os1 H1) vs ds d Q rfl rfl R1.fr q1 e k
theorem de_b1 (hc : CallR X (.builtin id) r) (hD : Cal1 X r h) (hm : X.mg x = none) (hv : bootBuiltins x = some (.builtin id)) (ha : DB Φ X e f) (hg : Gl X x) (hx : x ≠ "__name__") (hdb : (x == ("__debug__" : Str)) = false)
    (he : starEach (e :: []) X.env = (false, eval e X.env) :: starEach [] X.env) (hpl : (backTo pos (starEach [] X.env)).any (·.1) = false) : DE Φ X (.Call (.Name x p) [e] [] pos) (op1 h f) :=
  PE.imp (pe_callB hc hg hm hv (pa_cons ha pa_nil he) hx hdb he hpl) fun σ H Q z => run_c1 hD z
theorem de_t1 (hc : CallR X (.type T) r) (hD : Cal1 X r h) (hm : X.mg x = none) (hv : bootBuiltins x = some (.type T)) (ha : DB Φ X e f) (hg : Gl X x) (hx : x ≠ "__name__") (hdb : (x == ("__debug__" : Str)) = false)
    (he : starEach (e :: []) X.env = (false, eval e X.env) :: starEach [] X.env) (hpl : (backTo pos (starEach [] X.env)).any (·.1) = false) : DE Φ X (.Call (.Name x p) [e] [] pos) (op1 h f) :=
  PE.imp (pe_callTy hc hg hm hv (pa_cons ha pa_nil he) hx hdb he hpl) fun σ H Q z => run_c1 hD z
theorem de_bN (hc : CallR X (.builtin id) r) (hD : CalN X r hn) (hm : X.mg x = none) (hv : bootBuiltins x = some (.builtin id)) (ha : DA Φ X (e :: es) fa) (hg : Gl X x) (hx : x ≠ "__name__") (hdb : (x == ("__debug__" : Str)) = false)
    (he : starEach (e :: es) X.env = (false, eval e X.env) :: starEach es X.env) (hpl : (backTo pos (starEach es X.env)).any (·.1) = false) : DE Φ X (.Call (.Name x p) (e :: es) [] pos) (opN hn fa) :=
  PE.imp (pe_callB hc hg hm hv ha hx hdb he hpl) fun σ H Q z => run_cN hD z

/-! ### len, abs, int, max, min, all, any, sum, list, tuple, sorted -/
def lenD : D → Option D
  | .str s => if s.length ≤ lineN then some (.int s.length) else none
  | .lst ds | .tup ds | .frz ds => some (.int ds.length)
  | .dct ks _ => some (.int ks.length)
  | _ => none
theorem cd_len : Cal1 X (fun xs H Q => (∃ x n, xs = [x] ∧ LenV X.K x H n ∧ Q (.int n) H) ∨ ∃ d kvs, xs = [.ref d] ∧ H d = some (.dK kvs) ∧ Q (.int kvs.length) H) lenD := by
  intro q x d1 d Q hK _ _ h1 e k
  cases d1 with
  | str s =>
    simp only [lenD] at e
    split at e
    · rename_i hl
      cases e
      exact .inl ⟨x, s.length, rfl, by rw [h1.str]; exact ⟨by rw [line_eq]; exact hl, rfl⟩, k _ _ (Grow.refl _) (.int _)⟩
    · cases e
  | lst ds =>
    obtain ⟨a, vs, rfl, ha, qa⟩ := h1.lst
    cases e
    exact .inl ⟨_, ds.length, rfl, .inl ⟨vs, .of ha, qa.length.symm⟩, k _ _ (Grow.refl _) (.int _)⟩
  | frz ds =>
    obtain ⟨a, vs, rfl, ha, qa⟩ := h1.frz
    cases e
    exact .inl ⟨_, ds.length, rfl, .inl ⟨vs, hK ▸ ha.sq, qa.length.symm⟩, k _ _ (Grow.refl _) (.int _)⟩
  | tup ds =>
    obtain ⟨a, vs, rfl, ha, qa⟩ := h1.tup
    cases e
    exact .inl ⟨_, ds.length, rfl, .inr ⟨vs, hK ▸ ha.sq, qa.length.symm⟩, k _ _ (Grow.refl _) (.int _)⟩
  | dct ks ds =>
    obtain ⟨a, kvs, rfl, ha, hk, qa⟩ := h1.dct
    cases e
    subst hk
    refine .inr ⟨a, kvs, rfl, ha, ?_⟩
    have w := k (.int kvs.length) _ (Grow.refl _)
    rw [List.length_map] at w
    exact w (.int _)
  | _ => cases e
theorem de_len (hm : X.mg "len" = none) (ha : DB Φ X e f) (hg : Gl X "len" := by rfl) (he : starEach (e :: []) X.env = (false, eval e X.env) :: starEach [] X.env := by rfl) (hpl : (backTo pos (starEach [] X.env)).any (·.1) = false := by rfl) :
    DE Φ X (.Call (.Name "len" p) [e] [] pos) (op1 lenD f) := de_b1 (call_len.or call_lenD) cd_len hm PySem.boot_len ha hg (by decide) (by decide) he hpl
def absD : D → Option D
  | .int i => some (.int (if i < 0 then -i else i))
  | _ => none
theorem cd_abs : Cal1 X (fun xs H Q => ∃ i, xs = [.int i] ∧ Q (.int (if i < 0 then -i else i)) H) absD := by
  intro q x d1 d Q _ _ _ h1 e k
  cases d1 <;> first
    | (cases e; exact ⟨_, by rw [h1.int], k _ _ (Grow.refl _) (.int _)⟩)
    | cases e
theorem de_abs (hm : X.mg "abs" = none) (ha : DB Φ X e f) (hg : Gl X "abs" := by rfl) (he : starEach (e :: []) X.env = (false, eval e X.env) :: starEach [] X.env := by rfl) (hpl : (backTo pos (starEach [] X.env)).any (·.1) = false := by rfl) :
    DE Φ X (.Call (.Name "abs" p) [e] [] pos) (op1 absD f) := de_b1 call_abs cd_abs hm (by decide +kernel) ha hg (by decide) (by decide) he hpl
def intD : D → Option D
  | .int i => some (.int i)
  | .bl b => some (.int (if b then 1 else 0))
  | _ => none
theorem cd_int : Cal1 X (fun xs H Q => (∃ i, xs = [.int i] ∧ Q (.int i) H) ∨ ∃ k, xs = [.bl k] ∧ Q (.int (if k then 1 else 0)) H) intD := by
  intro q x d1 d Q _ _ _ h1 e k
  cases d1 <;> first
    | (cases e; exact .inl ⟨_, by rw [h1.int], k _ _ (Grow.refl _) (.int _)⟩)
    | (cases e; exact .inr ⟨_, by rw [h1.bl], k _ _ (Grow.refl _) (.int _)⟩)
    | cases e
theorem de_int1 (hm : X.mg "int" = none) (ha : DB Φ X e f) (hg : Gl X "int" := by rfl) (he : starEach (e :: []) X.env = (false, eval e X.env) :: starEach [] X.env := by rfl) (hpl : (backTo pos (starEach [] X.env)).any (·.1) = false := by rfl) :
    DE Φ X (.Call (.Name "int" p) [e] [] pos) (op1 intD f) := de_t1 call_int1 cd_int hm (by decide +kernel) ha hg (by decide) (by decide) he hpl
def listD : D → Option D
  | .lst ds | .tup ds | .frz ds => some (.lst ds)
  | _ => none
theorem cd_list : Cal1 X (fun xs H Q => ∃ p ys, xs = [.ref p] ∧ (SqL X.K H p ys ∨ SqT X.K H p ys) ∧ ∀ l, H l = none → Q (.ref l) (upd H l (.lst ys))) listD := by
  intro q x d1 d Q hK _ hn h1 e k
  have fin : ∀ {p : Addr} {vs : List V} {ds : List D}, (SqL X.K q.H p vs ∨ SqT X.K q.H p vs) → Reps q vs ds → d = .lst ds → ∃ p' ys, [V.ref p] = [V.ref p'] ∧ (SqL X.K q.H p' ys ∨ SqT X.K q.H p' ys) ∧ ∀ l, q.H l = none → Q (.ref l) (upd q.H l (.lst ys)) := fun hs qa e => by
    subst e
    exact ⟨_, _, rfl, hs, fun l n => k _ _ (Grow.upd n) (NewR.rep (d := .lst _) ⟨_, rfl, qa⟩ n (hn l n))⟩
  cases d1 with
  | lst ds => obtain ⟨a, vs, rfl, ha, qa⟩ := h1.lst; exact fin (.inl (.of ha)) qa (Option.some.inj e).symm
  | frz ds => obtain ⟨a, vs, rfl, ha, qa⟩ := h1.frz; exact fin (.inl (hK ▸ ha.sq)) qa (Option.some.inj e).symm
  | tup ds => obtain ⟨a, vs, rfl, ha, qa⟩ := h1.tup; exact fin (.inr (hK ▸ ha.sq)) qa (Option.some.inj e).symm
  | _ => cases e
theorem de_list (hm : X.mg "list" = none) (ha : DB Φ X e f) (hg : Gl X "list" := by rfl) (he : starEach (e :: []) X.env = (false, eval e X.env) :: starEach [] X.env := by rfl) (hpl : (backTo pos (starEach [] X.env)).any (·.1) = false := by rfl) :
    DE Φ X (.Call (.Name "list" p) [e] [] pos) (op1 listD f) := de_t1 call_list_of cd_list hm (by decide +kernel) ha hg (by decide) (by decide) he hpl
def tupleD : D → Option D
  | .lst ds | .tup ds | .frz ds => some (.tup ds)
  | _ => none
theorem cd_tuple : Cal1 X (fun xs H Q => ∃ p ys, xs = [.ref p] ∧ ((SqL X.K H p ys ∧ NewT ys H Q) ∨ (SqT X.K H p ys ∧ Q (.ref p) H))) tupleD := by
  intro q x d1 d Q hK _ hn h1 e k
  cases d1 with
  | lst ds => obtain ⟨a, vs, rfl, ha, qa⟩ := h1.lst; cases e; exact ⟨a, vs, rfl, .inl ⟨.of ha, newT hn qa k⟩⟩
  | frz ds => obtain ⟨a, vs, rfl, ha, qa⟩ := h1.frz; cases e; exact ⟨a, vs, rfl, .inl ⟨hK ▸ ha.sq, newT hn qa k⟩⟩
  | tup ds => obtain ⟨a, vs, rfl, ha, qa⟩ := h1.tup; cases e; exact ⟨a, vs, rfl, .inr ⟨hK ▸ ha.sq, k _ _ (Grow.refl _) (.tup ha qa)⟩⟩
  | _ => cases e
theorem de_tuple (hm : X.mg "tuple" = none) (ha : DB Φ X e f) (hg : Gl X "tuple" := by rfl) (he : starEach (e :: []) X.env = (false, eval e X.env) :: starEach [] X.env := by rfl) (hpl : (backTo pos (starEach [] X.env)).any (·.1) = false := by rfl) :
    DE Φ X (.Call (.Name "tuple" p) [e] [] pos) (op1 tupleD f) := de_t1 call_tupleX cd_tuple hm (by decide +kernel) ha hg (by decide) (by decide) he hpl
/-- the truths in a list -/
def blsOf : List D → Option (List Bool)
  | [] => some []
  | .bl b :: ds => (blsOf ds).map (b :: ·)
  | _ => none
theorem reps_bls {r : RC} : ∀ {vs : List V} {ds : List D} {bs : List Bool}, Reps r vs ds → blsOf ds = some bs → vs = bs.map V.bl
  | _, _, _, .nil, e => by cases e; rfl
  | _, _, _, .cons h t, e => by
    cases h with
    | bl b =>
      obtain ⟨cs, e2, rfl⟩ := Option.map_eq_some_iff.mp e
      rw [reps_bls t e2]; rfl
    | _ => cases e
def allD : D → Option D
  | .lst ds => (blsOf ds).map fun bs => .bl (bs.all fun y => y)
  | _ => none
def anyD : D → Option D
  | .lst ds => (blsOf ds).map fun bs => .bl (bs.any fun y => y)
  | _ => none
theorem cd_all : Cal1 X (rAll X.K) allD := by
  intro q x d1 d Q _ _ _ h1 e k
  cases d1 with
  | lst ds =>
    obtain ⟨a, vs, rfl, ha, qa⟩ := h1.lst
    obtain ⟨bs, e2, rfl⟩ := Option.map_eq_some_iff.mp e
    exact ⟨a, bs, rfl, .of (by rw [ha, reps_bls qa e2]), k _ _ (Grow.refl _) (.bl _)⟩
  | _ => cases e
theorem cd_any : Cal1 X (rAny X.K) anyD := by
  intro q x d1 d Q _ _ _ h1 e k
  cases d1 with
  | lst ds =>
    obtain ⟨a, vs, rfl, ha, qa⟩ := h1.lst
    obtain ⟨bs, e2, rfl⟩ := Option.map_eq_some_iff.mp e
    exact ⟨a, bs, rfl, .of (by rw [ha, reps_bls qa e2]), k _ _ (Grow.refl _) (.bl _)⟩
  | _ => cases e
theorem de_all (hc : X.calm = true) (hm : X.mg "all" = none) (ha : DB Φ X e f) (hg : Gl X "all" := by rfl) (he : starEach (e :: []) X.env = (false, eval e X.env) :: starEach [] X.env := by rfl) (hpl : (backTo pos (starEach [] X.env)).any (·.1) = false := by rfl) :
    DE Φ X (.Call (.Name "all" p) [e] [] pos) (op1 allD f) := de_b1 (cr_all hc) cd_all hm (by decide +kernel) ha hg (by decide) (by decide) he hpl
theorem de_any (hc : X.calm = true) (hm : X.mg "any" = none) (ha : DB Φ X e f) (hg : Gl X "any" := by rfl) (he : starEach (e :: []) X.env = (false, eval e X.env) :: starEach [] X.env := by rfl) (hpl : (backTo pos (starEach [] X.env)).any (·.1) = false := by rfl) :
    DE Φ X (.Call (.Name "any" p) [e] [] pos) (op1 anyD f) := de_b1 (cr_any hc) cd_any hm (by decide +kernel) ha hg (by decide) (by decide) he hpl
/-- the numbers in a list -/
def intsOf : List D → Option (List Int)
  | [] => some []
  | .int b :: ds => (intsOf ds).map (b :: ·)
  | _ => none
theorem intsOf_map : ∀ ns : List Int, intsOf (ns.map D.int) = some ns
  | [] => rfl
  | n :: ns => by
    show (intsOf (ns.map D.int)).map (n :: ·) = _
    rw [intsOf_map ns]; rfl
theorem reps_ints {r : RC} : ∀ {vs : List V} {ds : List D} {bs : List Int}, Reps r vs ds → intsOf ds = some bs → vs = bs.map V.int
  | _, _, _, .nil, e => by cases e; rfl
  | _, _, _, .cons h t, e => by
    cases h with
    | int b =>
      obtain ⟨cs, e2, rfl⟩ := Option.map_eq_some_iff.mp e
      rw [reps_ints t e2]; rfl
    | _ => cases e
theorem ints_reps {r : RC} : ∀ ns : List Int, Reps r (ns.map V.int) (ns.map D.int)
  | [] => .nil
  | n :: ns => .cons (.int n) (ints_reps ns)
/-- insertion, to say what sorted gives -/
def insI (n : Int) : List Int → List Int
  | [] => [n]
  | m :: ms => if n ≤ m then n :: m :: ms else m :: insI n ms
def srtI : List Int → List Int
  | [] => []
  | n :: ns => insI n (srtI ns)
theorem insI_perm (n : Int) : ∀ ns : List Int, (insI n ns).Perm (n :: ns)
  | [] => List.Perm.refl _
  | m :: ms => by
    unfold insI
    split
    · exact List.Perm.refl _
    · exact ((insI_perm n ms).cons m).trans (List.Perm.swap n m ms)
theorem insI_up (n : Int) : ∀ {ns : List Int}, ns.Pairwise (· ≤ ·) → (insI n ns).Pairwise (· ≤ ·)
  | [], _ => List.pairwise_singleton _ _
  | m :: ms, h => by
    unfold insI
    rw [List.pairwise_cons] at h
    split
    · rename_i hl
      refine List.pairwise_cons.mpr ⟨fun y hy => ?_, List.pairwise_cons.mpr h⟩
      rcases List.mem_cons.mp hy with e | hy
      · rw [e]; exact hl
      · exact Int.le_trans hl (h.1 y hy)
    · rename_i hl
      refine List.pairwise_cons.mpr ⟨fun y hy => ?_, insI_up n h.2⟩
      rcases List.mem_cons.mp ((insI_perm n ms).mem_iff.mp hy) with e | hy
      · rw [e]; omega
      · exact h.1 y hy
theorem srtI_perm : ∀ ns : List Int, (srtI ns).Perm ns
  | [] => List.Perm.refl _
  | n :: ns => (insI_perm n (srtI ns)).trans ((srtI_perm ns).cons n)
theorem srtI_up : ∀ ns : List Int, (srtI ns).Pairwise (· ≤ ·)
  | [] => List.Pairwise.nil
  | n :: ns => insI_up n (srtI_up ns)
theorem srtI_only {ms ns : List Int} (h : ms.Perm ns) (u : ms.Pairwise (· ≤ ·)) : ms = srtI ns :=
  (h.trans (srtI_perm ns).symm).eq_of_pairwise (fun a b _ _ h1 h2 => Int.le_antisymm h1 h2) u (srtI_up ns)
def sortedD : D → Option D
  | .lst ds => (intsOf ds).map fun ns => .lst ((srtI ns).map D.int)
  | _ => none
theorem cd_sorted : Cal1 X (rSortedI X.K) sortedD := by
  intro q x d1 d Q _ _ hn h1 e k
  cases d1 with
  | lst ds =>
    obtain ⟨a, vs, rfl, ha, qa⟩ := h1.lst
    obtain ⟨ns, e2, rfl⟩ := Option.map_eq_some_iff.mp e
    refine ⟨a, ns, rfl, .of (by rw [ha, reps_ints qa e2]), fun ns' p hp hu n => ?_⟩
    have e3 := srtI_only hp hu
    subst e3
    exact k _ _ (Grow.upd n) (NewR.rep (d := .lst _) ⟨_, rfl, ints_reps _⟩ n (hn p n))
  | _ => cases e
theorem de_sorted (hm : X.mg "sorted" = none) (ha : DB Φ X e f) (hg : Gl X "sorted" := by rfl) (he : starEach (e :: []) X.env = (false, eval e X.env) :: starEach [] X.env := by rfl) (hpl : (backTo pos (starEach [] X.env)).any (·.1) = false := by rfl) :
    DE Φ X (.Call (.Name "sorted" p) [e] [] pos) (op1 sortedD f) := de_b1 cr_sortedI cd_sorted hm (by decide +kernel) ha hg (by decide) (by decide) he hpl
def sumD : D → Option D
  | .lst ds => (intsOf ds).map fun ns => .int ns.sum
  | _ => none
theorem cd_sum : Cal1 X (rSum X.K) sumD := by
  intro q x d1 d Q _ _ hn h1 e k
  cases d1 with
  | lst ds =>
    obtain ⟨a, vs, rfl, ha, qa⟩ := h1.lst
    obtain ⟨ns, e2, rfl⟩ := Option.map_eq_some_iff.mp e
    exact ⟨a, ns, rfl, .of (by rw [ha, reps_ints qa e2]), k _ _ (Grow.refl _) (.int _)⟩
  | _ => cases e
theorem de_sum (hc : X.calm = true) (hm : X.mg "sum" = none) (ha : DB Φ X e f) (hg : Gl X "sum" := by rfl) (he : starEach (e :: []) X.env = (false, eval e X.env) :: starEach [] X.env := by rfl) (hpl : (backTo pos (starEach [] X.env)).any (·.1) = false := by rfl) :
    DE Φ X (.Call (.Name "sum" p) [e] [] pos) (op1 sumD f) := de_b1 (cr_sum hc) cd_sum hm (by decide +kernel) ha hg (by decide) (by decide) he hpl
def max2D : List D → Option D
  | [.int i, .int j] => some (.int (if j > i then j else i))
  | _ => none
def min2D : List D → Option D
  | [.int i, .int j] => some (.int (if j < i then j else i))
  | _ => none
theorem cd_max2 : CalN X (fun xs H Q => ∃ i j, xs = [.int i, .int j] ∧ Q (.int (if j > i then j else i)) H) max2D := by
  intro q xs ds d Q _ _ _ h1 e k
  unfold max2D at e
  split at e
  · cases e
    cases h1 with | cons h t => cases t with | cons h2 t2 => cases t2; cases h; cases h2; exact ⟨_, _, rfl, k _ _ (Grow.refl _) (.int _)⟩
  · cases e
theorem cd_min2 : CalN X (fun xs H Q => ∃ i j, xs = [.int i, .int j] ∧ Q (.int (if j < i then j else i)) H) min2D := by
  intro q xs ds d Q _ _ _ h1 e k
  unfold min2D at e
  split at e
  · cases e
    cases h1 with | cons h t => cases t with | cons h2 t2 => cases t2; cases h; cases h2; exact ⟨_, _, rfl, k _ _ (Grow.refl _) (.int _)⟩
  · cases e
theorem de_max2 (hc : X.calm = true) (hm : X.mg "max" = none) (ha : DA Φ X [a, b] fa) (hg : Gl X "max" := by rfl) (he : starEach [a, b] X.env = (false, eval a X.env) :: starEach [b] X.env := by rfl) (hpl : (backTo pos (starEach [b] X.env)).any (·.1) = false := by rfl) :
    DE Φ X (.Call (.Name "max" p) [a, b] [] pos) (opN max2D fa) := de_bN (call_max2 hc) cd_max2 hm (by decide +kernel) ha hg (by decide) (by decide) he hpl
theorem de_min2 (hc : X.calm = true) (hm : X.mg "min" = none) (ha : DA Φ X [a, b] fa) (hg : Gl X "min" := by rfl) (he : starEach [a, b] X.env = (false, eval a X.env) :: starEach [b] X.env := by rfl) (hpl : (backTo pos (starEach [b] X.env)).any (·.1) = false := by rfl) :
    DE Φ X (.Call (.Name "min" p) [a, b] [] pos) (opN min2D fa) := de_bN (call_min2 hc) cd_min2 hm (by decide +kernel) ha hg (by decide) (by decide) he hpl
def strD : D → Option D
  | .int i => if i.natAbs.log2 < 1920 then some (.str (toString i)) else none
  | _ => none
theorem cd_str : Cal1 X (fun xs H Q => ∃ i, xs = [.int i] ∧ i.natAbs.log2 < 1920 ∧ Q (.str (toString i)) H) strD := by
  intro q x d1 d Q _ _ _ h1 e k
  cases d1 with
  | int i =>
    simp only [strD] at e
    split at e
    · cases e
      exact ⟨i, by rw [h1.int], by assumption, k _ _ (Grow.refl _) (.str _)⟩
    · cases e
  | _ => cases e
theorem de_strI (hm : X.mg "str" = none) (ha : DB Φ X e f) (hg : Gl X "str" := by rfl) (he : starEach (e :: []) X.env = (false, eval e X.env) :: starEach [] X.env := by rfl) (hpl : (backTo pos (starEach [] X.env)).any (·.1) = false := by rfl) :
    DE Φ X (.Call (.Name "str" p) [e] [] pos) (op1 strD f) := de_t1 call_str_int cd_str hm (by decide +kernel) ha hg (by decide) (by decide) he hpl
end
end L2.DL

/-! DL12: methods of texts and tuples, isinstance, texts backward, dict displays. -/
namespace L2.DL
open PySem PySem.Spec PyProof.Rows
section
variable {Φ : Ctx} {X : Cx} {a b c e o : Expr} {es : List Expr} {f g k : Mo D} {fa : Mo (List D)} {pos p apos : Pos} {name : Str} {id : String} {r : V → List V → Hp → VK → Prop} {h : D → List D → Option D}
/-- a method by values -/
def MetD (X : Cx) (r : V → List V → Hp → VK → Prop) (h : D → List D → Option D) : Prop := ∀ (q : RC) (x : V) (xs : List V) (d0 : D) (ds : List D) (d : D) (Q : VK), q.K = X.K → q.mg = X.mg → (∀ p, q.H p = none → ¬ q.A p) → Rep q x d0 → Reps q xs ds → h d0 ds = some d →
  (∀ v H', Grow q.H H' → Rep (q.at H') v d → Q v H') → r x xs q.H Q
def isStr : D → Option Unit
  | .str _ => some ()
  | _ => none
def isTup : D → Option Unit
  | .tup _ => some ()
  | _ => none
/-- o.m() of a text -/
def met0 (h : D → List D → Option D) (f : Mo D) : Mo D := bnd f fun x => bnd (lift (isStr x)) fun _ => lift (h x [])
def met1 (h : D → List D → Option D) (f g : Mo D) : Mo D := bnd f fun x => bnd (lift (isStr x)) fun _ => bnd g fun y => lift (h x [y])
theorem isStr_bnd {ρ : Env} {μ : Sto} {C : List Addr} {os : Os} {σ : L2.St} {H : Hp} {v : V} {d : D} {k : Mo D} {Q : VK} (q : Rep (rc Φ X C os H) v d) (z : PostE Φ X C os σ H (bnd (lift (isStr d)) (fun _ => k) ρ μ) Q) : (∃ a, v = .str a) ∧ PostE Φ X C os σ H (k ρ μ) Q := by
  cases q with
  | str s => exact ⟨⟨s, rfl⟩, z⟩
  | _ => exact z.elim
theorem isTup_bnd {ρ : Env} {μ : Sto} {C : List Addr} {os : Os} {σ : L2.St} {H : Hp} {v : V} {d : D} {k : Mo D} {Q : VK} (q : Rep (rc Φ X C os H) v d) (z : PostE Φ X C os σ H (bnd (lift (isTup d)) (fun _ => k) ρ μ) Q) : TupNd X.K H v ∧ PostE Φ X C os σ H (k ρ μ) Q := by
  cases q with
  | tup hT qs => exact ⟨hT.nd, z⟩
  | _ => exact z.elim
theorem de_m0 (slot : Slot "str" name id) (ty : typeOf (.builtin id) = pure (.type "method_descriptor")) (rule : MtR X id r) (hD : MetD X r h) (ho : DE Φ X o f) (hbase : attributeBase o name X.env (eval o X.env) = eval o X.env) (hline : (apos.endLine == pos.line) = true) :
    DE Φ X (.Call (.Attribute o name apos) [] [] pos) (met0 h f) := PE.imp (pe_m0 slot ty rule ho hbase hline) fun σ H Q ⟨ρ, μ, C, os, R, z⟩ =>
  ⟨ρ, μ, C, os, R, PostE.bnd z fun d ρ1 μ1 v H1 C1 os1 R1 S1 q1 z1 => by
    obtain ⟨hs, z2⟩ := isStr_bnd q1 z1
    obtain ⟨d', e, k⟩ := lift_ok R1 z2
    exact ⟨hs, hD (rc Φ X C1 os1 H1) v [] d [] d' Q rfl rfl R1.fr q1 .nil e k⟩⟩
theorem de_m1 (slot : Slot "str" name id) (ty : typeOf (.builtin id) = pure (.type "method_descriptor")) (rule : MtR X id r) (hD : MetD X r h) (ho : DE Φ X o f) (he : DE Φ X e g) (hs : starEach [e] X.env = [(false, eval e X.env)]) (hbase : attributeBase o name X.env (eval o X.env) = eval o X.env)
    (hline : (apos.endLine == pos.line) = true) : DE Φ X (.Call (.Attribute o name apos) [e] [] pos) (met1 h f g) := PE.imp (pe_m1 slot ty rule ho he hs hbase hline) fun σ H Q ⟨ρ, μ, C, os, R, z⟩ =>
  ⟨ρ, μ, C, os, R, PostE.bnd z fun d ρ1 μ1 v H1 C1 os1 R1 S1 q1 z1 => by
    obtain ⟨hs, z2⟩ := isStr_bnd q1 z1
    exact ⟨hs, ρ1, μ1, C1, os1, R1, PostE.bnd z2 fun d2 ρ2 μ2 w H2 C2 os2 R2 S2 q2 z3 => by
      obtain ⟨d', e, k⟩ := lift_ok R2 z3
      exact hD (rc Φ X C2 os2 H2) v [w] d [d2] d' Q rfl rfl R2.fr (q1.step S2) (.one q2) e k⟩⟩
/-! split, join, upper .. -/
def txts (xs : List Str) : List D := xs.map D.str
theorem strs_reps {r : RC} : ∀ xs : List Str, Reps r (xs.map V.str) (txts xs)
  | [] => .nil
  | x :: xs => .cons (.str x) (strs_reps xs)
def strsOf : List D → Option (List Str)
  | [] => some []
  | .str b :: ds => (strsOf ds).map (b :: ·)
  | _ => none
theorem reps_strs {r : RC} : ∀ {vs : List V} {ds : List D} {bs : List Str}, Reps r vs ds → strsOf ds = some bs → vs = bs.map V.str
  | _, _, _, .nil, e => by cases e; rfl
  | _, _, _, .cons h t, e => by
    cases h with
    | str b =>
      obtain ⟨cs, e2, rfl⟩ := Option.map_eq_some_iff.mp e
      rw [reps_strs t e2]; rfl
    | _ => cases e
theorem strsOf_strs : ∀ xs : List Str, strsOf (txts xs) = some xs
  | [] => rfl
  | x :: xs => by
    show (strsOf (txts xs)).map (x :: ·) = _
    rw [strsOf_strs xs]; rfl
def splitD : D → List D → Option D
  | .str a, [.str b] => if (b.length == 0) = false ∧ a.length + 2 ≤ lineN then some (.lst (txts (Txt.split a b))) else none
  | _, _ => none
theorem md_split : MetD X (fun x xs H Q => ∃ a b, x = .str a ∧ xs = [.str b] ∧ (b.length == 0) = false ∧ a.length + 2 ≤ sizeLine ∧ rNewStrs (Txt.split a b) H Q) splitD := by
  intro q x xs d0 ds d Q _ _ hn h0 h1 e k
  unfold splitD at e
  split at e
  · split at e
    · rename_i hl
      cases e
      cases h0
      cases h1 with
      | cons hb t =>
        cases t
        cases hb
        exact ⟨_, _, rfl, rfl, hl.1, by rw [line_eq]; exact hl.2, fun p n => k _ _ (Grow.upd n) (NewR.rep (d := .lst _) ⟨_, rfl, strs_reps _⟩ n (hn p n))⟩
    · cases e
  · cases e
theorem de_split (ho : DE Φ X o f) (he : DE Φ X e g) (hs : starEach [e] X.env = [(false, eval e X.env)] := by rfl) (hbase : attributeBase o "split" X.env (eval o X.env) = eval o X.env := by rfl) (hline : (apos.endLine == pos.line) = true := by rfl) :
    DE Φ X (.Call (.Attribute o "split" apos) [e] [] pos) (met1 splitD f g) := de_m1 F.slot_str_split F.type_str_split mt_split md_split ho he hs hbase hline
def joinD : D → List D → Option D
  | .str a, [.lst ds] => match strsOf ds with
    | some ys => if (ys.map (·.length)).sum + ys.length * a.length ≤ 16777216 then some (.str (Txt.join a ys)) else none
    | none => none
  | _, _ => none
theorem md_join : MetD X (fun x xs H Q => ∃ a p, ∃ ys : List Str, x = .str a ∧ xs = [.ref p] ∧ (SqL X.K H p (ys.map V.str) ∨ SqT X.K H p (ys.map V.str)) ∧ (ys.map (·.length)).sum + ys.length * a.length ≤ 16777216 ∧ Q (.str (Txt.join a ys)) H) joinD := by
  intro q x xs d0 ds d Q _ _ hn h0 h1 e k
  unfold joinD at e
  split at e
  · split at e
    · rename_i ys hy
      split at e
      · rename_i hl
        cases e
        cases h0
        cases h1 with
        | cons hb t =>
          cases t
          cases hb with
          | lst hH n qs => exact ⟨_, _, ys, rfl, rfl, .inl (.of (by rw [hH, reps_strs qs hy])), hl, k _ _ (Grow.refl _) (.str _)⟩
      · cases e
    · cases e
  · cases e
theorem de_join (ho : DE Φ X o f) (he : DE Φ X e g) (hs : starEach [e] X.env = [(false, eval e X.env)] := by rfl) (hbase : attributeBase o "join" X.env (eval o X.env) = eval o X.env := by rfl) (hline : (apos.endLine == pos.line) = true := by rfl) :
    DE Φ X (.Call (.Attribute o "join" apos) [e] [] pos) (met1 joinD f g) := de_m1 F.slot_str_join F.type_str_join mt_join md_join ho he hs hbase hline
def upperD : D → List D → Option D
  | .str a, [] => if a.length ≤ 5592405 then some (.str (Txt.upper a)) else none
  | _, _ => none
theorem md_upper : MetD X (fun x xs H Q => ∃ a, x = .str a ∧ xs = [] ∧ a.length ≤ 5592405 ∧ Q (.str (Txt.upper a)) H) upperD := by
  intro q x xs d0 ds d Q _ _ hn h0 h1 e k
  unfold upperD at e
  split at e
  · split at e
    · cases e
      cases h0
      cases h1
      exact ⟨_, rfl, rfl, by assumption, k _ _ (Grow.refl _) (.str _)⟩
    · cases e
  · cases e
theorem de_upper (ho : DE Φ X o f) (hbase : attributeBase o "upper" X.env (eval o X.env) = eval o X.env := by rfl) (hline : (apos.endLine == pos.line) = true := by rfl) : DE Φ X (.Call (.Attribute o "upper" apos) [] [] pos) (met0 upperD f) :=
  de_m0 F.slot_str_upper F.type_str_upper mt_upper md_upper ho hbase hline
/-! t.index(y) -/
def idxF (y : D) : List D → Nat → Option Nat
  | [], _ => none
  | d :: ds, n => if eqF d y then some n else idxF y ds (n + 1)
theorem idxF_ok {y : D} : ∀ {ds : List D} {n j : Nat}, idxF y ds n = some j → ∃ z, n ≤ j ∧ ds[j - n]? = some z ∧ eqF z y = true ∧ ∀ (m : Nat) (w : D), m < j - n → ds[m]? = some w → eqF w y = false
  | [], _, _, e => by cases e
  | d :: ds, n, j, e => by
    unfold idxF at e
    split at e
    · rename_i h
      cases e
      exact ⟨d, Nat.le_refl _, by rw [Nat.sub_self]; rfl, h, fun m w hm => by omega⟩
    · rename_i h
      obtain ⟨z, h1, h2, h3, h4⟩ := idxF_ok e
      refine ⟨z, by omega, ?_, h3, fun m w hm hw => ?_⟩
      · have e2 : j - n = (j - (n + 1)) + 1 := by omega
        rw [e2]
        simpa using h2
      · cases m with
        | zero =>
          simp at hw
          subst hw
          simpa using h
        | succ m => exact h4 m w (by omega) (by simpa using hw)
def tupIxD : D → List D → Option D
  | .tup ds, [y] => if flatD y && ds.all flatD then (idxF y ds 0).map fun j => .int (j : Nat) else none
  | _, _ => none
theorem md_tupIx : MetD X (rTupIx X.K) tupIxD := by
  intro q x xs d0 ds d Q hK _ hn h0 h1 e k
  unfold tupIxD at e
  split at e
  · split at e
    · rename_i es y hf
      rw [Bool.and_eq_true] at hf
      obtain ⟨j, e2, rfl⟩ := Option.map_eq_some_iff.mp e
      obtain ⟨z, _, h2, h3, h4⟩ := idxF_ok e2
      rw [Nat.sub_zero] at h2 h4
      cases h0 with
      | tup hT qs =>
        cases h1 with
        | cons hy t =>
          cases t
          obtain ⟨w, hw, rw'⟩ := qs.get h2
          have fz : ∀ {i : Nat} {u : D}, es[i]? = some u → flatD u = true := fun hu => List.all_eq_true.mp hf.2 _ (List.mem_of_getElem? hu)
          refine ⟨_, _, _, j, w, rfl, rfl, hK ▸ hT.sq, hy.flat hf.1, qs.flatV hf.2, hw, by rw [rw'.eqF hy (fz h2) hf.1]; exact h3, fun m w' hm hw' => ?_, k _ _ (Grow.refl _) (.int _)⟩
          obtain ⟨d', hd', rd'⟩ := qs.getV hw'
          rw [rd'.eqF hy (fz hd') hf.1]
          exact h4 m d' hm hd'
    · cases e
  · cases e
def metT (h : D → List D → Option D) (f g : Mo D) : Mo D := bnd f fun x => bnd (lift (isTup x)) fun _ => bnd g fun y => lift (h x [y])
theorem de_tupIx (ho : DE Φ X o f) (he : DE Φ X e g) (hs : starEach [e] X.env = (false, eval e X.env) :: starEach [] X.env := by rfl) (hbase : attributeBase o "index" X.env (eval o X.env) = eval o X.env := by rfl)
    (hfew : ((backTo pos (starEach [e] X.env)).all (fun y => !y.1) && (backToKw pos (keywordEach [] X.env)).all (fun y => y.1.isSome) && decide ([e].length + ([] : List Keyword).length + (if ([] : List Keyword).isEmpty then 0 else 1) < 30)) = true := by rfl)
    (hline : (apos.endLine == pos.line) = true := by rfl) (hpl : (backTo pos (starEach [] X.env)).any (·.1) = false := by rfl) : DE Φ X (.Call (.Attribute o "index" apos) [e] [] pos) (metT tupIxD f g) :=
  PE.imp (pe_tm PySem.F.slot_tuple_index PySem.F.type_tuple_index mt_tupIx ho (pa_cons he pa_nil hs) hbase hfew hline hs hpl) fun σ H Q ⟨ρ, μ, C, os, R, z⟩ =>
    ⟨ρ, μ, C, os, R, PostE.bnd z fun d ρ1 μ1 v H1 C1 os1 R1 S1 q1 z1 => by
      obtain ⟨hs, z2⟩ := isTup_bnd q1 z1
      exact ⟨hs, ρ1, μ1, C1, os1, R1, PostE.bnd z2 fun d2 ρ2 μ2 w H2 C2 os2 R2 S2 q2 z3 => by
        obtain ⟨d', e, k⟩ := lift_ok R2 z3
        exact md_tupIx (rc Φ X C2 os2 H2) v [w] d [d2] d' Q rfl rfl R2.fr (q1.step S2) (.one q2) e k⟩⟩

/-! ### isinstance of built-in types -/
def tyN : D → Option String
  | .non => some "NoneType" | .bl _ => some "bool" | .int _ => some "int" | .str _ => some "str" | .tup _ => some "tuple" | .lst _ => some "list" | .frz _ => some "list" | .dct _ _ => some "dict"
  | _ => none
def isT (t T : String) : Bool := t == T || (t == "bool" && T == "int")
def tysD : List String := ["NoneType", "bool", "int", "str", "tuple", "list", "dict"]
theorem kit_tab : (tysD.all fun t => tysD.all fun T => decide (kitB t T = some (isT t T))) = true := by decide +kernel
theorem tyN_mem {d : D} {t : String} (h : tyN d = some t) : t ∈ tysD := by
  cases d <;> (first | (cases h; decide) | cases h)
theorem kit_is {K : PySem.W.Frag} {t T : String} (h1 : t ∈ tysD) (h2 : T ∈ tysD) : PySem.W.kitOne K (.type t) (.type T) = some (isT t T) :=
  kit_ty (of_decide_eq_true (List.all_eq_true.mp (List.all_eq_true.mp kit_tab t h1) T h2))
theorem RepW.ty {q : RC} {x : V} {d : D} {t : String} (h : RepW q x d) (e : tyN d = some t) : TyX q.K q.H x (.type t) := by
  cases d with
  | non => cases e; rw [h.non]; exact .base .non
  | bl b => cases e; rw [h.bl]; exact .base (.bl b)
  | int i => cases e; rw [h.int]; exact .base (.int i)
  | str s => cases e; rw [h.str]; exact .base (.str s)
  | tup ds =>
    obtain ⟨a, vs, rfl, ha, qa⟩ := h.tup
    cases e
    rcases ha with ⟨_, o, ha, _⟩ | ⟨o, its, n, h1, h2, _⟩
    · exact .fTuple ha
    · exact .kTuple h1 h2
  | lst ds => obtain ⟨a, vs, rfl, ha, qa⟩ := h.lst; cases e; exact .base (.lst ha)
  | frz ds =>
    obtain ⟨a, vs, rfl, ha, qa⟩ := h.frz
    cases e
    rcases ha with ⟨_, ha⟩ | ha
    · rcases ha with ha | ⟨o, ha⟩
      · exact .base (.lst ha)
      · exact .base (.frz ha)
    · rcases ha with ha | ⟨o, its, n, h1, h2, _⟩
      · rcases ha with ha | ⟨o, ha⟩ <;> cases ha
      · exact .kList h1 h2
  | dct ks ds => obtain ⟨a, kvs, rfl, ha, hk, qa⟩ := h.dct; cases e; exact .base (.dK ha)
  | ins c ns ds => cases e
  | cell n => cases e
def isiD (Ts : List String) (d : D) : Option D := (tyN d).map fun t => .bl (Ts.any (isT t))
theorem de_isi {T : Str} {S : String} {p2 : Pos} (hm : X.mg "isinstance" = none) (hmT : X.mg T = none) (ha : DB Φ X e f) (hvT : bootBuiltins T = some (.type S) := by decide +kernel) (hS : S ∈ tysD := by decide) (hg : Gl X "isinstance" := by rfl) (hgT : Gl X T := by rfl)
    (h1 : starEach [e, .Name T p2] X.env = (false, eval e X.env) :: starEach [.Name T p2] X.env := by rfl) (h2 : starEach [.Name T p2] X.env = (false, eval (.Name T p2) X.env) :: starEach [] X.env := by rfl)
    (hpl : (backTo pos (starEach [.Name T p2] X.env)).any (·.1) = false := by rfl) (hn : T ≠ "__name__" := by decide) (hdb : (T == ("__debug__" : Str)) = false := by decide) : DE Φ X (.Call (.Name "isinstance" p) [e, .Name T p2] [] pos) (op1 (isiD [S]) f) :=
  PE.imp (pe_callB call_isi hg hm (by decide +kernel) (pa_cons ha (pa_cons (pe_bltn (v := .ty S) hgT hmT hvT rfl hn hdb) pa_nil h2) h1) (by decide) (by decide) h1 hpl) fun σ H Q ⟨ρ, μ, C, os, R, z⟩ =>
    ⟨ρ, μ, C, os, R, cB_bnd z fun d1 ρ1 μ1 x H1 C1 os1 R1 S1 q1 z1 => by
      obtain ⟨d, e, k⟩ := lift_ok R1 z1
      obtain ⟨t, e2, rfl⟩ := Option.map_eq_some_iff.mp e
      refine ⟨x, .ty S, .type t, .type S, isT t S, rfl, .ty S, RepW.ty (q := rc Φ X C1 os1 H1) q1 e2, kit_is (tyN_mem e2) hS, ?_⟩
      have w := k (.bl (isT t S)) H1 (Grow.refl _)
      simp only [List.any_cons, List.any_nil, Bool.or_false] at w
      exact w (.bl _)⟩
theorem de_isi2 {T T' : Str} {S S' : String} {p2 p3 p4 : Pos} {n : Nat} (hm : X.mg "isinstance" = none) (hmT : X.mg T = none) (hmT' : X.mg T' = none) (ha : DE Φ X e f) (hvT : bootBuiltins T = some (.type S) := by decide +kernel) (hvT' : bootBuiltins T' = some (.type S') := by decide +kernel)
    (hS : S ∈ tysD := by decide) (hS' : S' ∈ tysD := by decide) (hg : Gl X "isinstance" := by rfl) (hgT : Gl X T := by rfl) (hgT' : Gl X T' := by rfl)
    (h1 : starEach [e, .Tuple [.Name T p2, .Name T' p3] n p4] X.env = (false, eval e X.env) :: starEach [.Tuple [.Name T p2, .Name T' p3] n p4] X.env := by rfl) (h2 : starEach [.Tuple [.Name T p2, .Name T' p3] n p4] X.env = (false, eval (.Tuple [.Name T p2, .Name T' p3] n p4) X.env) :: starEach [] X.env := by rfl)
    (h3 : starEach [.Name T p2, .Name T' p3] X.env = (false, eval (.Name T p2) X.env) :: starEach [.Name T' p3] X.env := by rfl) (h4 : starEach [.Name T' p3] X.env = (false, eval (.Name T' p3) X.env) :: starEach [] X.env := by rfl)
    (hpl : (backTo pos (starEach [.Tuple [.Name T p2, .Name T' p3] n p4] X.env)).any (·.1) = false := by rfl) (hn : T ≠ "__name__" := by decide) (hdb : (T == ("__debug__" : Str)) = false := by decide) (hn' : T' ≠ "__name__" := by decide) (hdb' : (T' == ("__debug__" : Str)) = false := by decide) :
    DE Φ X (.Call (.Name "isinstance" p) [e, .Tuple [.Name T p2, .Name T' p3] n p4] [] pos) (op1 (isiD [S, S']) f) :=
  PE.imp (pe_callB call_isiT hg hm (by decide +kernel) (pa_cons ha (pa_cons (pe_tup (pa_cons (pe_bltn (v := .ty S) hgT hmT hvT rfl hn hdb) (pa_cons (pe_bltn (v := .ty S') hgT' hmT' hvT' rfl hn' hdb') pa_nil h4) h3)) pa_nil h2) h1) (by decide) (by decide) h1 hpl) fun σ H Q ⟨ρ, μ, C, os, R, z⟩ =>
    ⟨ρ, μ, C, os, R, PostE.bnd z fun d1 ρ1 μ1 x H1 C1 os1 R1 S1 q1 z1 => by
      obtain ⟨d, e, k⟩ := lift_ok R1 z1
      obtain ⟨t, e2, rfl⟩ := Option.map_eq_some_iff.mp e
      refine ⟨by show 2 ≤ sizeLine; decide, fun tp n => ⟨x, tp, [.ty S, .ty S'], .type t, [.type S, .type S'], [S, S'].any (isT t), rfl, upd_same, .cons (.ty S) (.cons (.ty S') .nil), RepW.ty (q := rc Φ X C1 os1 (upd H1 tp (.tup [.ty S, .ty S']))) (.inl (q1.step (stp_grow (Grow.upd n)))) e2, ?_, k _ _ (Grow.upd n) (.bl _)⟩⟩
      refine kitAny_cons (kit_is (tyN_mem e2) hS) (fun hb => kitAny_cons (kit_is (tyN_mem e2) hS') (fun hb' => ?_) fun hb' => ?_) fun hb => ?_
      · simp only [List.any_cons, List.any_nil, hb, hb', Bool.or_false]; exact kitAny_nil
      · simp [List.any_cons, hb']
      · simp [List.any_cons, hb]⟩

/-! ### a text backward -/
def revS (z : Str) : Str := ⟨((Builtin.Str.strSliceIndices none none (-1) z.length).filterMap (z.cps[·]?)).toArray⟩
end
end L2.DL

/-! DL13: defs as functions on trees; their calls. -/
namespace L2.DL
open PySem PySem.Spec PyProof.Rows
/-- a def's answer: a value, a list or dict that nobody else holds, an error -/
inductive R where
  | ok (d : D) (μ : Sto) | ow (d : D) (μ : Sto) | ex (c : Str) (ns : List Str) (vs : List D) (μ : Sto) | no
abbrev Fn := List D → Sto → R
structure CIn (K : PySem.W.Frag) (mg : Str → Option Value) (A : Addr → Prop) (C : List Addr) (μ : Sto) (vs : List V) (ds : List D) (H : Hp) : Prop where
  arg : Reps ⟨K, mg, A, fun _ => False, C, H⟩ vs ds
  sto : StoR ⟨K, mg, A, fun _ => False, C, H⟩ μ
  cnd : C.Nodup
  cA : ∀ a ∈ C, A a
  alv : ∀ a, A a → ∃ o, H a = some o
/-- the avoided objects behind a call: zo is the list given out -/
def rO (K : PySem.W.Frag) (mg : Str → Option Value) (A : Addr → Prop) (zo : List Addr) (C : List Addr) (H : Hp) : RC := ⟨K, mg, fun a => A a ∨ a ∈ C ∨ a ∈ zo, fun _ => False, C, H⟩
structure COut (K : PySem.W.Frag) (mg : Str → Option Value) (A : Addr → Prop) (zo C : List Addr) (H : Hp) (C' : List Addr) (H' : Hp) (μ : Sto) : Prop where
  pre : ∃ m, C' = C ++ m
  cfr : ∀ a ∈ C', a ∈ C ∨ H a = none
  cnd : C'.Nodup
  clv : ∀ a ∈ C', ∃ o, H' a = some o
  frm : ∀ a o, H a = some o → a ∉ C → H' a = some o
  sto : StoR (rO K mg A zo C' H') μ
  zfr : ∀ a ∈ zo, H a = none ∧ a ∉ C' ∧ ∃ o, H' a = some o
def PostR (K : PySem.W.Frag) (mg : Str → Option Value) (A : Addr → Prop) (C : List Addr) (H : Hp) (r : R) (Q : VK) (E : XK) : Prop := match r with
  | .ok d μ => ∀ v H' C', COut K mg A [] C H C' H' μ → Rep (rO K mg A [] C' H') v d → Q v H'
  | .ow d μ => ∀ a H' C', COut K mg A [a] C H C' H' μ → OwnR (rO K mg A [a] C' H') a d → Q (.ref a) H'
  | .ex c ns es μ => ∀ Cc dx H' C', COut K mg A [] C H C' H' μ → mg c = some (.ref Cc) → EhR (rO K mg A [] C' H') dx c ns es → E (.ref Cc) (some dx) H'
  | .no => False
def spD (K : PySem.W.Frag) (mg : Str → Option Value) (G : Fn) : Sp := fun vs H Q E => ∃ ds μ A C, CIn K mg A C μ vs ds H ∧ PostR K mg A C H (G ds μ) Q E
/-- a def's body as a function -/
def runD (p n : Nat) (g : Mo Fl) : Fn := fun ds μ => if ds.length = p then (match g (ds.map (fun d => some (Ent.sh d)) ++ List.replicate (n - ds.length) none) μ with
  | .ok .nx _ μ' => .ok .non μ'
  | .ok (.rt d) _ μ' => .ok d μ'
  | .ok (.ro d) _ μ' => .ow d μ'
  | .ok _ _ _ => .no
  | .ex c ns vs _ μ' => .ex c ns vs μ'
  | .no => .no) else .no
theorem OwnR.stq {r r' : RC} (S : Stq r r') (hH : r'.H = r.H) {a : Addr} : ∀ {d : D}, OwnR r a d → OwnR r' a d
  | .lst _, ⟨vs, h, q⟩ => ⟨vs, by rw [hH]; exact h, q.stq S⟩
  | .dct _ _, ⟨kvs, h, e, q⟩ => ⟨kvs, by rw [hH]; exact h, e, q.stq S⟩
  | .non, h => h.elim | .bl _, h => h.elim | .int _, h => h.elim | .str _, h => h.elim | .tup _, h => h.elim | .frz _, h => h.elim | .ins _ _ _, h => h.elim | .cell _, h => h.elim
theorem CellR.stq {r r' : RC} (S : Stq r r') (hH : r'.H = r.H) {a : Addr} : ∀ {c : Cell}, CellR r a c → CellR r' a c
  | .lst _, ⟨vs, h, q⟩ => ⟨vs, by rw [hH]; exact h, q.stq S⟩
  | .dct _ _, ⟨kvs, h, e, q⟩ => ⟨kvs, by rw [hH]; exact h, e, q.stq S⟩
  | .ins _ _ _, ⟨Cc, dx, fs, h, m, e, q⟩ => ⟨Cc, dx, fs, by rw [hH]; exact h, by rw [S.g]; exact m, e, q.stq S⟩
theorem EhR.stq {r r' : RC} (S : Stq r r') {dx : Addr} {c : Str} {ns : List Str} {ds : List D} : EhR r dx c ns ds → EhR r' dx c ns ds := fun ⟨fs, h, n, e, q⟩ => ⟨fs, S.h _ _ h n, S.na h n, e, q.stq S⟩
theorem StoR.stq {r r' : RC} (S : Stq r r') (hH : r'.H = r.H) (hC : r'.C = r.C) {μ : Sto} (h : StoR r μ) : StoR r' μ := ⟨by rw [hC]; exact h.1, fun n a c h1 h2 => (h.2 n a c (by rw [← hC]; exact h1) h2).stq S hH⟩
/-- another avoid set, the same heap -/
theorem stq_A {K : PySem.W.Frag} {mg : Str → Option Value} {A A' B B' : Addr → Prop} {C : List Addr} {H : Hp} (h : ∀ b, A' b → A b) : Stq ⟨K, mg, A, B, C, H⟩ ⟨K, mg, A', B', C, H⟩ := ⟨rfl, rfl, fun b z => .inl (h b z), ⟨[], by simp⟩, fun _ _ e _ => e⟩
section
variable {P : Program} {w : World} {K : PySem.W.Frag} {mg : Str → Option Value} {base : Heap}
theorem Rl.init {Φ : Ctx} {N : List Str} {A : Addr → Prop} {C : List Addr} {μ : Sto} {vs : List V} {ds : List D} {H : Hp} (i : CIn K mg A C μ vs ds H) (h1 : Φ.H0 = H) (h2 : Φ.A0 = A) (h3 : Φ.C0 = C) (h4 : ∀ a, ¬ Φ.M0 a) :
    RlK Φ K mg (ds.map (fun d => some (Ent.sh d)) ++ List.replicate (N.length - ds.length) none) μ C [] (start N vs) H := by
  have hl := i.arg.length
  have S : Stq ⟨K, mg, A, fun _ => False, C, H⟩ (rcK Φ K mg C [] H) := stq_A fun b z => by
    rcases z with z | z | ⟨j, z⟩
    · rw [← h2]; exact z
    · exact i.cA b z
    · cases z
  subst h1 h2 h3
  refine ⟨by unfold start; simp [hl], fun j t e => ?_, i.sto.stq S rfl rfl, fun _ _ _ z => (by cases z), fun _ _ z => (by cases z), ⟨[], by simp⟩, fun a z => .inl z, i.cnd, fun a z => i.alv a (i.cA a z), fun a o z _ _ => z, fun a z => ?_⟩
  · by_cases hj : j < ds.length
    · rw [List.getElem?_append_left (by simpa using hj), List.getElem?_map] at e
      obtain ⟨d, e1, e2⟩ := Option.map_eq_some_iff.mp e
      cases e2
      obtain ⟨v, hv, q⟩ := i.arg.get e1
      refine ⟨v, ?_, q.stq S⟩
      unfold start
      rw [List.getElem?_append_left (by simpa [hl] using hj), List.getElem?_map, hv] <;> rfl
    · rw [List.getElem?_append_right (by simpa using hj), List.getElem?_replicate] at e
      split at e <;> cases e
  · rcases z with z | z
    · exact i.alv a z
    · exact (h4 a z).elim
theorem Rl.out {Φ : Ctx} {ρ : Env} {μ : Sto} {A : Addr → Prop} {C C' : List Addr} {os : Os} {σ : L2.St} {H H' : Hp} (h1 : Φ.H0 = H) (h2 : Φ.A0 = A) (h3 : Φ.C0 = C) (h4 : ∀ a, ¬ Φ.M0 a) (R : RlK Φ K mg ρ μ C' os σ H') (zo : List Addr) (hz : ∀ a ∈ zo, ∃ i, (i, a) ∈ os) :
    COut K mg A zo C H C' H' μ ∧ Stq (rcK Φ K mg C' os H') (rO K mg A zo C' H') := by
  subst h1 h2 h3
  have S : Stq (rcK Φ K mg C' os H') (rO K mg Φ.A0 zo C' H') := stq_A fun b z => by
    rcases z with z | z | z
    · exact .inl z
    · exact .inr (.inl z)
    · exact .inr (.inr (hz b z))
  refine ⟨⟨R.pre, R.cfr, R.cnd, R.clv, fun a o e n => R.frm a o e (fun hC => ?_) (h4 a), R.sto.stq S rfl rfl, fun a z => ?_⟩, S⟩
  · rcases R.cfr a hC with q | q
    · exact n q
    · rw [e] at q; cases q
  · obtain ⟨i, q⟩ := hz a z
    obtain ⟨f1, f2, _, f4⟩ := R.fre i a q
    exact ⟨f1.elim id fun z => (h4 a z).elim, f2, f4⟩
/-- THE RULE for a def -/
theorem Fun.okD {x qual : Str} {st : Stmt} {f : Addr} {fd : FuncData} {N ps : List Str} {k : Nat} {g : Mo Fl} (F : Fun K x qual st f fd) (S : FnScope N ps (defScope st))
    (hb : ∀ (Φ : Ctx) (cdv : Value) (A : Around) (outer : List PySem.Env) (s : Shared) (H : Hp) (E : XK), Cn Φ (cxOf (L2.CX P w) P w K mg base N qual (defScope st) f cdv A outer s H E) k → (∀ a, ¬ Φ.M0 a) →
      DSs Φ (cxOf (L2.CX P w) P w K mg base N qual (defScope st) f cdv A outer s H E) (defBody st) g) : FnOk P w K mg base (L2.CX P w) (k + 1) f fd ps (spD K mg (runD ps.length N.length g)) := by
  refine Fun.okX F S (fun vs H Q E h => ?_) fun cdv A outer s H vs Q E hr h => ?_
  · obtain ⟨ds, μ, A, C, i, z⟩ := h
    unfold runD at z
    split at z
    · rename_i hl
      rw [i.arg.length, hl]
    · exact z.elim
  · obtain ⟨ds, μ, A', C, i, z⟩ := h
    let Φ : Ctx := ⟨H, A', C, fun _ => False, fun cls d _ H' => E cls d H', none, ""⟩
    have cn : Cn Φ (cxOf (L2.CX P w) P w K mg base N qual (defScope st) f cdv A outer s H E) k := ⟨S.nd, rfl, passes_of rfl, takes_of (X := cxOf (L2.CX P w) P w K mg base N qual (defScope st) f cdv A outer s H E) rfl rfl rfl rfl, hr⟩
    refine ⟨_, hb Φ cdv A outer s H E cn (fun _ h => h), _, μ, C, [], Rl.init (N := N) i rfl rfl rfl (fun _ h => h), ?_⟩
    have nm : ∀ a, ¬ Φ.M0 a := fun _ h => h
    unfold runD at z
    split at z
    · rename_i hl
      cases e : g (ds.map (fun d => some (Ent.sh d)) ++ List.replicate (N.length - ds.length) none) μ with
      | no => rw [e] at z; exact z
      | ex c ns es ρ' μ' =>
        rw [e] at z
        intro Cc dx σ' H' C' os' R _ hm he
        obtain ⟨o, S'⟩ := Rl.out (A := A') (C := C) (H := H) rfl rfl rfl nm R [] (fun a z => by cases z)
        exact z Cc dx H' C' o hm (he.stq S')
      | ok fl ρ' μ' =>
        rw [e] at z
        intro σ' H' C' os' R _
        cases fl with
        | bk => exact z.elim
        | ct => exact z.elim
        | nx =>
          obtain ⟨o, S'⟩ := Rl.out (A := A') (C := C) (H := H) rfl rfl rfl nm R [] (fun a z => by cases z)
          exact z .non H' C' o .non
        | rt d =>
          obtain ⟨o, S'⟩ := Rl.out (A := A') (C := C) (H := H) rfl rfl rfl nm R [] (fun a z => by cases z)
          exact fun v q => z v H' C' o (q.stq S')
        | ro d =>
          intro a j hj q
          obtain ⟨o, S'⟩ := Rl.out (A := A') (C := C) (H := H) rfl rfl rfl nm R [a] (fun b z => by
            cases List.mem_singleton.mp z
            exact ⟨j, hj⟩)
          exact z a H' C' o (q.stq S' rfl)
    · exact z.elim
end

/-! ### a call -/
section
variable {Φ : Ctx} {X : Cx} {f g : Mo D}
def osZ (i : Nat) (zo : List Addr) (os : Os) : Os := zo.map (fun a => (some i, a)) ++ os
theorem CIn.of {ρ : Env} {μ : Sto} {C : List Addr} {os : Os} {σ : L2.St} {H : Hp} {vs : List V} {ds : List D} (R : Rl Φ X ρ μ C os σ H) (q : Reps (rc Φ X C os H) vs ds) : CIn X.K X.mg (AA Φ C os) C μ vs ds H := by
  have S : Stq (rc Φ X C os H) ⟨X.K, X.mg, AA Φ C os, fun _ => False, C, H⟩ := stq_A fun b z => z
  refine ⟨q.stq S, R.sto.stq S rfl rfl, R.cnd, fun a z => .inr (.inl z), fun a z => ?_⟩
  rcases z with z | z | ⟨i, z⟩
  · exact R.alv a (.inl z)
  · exact R.clv a z
  · exact (R.fre i a z).2.2.2
theorem Rl.called {ρ : Env} {μ μ' : Sto} {C C' : List Addr} {os : Os} {σ : L2.St} {H H' : Hp} {zo : List Addr} {i : Nat} (R : Rl Φ X ρ μ C os σ H) (o : COut X.K X.mg (AA Φ C os) zo C H C' H' μ') :
    Rl Φ X ρ μ' C' (osZ i zo os) σ H' ∧ Stp (rc Φ X C os H) (rc Φ X C' (osZ i zo os) H') ∧ Stq (rO X.K X.mg (AA Φ C os) zo C' H') (rc Φ X C' (osZ i zo os) H') := by
  obtain ⟨m, em⟩ := o.pre
  have inC : ∀ a ∈ C, a ∈ C' := fun a z => by rw [em]; exact List.mem_append_left _ z
  have mz : ∀ {j b}, (j, b) ∈ osZ i zo os → (j = some i ∧ b ∈ zo) ∨ (j, b) ∈ os := fun {j b} z => by
    rcases List.mem_append.mp z with z | z
    · obtain ⟨a, h1, h2⟩ := List.mem_map.mp z
      cases h2
      exact .inl ⟨rfl, h1⟩
    · exact .inr z
  have mo : ∀ {j b}, (j, b) ∈ os → (j, b) ∈ osZ i zo os := fun z => List.mem_append_right _ z
  have nC : ∀ {j b}, (j, b) ∈ os → b ∉ C := fun z => (R.fre _ _ z).2.1
  have live : ∀ b u, H b = some u → ∃ u', H' b = some u' := fun b u e => by
    by_cases hC : b ∈ C
    · exact o.clv b (inC b hC)
    · exact ⟨u, o.frm b u e hC⟩
  have S : Stp (rc Φ X C os H) (rc Φ X C' (osZ i zo os) H') := by
    refine ⟨rfl, rfl, fun b z => ?_, o.pre, fun b u e n => o.frm b u e fun hC => n (.inr (.inl hC)), live, fun b z => mo z, fun b u e z => o.frm b u e (nC z)⟩
    rcases z with z | z | ⟨j, z⟩
    · exact .inl (.inl z)
    · rcases o.cfr b z with q | q
      · exact .inl (.inr (.inl q))
      · exact .inr q
    · rcases mz z with ⟨_, q⟩ | q
      · exact .inr (o.zfr b q).1
      · exact .inl (.inr (.inr ⟨j, q⟩))
  have S2 : Stq (rO X.K X.mg (AA Φ C os) zo C' H') (rc Φ X C' (osZ i zo os) H') := stq_A fun b z => by
    rcases z with z | z | ⟨j, z⟩
    · exact .inl (.inl z)
    · exact .inr (.inl z)
    · rcases mz z with ⟨_, q⟩ | q
      · exact .inr (.inr q)
      · exact .inl (.inr (.inr ⟨j, q⟩))
  have h0 : ∀ b, H b = none → Φ.H0 b = none := fun b e => by
    cases e0 : Φ.H0 b with
    | none => rfl
    | some u =>
      have nC : b ∉ C := fun z => by
        obtain ⟨u', e'⟩ := R.clv b z
        rw [e] at e'; cases e'
      have nM : ¬ Φ.M0 b := fun z => by
        obtain ⟨u', e'⟩ := R.alv b (.inr z)
        rw [e] at e'; cases e'
      rw [R.frm b u e0 nC nM] at e; cases e
  refine ⟨⟨R.len, fun j t e => ?_, o.sto.stq S2 rfl rfl, fun j k b z1 z2 => ?_, fun j b z => ?_, ?_, fun b z => ?_, o.cnd, o.clv, fun b u e n1 n2 => ?_, fun b z => ?_⟩, S, S2⟩
  · obtain ⟨v, h1, h2⟩ := R.env j t e
    refine ⟨v, h1, ?_⟩
    cases t with
    | sh d => exact Rep.step S h2
    | ow d =>
      obtain ⟨b, e1, e2, e3⟩ := h2
      exact ⟨b, e1, mo e2, e3.stepH S fun u hu => o.frm b u hu (nC e2)⟩
    | bd c ns ds =>
      obtain ⟨b, e1, e2, e3⟩ := h2
      exact ⟨b, e1, mo e2, BdR.stepB S (fun u hu => o.frm b u hu (nC e2)) e3⟩
    | eh c ns ds =>
      obtain ⟨b, dx, e1, e2, e3⟩ := h2
      exact ⟨b, dx, e1, e2, e3.step S⟩
  · rcases mz z1 with ⟨rfl, q1⟩ | q1 <;> rcases mz z2 with ⟨rfl, q2⟩ | q2
    · rfl
    · obtain ⟨_, _, _, u, e⟩ := R.fre _ _ q2
      rw [(o.zfr b q1).1] at e; cases e
    · obtain ⟨_, _, _, u, e⟩ := R.fre _ _ q1
      rw [(o.zfr b q2).1] at e; cases e
    · exact R.own j k b q1 q2
  · rcases mz z with ⟨rfl, q⟩ | q
    · obtain ⟨z1, z2, z3⟩ := o.zfr b q
      refine ⟨.inl (h0 b z1), z2, fun hA => ?_, z3⟩
      obtain ⟨u, e⟩ := R.alv b (.inl hA)
      rw [z1] at e; cases e
    · obtain ⟨f1, f2, f3, u, f4⟩ := R.fre j b q
      refine ⟨f1, fun hC => ?_, f3, live b u f4⟩
      rcases o.cfr b hC with y | y
      · exact f2 y
      · rw [f4] at y; cases y
  · obtain ⟨n, en⟩ := R.pre
    exact ⟨n ++ m, by rw [em, en, List.append_assoc]⟩
  · rcases o.cfr b z with q | q
    · exact R.cfr b q
    · exact .inr (h0 b q)
  · have nC : b ∉ C := fun z => n1 (inC b z)
    exact o.frm b u (R.frm b u e nC n2) nC
  · obtain ⟨u, e⟩ := R.alv b z
    exact live b u e
/-- the module's def x, as the function G, k levels deep -/
structure Dfn (P : Program) (w : World) (K : PySem.W.Frag) (mg : Str → Option Value) (base : Heap) (x : Str) (k : Nat) (G : Fn) : Prop where
  ex : ∃ f fd ps, FnOk P w K mg base (L2.CX P w) k f fd ps (spD K mg G) ∧ mg x = some (.ref f) ∧ PySem.W.keepIn K (.ref f) = true ∧ Binds K fd ps []
/-- what a call wants of the body it stands in -/
structure Cc (Φ : Ctx) (X : Cx) (k : Nat) : Prop where
  tk : Takes X Φ.W
  rm : Room k X.A
theorem Cn.cc {k : Nat} (c : Cn Φ X k) : Cc Φ X k := ⟨c.tk, c.rm⟩
theorem Cn.blk {k : Nat} (c : Cn Φ X k) {s : Shared} {H : Hp} {scope : Scope} {ce : PySem.Env} {fp : List Addr} : Cc Φ.nx (X.blk s H scope ce fp) k := ⟨takes0, c.rm⟩
def calM (G : Fn) (fa : Mo (List D)) : Mo D := bnd fa fun ds ρ μ => match G ds μ with
  | .ok d μ' => .ok d ρ μ'
  | .ow d μ' => .ok d ρ μ'
  | .ex c ns vs μ' => .ex c ns vs ρ μ'
  | .no => .no
def cawM (G : Fn) (fa : Mo (List D)) : Mo D := bnd fa fun ds ρ μ => match G ds μ with
  | .ow d μ' => .ok d ρ μ'
  | .ex c ns vs μ' => .ex c ns vs ρ μ'
  | _ => .no
theorem COut.let {A : Addr → Prop} {C C' : List Addr} {H H' : Hp} {μ : Sto} {K : PySem.W.Frag} {mg : Str → Option Value} {a : Addr} (o : COut K mg A [a] C H C' H' μ) (al : ∀ b, A b → ∃ u, H b = some u) : COut K mg A [] C H C' H' μ ∧ Stq (rO K mg A [a] C' H') (rO K mg A [] C' H') ∧ ¬ (rO K mg A [] C' H').A a := by
  have S : Stq (rO K mg A [a] C' H') (rO K mg A [] C' H') := stq_A fun b z => by
    rcases z with z | z | z
    · exact .inl z
    · exact .inr (.inl z)
    · cases z
  obtain ⟨z1, z2, _⟩ := o.zfr a List.mem_cons_self
  refine ⟨⟨o.pre, o.cfr, o.cnd, o.clv, o.frm, o.sto.stq S rfl rfl, fun b z => by cases z⟩, S, fun z => ?_⟩
  rcases z with z | z | z
  · obtain ⟨u, e⟩ := al a z
    rw [z1] at e; cases e
  · exact z2 z
  · cases z
/-- an argument list that stands, then the callee -/
theorem call_at {G : Fn} {ρ : Env} {μ : Sto} {C : List Addr} {os : Os} {σ : L2.St} {H : Hp} {vs : List V} {ds : List D} {Q : VK} (R : Rl Φ X ρ μ C os σ H) (q : Reps (rc Φ X C os H) vs ds)
    (z : PostE Φ X C os σ H ((fun ρ μ => match G ds μ with
      | .ok d μ' => .ok d ρ μ'
      | .ow d μ' => .ok d ρ μ'
      | .ex c ns vs μ' => .ex c ns vs ρ μ'
      | .no => .no : Mo D) ρ μ) Q) : spD X.K X.mg G vs H Q (WE Φ.W σ) := by
  have i := CIn.of R q
  refine ⟨ds, μ, AA Φ C os, C, i, ?_⟩
  cases e : G ds μ with
  | no => simp only [e] at z; exact z
  | ex c ns es μ' =>
    simp only [e] at z
    intro Cc dx H' C' o hm he
    obtain ⟨R', S', S2⟩ := R.called (i := 0) o
    exact z Cc dx H' C' _ R' S' hm (he.stq S2)
  | ok d μ' =>
    simp only [e] at z
    intro v H' C' o q'
    obtain ⟨R', S', S2⟩ := R.called (i := 0) o
    exact z v H' C' _ R' S' (q'.stq S2)
  | ow d μ' =>
    simp only [e] at z
    intro a H' C' o q'
    obtain ⟨o2, S3, na⟩ := o.let i.alv
    obtain ⟨R', S', S2⟩ := R.called (i := 0) o2
    exact z _ H' C' _ R' S' (((q'.stq S3 rfl).rep na).stq S2)
theorem call_atF {G : Fn} {j : Nat} {ρ : Env} {μ : Sto} {C : List Addr} {os : Os} {σ : L2.St} {H : Hp} {vs : List V} {ds : List D} {Q : VK} (R : Rl Φ X ρ μ C os σ H) (q : Reps (rc Φ X C os H) vs ds)
    (z : PostF Φ X j C os σ H ((fun ρ μ => match G ds μ with
      | .ow d μ' => .ok d ρ μ'
      | .ex c ns vs μ' => .ex c ns vs ρ μ'
      | _ => .no : Mo D) ρ μ) Q) : spD X.K X.mg G vs H Q (WE Φ.W σ) := by
  have i := CIn.of R q
  refine ⟨ds, μ, AA Φ C os, C, i, ?_⟩
  cases e : G ds μ with
  | no => simp only [e] at z; exact z
  | ok d μ' => simp only [e] at z; exact z.elim
  | ex c ns es μ' =>
    simp only [e] at z
    intro Cc dx H' C' o hm he
    obtain ⟨R', S', S2⟩ := R.called (i := 0) o
    exact z Cc dx H' C' _ R' S' hm (he.stq S2)
  | ow d μ' =>
    simp only [e] at z
    intro a H' C' o q'
    obtain ⟨R', S', S2⟩ := R.called (i := j) o
    exact z a H' C' _ R' S' (q'.stq S2 rfl)
variable {x : Str} {p pos : Pos} {e : Expr} {es : List Expr} {G : Fn} {k : Nat} {fa : Mo (List D)}
theorem de_call (F : Dfn X.prog X.w X.K X.mg X.base x k G) (c : Cc Φ X k) (hg : Gl X x) (ha : DA Φ X (e :: es) fa)
    (hdb : (x == ("__debug__" : Str)) = false := by decide) (he : starEach (e :: es) X.env = (false, eval e X.env) :: starEach es X.env := by rfl) (hpl : (backTo pos (starEach es X.env)).any (·.1) = false := by rfl) : DE Φ X (.Call (.Name x p) (e :: es) [] pos) (calM G fa) := by
  obtain ⟨f, fd, ps, F, hm, hk, hb⟩ := F.ex
  exact PE.imp (pe_callSD (dvs := []) F c.rm hg hm hk hb .nil (fun σ => passAt c.tk σ) ha hdb he hpl) fun σ H Q ⟨ρ, μ, C, os, R, z⟩ => ⟨ρ, μ, C, os, R, PostE.bndA z fun ds ρ1 μ1 vs H1 C1 os1 R1 S1 q1 z1 => by
    rw [List.append_nil]
    exact call_at R1 q1 z1⟩
theorem df_call {i : Nat} (F : Dfn X.prog X.w X.K X.mg X.base x k G) (c : Cc Φ X k) (hg : Gl X x) (ha : DA Φ X (e :: es) fa)
    (hdb : (x == ("__debug__" : Str)) = false := by decide) (he : starEach (e :: es) X.env = (false, eval e X.env) :: starEach es X.env := by rfl) (hpl : (backTo pos (starEach es X.env)).any (·.1) = false := by rfl) : DF Φ X i (.Call (.Name x p) (e :: es) [] pos) (cawM G fa) := by
  obtain ⟨f, fd, ps, F, hm, hk, hb⟩ := F.ex
  exact PE.imp (pe_callSD (dvs := []) F c.rm hg hm hk hb .nil (fun σ => passAt c.tk σ) ha hdb he hpl) fun σ H Q ⟨ρ, μ, C, os, R, z⟩ => ⟨ρ, μ, C, os, R, PostF.bndA z fun ds ρ1 μ1 vs H1 C1 os1 R1 S1 q1 z1 => by
    rw [List.append_nil]
    exact call_atF R1 q1 z1⟩
/-- return of a new list -/
def rtF (f : Mo D) : Mo Fl := bnd f fun d => ret (.ro d)
theorem ds_retF {i : Nat} {f : Mo D} (h : DF Φ X i e f) : DS Φ X (.Return (some e) pos) (rtF f) := PS.imp (ps_ret h) fun E σ H ⟨ρ, μ, C, os, R, z⟩ => by
  refine ⟨ρ, μ, C, os, R, ?_⟩
  unfold rtF bnd at z
  cases e : f ρ μ with
  | no => rw [e] at z; exact z
  | ex c ns ds ρ1 μ1 => rw [e] at z; exact fun Cc dx H' C' os' R S g e => z Cc dx σ H' C' os' R S g e
  | ok d ρ1 μ1 =>
    rw [e] at z
    exact fun a H1 C1 os1 R1 S1 w => z _ _ C1 _ R1 S1 a (some i) List.mem_cons_self w
end
end L2.DL

/-! DLH: several except clauses, each with or without a name. -/
namespace L2.DL
open PySem PySem.Spec PyProof.Rows
/-- a clause: its class, the slot of its name, its suite -/
structure Hd where
  c : Value
  nm : Option Nat
  ts : Addr → Value → Option Addr → TS
def Hd.beg (h : Hd) (σ : L2.St) (a : Addr) : L2.St := match h.nm with
  | none => σ
  | some i => σ.set i (some (.ref a))
def Hd.fin (h : Hd) (σ : L2.St) : L2.St := match h.nm with
  | none => σ
  | some i => σ.set i none
def Hd.ends (h : Hd) (D : Ends) : Ends := { nx := fun σ H => D.nx (h.fin σ) H, rt := D.rt, bk := fun σ H => D.bk (h.fin σ) H, ct := fun σ H => D.ct (h.fin σ) H }
def wH (K : PySem.W.Frag) (Wo : WX) (D : Ends) : List Hd → WX
  | [] => Wo
  | h :: r => fun cls d σ H => ∃ b, PySem.W.exmOne K cls h.c = some b ∧ (b = true → ∀ a, H a = none → h.ts a cls d (h.ends D) (h.beg σ a) H) ∧ (b = false → wH K Wo D r cls d σ H)
/-- the suite's rule, at each exception -/
def SuO (X : Cx) (b : Stmt) (bs : List Stmt) (ts : Addr → Value → Option Addr → TS) : Prop :=
  ∀ (a : Addr) (o : Obj) (cls : Value) (d : Option Addr) (pn : List (Addr × Obj)), Zc cls d o → (∃ ws, o.data = .fields ws) → PSs (X.suite a ((a, o) :: pn)) (b :: bs) (ts a cls d)
inductive HsOk (X : Cx) : List ExceptHandler → List Hd → Prop
  | nil : HsOk X [] []
  | bare {x : Str} {c : Value} {ts : Addr → Value → Option Addr → TS} {b : Stmt} {bs : List Stmt} {p q : Pos} {hs : List ExceptHandler} {l : List Hd} (hc : Names X x c) (su : SuO X b bs ts) (r : HsOk X hs l) :
      HsOk X (.ExceptHandler (some (.Name x p)) none (b :: bs) q :: hs) (⟨c, none, ts⟩ :: l)
  | as {x n : Str} {i : Nat} {c : Value} {ts : Addr → Value → Option Addr → TS} {b : Stmt} {bs : List Stmt} {p q : Pos} {hs : List ExceptHandler} {l : List Hd} (hc : Names X x c) (hi : X.N[i]? = some n) (hl : X.env.kindOf n = some .local) (su : SuO X b bs ts)
      (r : HsOk X hs l) : HsOk X (.ExceptHandler (some (.Name x p)) (some n) (b :: bs) q :: hs) (⟨c, some i, ts⟩ :: l)
section
variable {X : Cx} {body : List Stmt} {h0 : ExceptHandler} {hds : List ExceptHandler} {l : List Hd} {pos : Pos} {tb : WX → TS} {Wo : WX}
theorem ps_tryH (st : X.stack = X.env :: X.outer) (fr : X.env.frame = some X.env.locals) (nd : X.N.Nodup) (tk : Takes X Wo)
    (bd : ∀ (W : WX) (pn : List (Addr × Obj)) (xe : Value → Shared → Prop), Takes (X.tr pn xe) W → PassesOwn (model X.prog X.w) X.A X.env xe → PSs (X.tr pn xe) body (tb W))
    (hk : HsOk X (h0 :: hds) l) : PS X (.Try body (h0 :: hds) [] [] pos) (fun D σ H => tb (wH X.K Wo D l) D σ H) := by
  refine ⟨fun pins s σ H D I h => wpAny_Try_except ?_⟩
  have ok := I.ok
  have frs' : X.A.frames = some (X.env :: X.outer) := ok.frames.trans (congrArg some st)
  have caught : ∀ u s', XE (X.tr (X.pn ++ pins) (fun e s₁ => wpAny (model X.prog X.w) X.A (noteFrame e X.env) (fun _ s₂ => wpAny (model X.prog X.w) X.A (setFlight e none) (fun _ s₃ =>
      wpAny (model X.prog X.w) X.A (handleBy e X.env (h0 :: hds)) (SP X pins D) X.xe s₃) X.xe s₂) X.xe s₁)) (wH X.K Wo D l) u s' →
      wpAny (model X.prog X.w) X.A (noteFrame u X.env) (fun _ s₂ => wpAny (model X.prog X.w) X.A (setFlight u none) (fun _ s₃ => wpAny (model X.prog X.w) X.A (handleBy u X.env (h0 :: hds)) (SP X pins D) X.xe s₃) X.xe s₂) X.xe s' := by
    rintro u s' ⟨a, B, sI, pins', σ1, H1, cls, d, rfl, J0, nb, up, sky, na, os, ag, w⟩
    have J : Inv X pins σ1 H1 sI := J0.ofTry ok
    have sk : Sky B (X.env :: X.outer) a (Zc cls d) X.env.locals s'.heap := st ▸ sky
    refine Sky.land Zc.steady frs' fr sk fun h3 fl up3 => ?_
    have J3 : Inv X pins σ1 H1 { s' with heap := h3 } := J.landed nb fl.1 (up.trans up3) os ag
    obtain ⟨o3, v3, e3, z3, d3⟩ := fl.there
    have apart : a ∉ frs (X.env :: X.outer) := fun hm => by
      obtain ⟨_, o', e', hnf⟩ := fl.2.2.1.mem hm
      cases e3.symm.trans e'
      exact hnf _ d3
    have nL : a ≠ X.env.locals := fun z => apart (List.mem_filterMap.mpr ⟨X.env, List.mem_cons_self, fr.trans (congrArg some z.symm)⟩)
    have nF : a ∉ X.fs := fun hm => let ⟨e, he, q⟩ := List.mem_filterMap.mp hm; apart (List.mem_filterMap.mpr ⟨e, List.mem_cons_of_mem _ he, q⟩)
    have S3 := J3.suite e3 d3 na nL nF
    have tst : ∀ {x : Str} {c : Value} {p : Pos} {Q E : Value → Shared → Prop}, Names X x c → Q c { s' with heap := h3 } → wpAny (model X.prog X.w) (X.A.mark (some (.ref a))) (eval (.Name x p) X.env) Q E { s' with heap := h3 } := fun {x c p Q E} hc q => by
      obtain ⟨hg, hdb, hm | ⟨hm, hv, nn⟩⟩ := hc
      · exact ld_glob (X := X.suite a ((a, o3) :: (X.pn ++ pins))) S3 hg hm q hdb
      · exact ld_blt (X := X.suite a ((a, o3) :: (X.pn ++ pins))) S3 hg hm hv q nn hdb
    have LT : PySem.W.Looks (model X.prog X.w) h3 (typeOf (.ref a)) cls := fun _ _ _ _ k q => wpAny_typeOf_ref (k _ _ e3) (z3.1.symm ▸ q)
    have go : ∀ {hs' : List ExceptHandler} {l' : List Hd}, HsOk X hs' l' → wH X.K Wo D l' cls d σ1 H1 → wpAny (model X.prog X.w) X.A (handleBy (.ref a) X.env hs') (SP X pins D) X.xe { s' with heap := h3 } := by
      intro hs' l' hk'
      induction hk' with
      | nil =>
        intro w'
        refine wpAny_handleBy_nil ?_
        obtain ⟨y1, y2, y3, oe, ws, T, oT, ts', he, hz, hd, h1, hr⟩ := id fl
        unfold PySem.passOn
        refine wpAny_bind (wpAny_field he hd h1 ?_)
        rw [if_neg (by simp : ¬ ((Value.ref T == Value.none) = true))]
        have fin : wpAny (model X.prog X.w) X.A (setFlight (.ref a) X.env.frame) (fun _ s4 => wpAny (model X.prog X.w) X.A (throw (.ref a) : Sem Flow) (SP X pins D) X.xe s4) X.xe { s' with heap := h3 } := by
          rw [fr]
          exact HandSPX.setFlight_upZ fl fun h4 hh4 up4 => wpAny_throw (tk _ _ ⟨a, B, sI, pins, σ1, H1, cls, d, rfl, J, nb, (up.trans up3).trans up4, .inr (.inr (st.symm ▸ hh4)), na, os, ag, w'⟩)
        first
          | exact wpAny_bind (wpAny_pure (wpAny_bind fin))
          | exact wpAny_bind fin
      | @bare x c ts b bs p q hs2 l2 hc su r ih =>
        rintro ⟨k, k1, yes, no⟩
        refine wpAny_handleBy_cons (codeAny_handlers_test (tst hc ((PySem.W.exm_one (M := model X.prog X.w) J3.kIn LT k1).here ?_))) (by rintro ⟨⟩)
        cases k with
        | false => exact ih (no rfl)
        | true =>
          refine codeAny_handlers_suite (HandSPX.lands_againZ fl fun h4 fl4 up4 => ?_)
          have J4 : Inv X pins σ1 H1 { s' with heap := h4 } := J.landed nb fl4.1 ((up.trans up3).trans up4) os ag
          obtain ⟨o4, v4, e4, z4, d4⟩ := fl4.there
          refine wpAny_mono ((su a o4 cls d (X.pn ++ pins) z4 ⟨_, d4⟩).run [] _ _ H1 _ (J4.suite e4 d4 na nL nF) (yes rfl a na)) (fun f s6 z => ?_) (fun _ _ z => z.elim)
          cases f with
          | next => obtain ⟨σ6, H6, S6, q6⟩ := z; exact ⟨_, _, S6.unsuite ok, q6⟩
          | brk => obtain ⟨σ6, H6, S6, q6⟩ := z; exact ⟨_, _, S6.unsuite ok, q6⟩
          | cont => obtain ⟨σ6, H6, S6, q6⟩ := z; exact ⟨_, _, S6.unsuite ok, q6⟩
          | ret u => obtain ⟨v6, σ6, H6, S6, r6, q6⟩ := z; exact ⟨_, _, _, S6.unsuite ok, r6, q6⟩
      | @as x n i c ts b bs p q hs2 l2 hc hi hl su r ih =>
        rintro ⟨k, k1, yes, no⟩
        refine wpAny_handleBy_cons (codeAny_handlers_test (tst hc ((PySem.W.exm_one (M := model X.prog X.w) J3.kIn LT k1).here ?_))) (by rintro ⟨⟩)
        cases k with
        | false => exact ih (no rfl)
        | true =>
          refine codeAny_handlers_suite_as (HandSPX.lands_againZ fl fun h4 fl4 up4 => ?_)
          have J4 : Inv X pins σ1 H1 { s' with heap := h4 } := J.landed nb fl4.1 ((up.trans up3).trans up4) os ag
          obtain ⟨o4, v4, e4, z4, d4⟩ := fl4.there
          refine store_ok (X := X.suite a ((a, o4) :: (X.pn ++ pins))) (v := .ref a) (J4.suite e4 d4 na nL nF) nd hi (.inl hl) rfl (fun s5 S5 => ?_) (.inr hl)
          have fini : ∀ {s6 : Shared} {σ6 : L2.St} {H6 : Hp} {Q : Shared → Prop}, Inv (X.suite a ((a, o4) :: (X.pn ++ pins))) [] σ6 H6 s6 → (∀ s7, Inv X pins (σ6.set i none) H6 s7 → Q s7) →
              wpAny (model X.prog X.w) X.A (do bindName X.env n .none; unbindBehindTheSuite X.env n q) (fun _ s7 => Q s7) X.xe s6 := fun S6 hq => gone_ok (S6.unsuite ok) nd hi hl hq
          refine wpAny_mono ((su a o4 cls d (X.pn ++ pins) z4 ⟨_, d4⟩).run [] s5 _ H1 _ S5 (yes rfl a na)) (fun f s6 z => ?_) (fun _ _ z => z.elim)
          cases f with
          | next => obtain ⟨σ6, H6, S6, q6⟩ := z; exact fini S6 fun s7 J7 => ⟨_, _, J7, q6⟩
          | brk => obtain ⟨σ6, H6, S6, q6⟩ := z; exact fini S6 fun s7 J7 => ⟨_, _, J7, q6⟩
          | cont => obtain ⟨σ6, H6, S6, q6⟩ := z; exact fini S6 fun s7 J7 => ⟨_, _, J7, q6⟩
          | ret u => obtain ⟨v6, σ6, H6, S6, r6, q6⟩ := z; exact fini S6 fun s7 J7 => ⟨_, _, _, J7, r6, q6⟩
    exact go hk w
  refine wpAny_mono ((bd (wH X.K Wo D l) (X.pn ++ pins) _ caught PassesOwn.looking).run [] s σ H D (I.toTry _) h) (fun f s1 z => ?_) fun _ _ z => z
  cases f with
  | next => obtain ⟨σ', H', J', q⟩ := z; exact wpAny_execs_nil ⟨σ', H', J'.ofTry ok, q⟩
  | brk => obtain ⟨σ', H', J', q⟩ := z; exact ⟨σ', H', J'.ofTry ok, q⟩
  | cont => obtain ⟨σ', H', J', q⟩ := z; exact ⟨σ', H', J'.ofTry ok, q⟩
  | ret u => obtain ⟨v, σ', H', J', r, q⟩ := z; exact ⟨v, σ', H', J'.ofTry ok, r, q⟩
end
end L2.DL

/-! DLE: own error classes over any base whose __init__ stores fields: they are made and raised. -/
namespace L2.DL
open PySem PySem.Spec PyProof.Rows Builtin Builtin.ObjectAttr
section
variable {prog : Program} {w : World} {A : Around} {R : Result → Shared → Prop} {hp : Heap} {g : Array GenState} {d : Drawn} {t : Nat} {os : OsState}
/-- object.__setattr__ up to the store in the own dict -/
theorem osa_any {K : PySem.W.Frag} {f : Str} {tk : Tok} {v : Value} {x C : Addr} {ox : Obj} {od : Option Obj} {cd : ClassData} (X : K.In hp) (I : PySem.W.InstAt hp x ox C od) (hc : PySem.W.clsIn K C = some cd)
    (np : ∀ self, refuseLoop self "__setattr__" cd.mro = pure ()) (hob : cd.mro.contains (.type "object") = true) (ha : PySem.W.findIn K (.ref C) f = some none)
    (hq : wpAny (model prog w) A.in1 (storeInOwnDict (.ref x) (.ref C) (.str f tk) f v false) (fun fin s' => match fin with
      | .done f => R (.ok f) s'
      | .again c' => c'.quiet = true ∧ codeAny (model prog w) A c' R s') (fun e s' => R (.error e) s') ⟨hp, g, d, t, os⟩) :
    codeAny (model prog w) A (.call (.builtin "object.__setattr__") ⟨[.ref x, .str f tk, v], []⟩) R ⟨hp, g, d, t, os⟩ := by
  have SF := PySem.F.store_object
  have ne : cd.mro.isEmpty = false := by
    cases e : cd.mro with
    | nil => rw [e] at hob; cases hob
    | cons _ _ => rfl
  have inst : PySem.W.Looks (model prog w) hp (isInstance (.ref x) (.type "object")) true := I.type.andThen (PySem.W.looks_mroIn X (by unfold PySem.W.mroIn; rw [hc, Option.bind_some, if_neg (by rw [ne]; decide), hob]))
  refine codeAny_call_builtin SF.slot.plain SF.entry (@PySem.W.check_slot (model prog w) _ _ ⟨hp, g, d, t, os⟩ "object.__setattr__" "object" "__setattr__" (.ref x) [.str f tk, v] [] _ SF.kind SF.split inst (SF.args (.ref x) (.str f tk) v) ?_)
  have mro : PySem.W.Looks (model prog w) hp (mroOf (.ref C)) cd.mro := (PySem.W.looks_clsIn X hc).andThen .now
  have tkr : PySem.W.Looks (model prog w) hp (storeTaker? none) none := .now
  rw [PySem.W.osa_eq, refuse_eq]
  refine wpAny_bind (wpAny_bind (I.type.at (wpAny_bind (mro.at ?_))))
  rw [np]
  exact wpAny_pure (wpAny_bind (I.type.at (wpAny_bind ((PySem.W.looks_findIn X ha).at (wpAny_bind (tkr.at hq))))))
end
/-- what the written part says of an error class: bm0 the mro of the base, nw the base's __new__ -/
structure ExC (K : PySem.W.Frag) (C : Addr) (bm0 : List Value) (nw : String) : Prop where
  cls : ∃ nm q N bs bm sn sub ab col dd k0 k1 k2 k3 k5, K.lookup C = some (excClassObj nm q C N bs bm true sn sub ab col dd k0 k1 k2 k3 k5 nw) ∧ (∀ x : String, bm.contains (.type x) = bm0.contains (.type x)) ∧ bm.contains (.type "object") = true ∧
    ∀ self, refuseLoop self "__setattr__" bm = pure ()
  sa : PySem.W.findIn K (.ref C) "__setattr__" = some (some (.builtin "object.__setattr__"))
  exC : PySem.W.subIn K (.ref C) (.type "BaseException") = some true
  tyC : PySem.W.typeIn K (.ref C) = some (.type "type")
  kC : PySem.W.keepIn K (.ref C) = true
/-- own classes, then the base's mro -/
def refsB (t : List Value) : List Value → Bool
  | .ref c :: r => (Value.ref c :: r == t) || refsB t r
  | l => l == t
theorem refsB_or {t : List Value} : ∀ {l : List Value}, refsB t l = true → l = t ∨ ∃ c r, l = .ref c :: r ∧ refsB t r = true
  | [], e => .inl (beq_iff_eq.mp e)
  | .ref c :: r, e => by
    have e : ((Value.ref c :: r == t) || refsB t r) = true := e
    rcases Bool.or_eq_true_iff.mp e with h | h
    · exact .inl (beq_iff_eq.mp h)
    · exact .inr ⟨c, r, rfl, h⟩
  | .none :: _, e | .ellipsis :: _, e | .notImplemented :: _, e | .bool _ :: _, e | .int _ _ :: _, e | .float _ _ :: _, e | .str _ _ :: _, e | .bytes _ _ :: _, e | .type _ :: _, e | .builtin _ :: _, e => .inl (beq_iff_eq.mp e)
theorem refsB_ok {t : List Value} (hp : ∀ self, refuseLoop self "__setattr__" t = pure ()) : ∀ {l : List Value}, refsB t l = true → (∀ x : String, l.contains (.type x) = t.contains (.type x)) ∧ ∀ self, refuseLoop self "__setattr__" l = pure () := by
  intro l
  induction l with
  | nil =>
    intro e
    rcases refsB_or e with h | ⟨_, _, h, _⟩
    · subst h; exact ⟨fun _ => rfl, hp⟩
    · cases h
  | cons a r ih =>
    intro e
    rcases refsB_or e with h | ⟨c, r', h, q⟩
    · subst h; exact ⟨fun _ => rfl, hp⟩
    · cases h
      obtain ⟨h1, h2⟩ := ih q
      exact ⟨fun x => by rw [List.contains_cons, h1 x]; rfl, fun self => by rw [refuseLoop_ref]; exact h2 self⟩
section
variable {X : Cx} {pins : List (Addr × Obj)} {σ : L2.St} {H : Hp} {s : Shared} {a C dx : Addr} {f : Str} {y : V} {u : Value} {fs : List (Str × V)} {Q : Unit → Shared → Prop} {E : Value → Shared → Prop} {A : Around} {bm0 : List Value} {nw : String}
theorem xst_new (T : ExC X.K C bm0 nw) (I : Inv X pins σ H s) (e : H a = some (exo a C none)) (hno : PySem.W.findIn X.K (.ref C) f = some none) (ry : RelV y u)
    (k : ∀ dx s', H dx = none → dx ≠ a → Inv X pins σ (upd (upd H dx (exd dx [(f, y)])) a (exo a C (some dx))) s' → Q () s') : wpAny (model X.prog X.w) A (setAttr (.ref a) f u) Q E s := by
  obtain ⟨nm, q, N, bs, bm, sn, sub, ab, col, dd, k0, k1, k2, k3, k5, hC, _, hob, hnp⟩ := T.cls
  let cd : ClassData := { name := nm, bases := bs, mro := .ref C :: bm, ns := N, qualname := q, hasDict := true, slotNames := sn, subclasses := sub, abstract := ab, collection := col, hasDel := false }
  have hcl : PySem.W.clsIn X.K C = some cd := by unfold PySem.W.clsIn; rw [hC] <;> rfl
  obtain ⟨t1, ho⟩ := exo_at I.hok e
  obtain ⟨h0, gn, dr, tk, ost⟩ := s
  have J : PySem.W.InstAt h0 a { cls := .ref C, dict := none, data := .fields #[.ref t1, .none, .none, .none, .bool false, .none] } C none := ⟨ho, rfl, rfl, trivial⟩
  refine PySem.W.set_plain I.kIn J T.sa (osa_any I.kIn J hcl (fun self => by rw [refuseLoop_ref]; exact hnp self) (by rw [List.contains_cons, hob, Bool.or_true]) hno ?_)
  have hLc : PySem.W.Looks (model X.prog X.w) h0 (classData C) cd := PySem.W.looks_clsIn I.kIn hcl
  have az : a ≠ h0.objs.size := Nat.ne_of_lt (Heap.lt_size ho)
  have a1 : (h0.push { cls := .type "dict", data := .dict #[] }).get? a = some _ := Heap.get?_push_of_some _ ho
  unfold storeInOwnDict ownDictForStores
  repeat (first | with_reducible refine HandSPX.store_in_new ?_ ?_ | with_reducible refine wpAny_loadPart_at ho ?_ | with_reducible refine hLc.at ?_ | wp_step)
  · exact ⟨_, #[], _, (Heap.get?_update_ne _ _ _ _ az.symm).trans (Heap.get?_push_at rfl rfl), rfl, fun e he => absurd he (by simp), fun _ => rfl⟩
  intro h2 tk2 hn hsb
  have dne : h0.objs.size ≠ a := az.symm
  have keep : ∀ b o, b ≠ a → h0.get? b = some o → h2.get? b = some o := fun b o hb q => (hsb.2 b (Nat.ne_of_lt (Heap.lt_size q))).trans ((Heap.get?_update_ne _ _ _ _ hb).trans (Heap.get?_push_of_some _ q))
  have at_a : h2.get? a = some { cls := .ref C, dict := some h0.objs.size, data := .fields #[.ref t1, .none, .none, .none, .bool false, .none] } := (hsb.2 a az).trans (Heap.get?_update_self _ a1 rfl)
  have hz : H h0.objs.size = none := I.hok.fresh (Nat.le_refl _)
  have bz : ∀ {b : Addr} {o : Obj}, h0.get? b = some o → b ≠ h0.objs.size := fun q => Nat.ne_of_lt (Heap.lt_size q)
  have ba : ∀ {b : Addr}, H b = none → b ≠ a := fun n z => by rw [z, e] at n; cases n
  have U : Un X.fs [] H (upd (upd H h0.objs.size (exd h0.objs.size [(f, y)])) a (exo a C (some h0.objs.size))) h0 h2 := by
    constructor
    · exact fun b o q n _ _ => keep b o (ba n) q
    · exact fun b o q n _ _ => ⟨o.slots, keep b o (ba n) q⟩
    · exact fun b o q n _ => by rw [upd_ne (ba n), upd_ne (bz q), n]
    · intro b o q _
      by_cases hb : b = a
      · exact ⟨_, hb ▸ at_a⟩
      · exact ⟨o, keep b o hb q⟩
    · exact fun b xs q => by rw [upd_ne (at_ne e q exo_tup), upd_ne (ne_of_none q hz), q]
    · exact fun b o v q => by rw [upd_ne (at_ne e q exo_frz), upd_ne (ne_of_none q hz), q]
    · exact fun b ps q => ⟨#[], by rw [upd_ne (at_ne e q exo_tbl), upd_ne (ne_of_none q hz), q]; simp⟩
  refine k h0.objs.size _ hz dne (I.un (t' := tk2) U fun b o q => ?_)
  by_cases hb : b = a
  · rw [hb, upd_same] at q
    cases q
    rw [hb]
    exact exo_ok at_a
  rw [upd_ne hb] at q
  by_cases hd : b = h0.objs.size
  · rw [hd, upd_same] at q
    cases q
    rw [hd]
    exact exd_ok hn (relO_put (fs := []) ry fun _ => True.intro)
  rw [upd_ne hd] at q
  refine (I.hok b o q).stay (fun c v hc z => keep c v ?_ z) (fun c hc => ?_) (fun c xs hc => ?_)
  · rcases hc with rfl | hc
    · exact hb
    · exact at_ne e hc exo_own
  · rw [upd_ne (at_ne e hc exo_own), upd_ne (ne_of_none hc hz), hc]
  · rw [upd_ne (at_ne e hc exo_tup), upd_ne (ne_of_none hc hz), hc]
theorem xst_old (T : ExC X.K C bm0 nw) (I : Inv X pins σ H s) (e : H a = some (exo a C (some dx))) (ed : H dx = some (exd dx fs)) (hl : fs.length ≤ 900) (hno : PySem.W.findIn X.K (.ref C) f = some none) (ry : RelV y u)
    (k : ∀ s', Inv X pins σ (upd H dx (exd dx ((f, y) :: fs))) s' → Q () s') : wpAny (model X.prog X.w) A (setAttr (.ref a) f u) Q E s := by
  obtain ⟨nm, q, N, bs, bm, sn, sub, ab, col, dd, k0, k1, k2, k3, k5, hC, _, hob, hnp⟩ := T.cls
  let cd : ClassData := { name := nm, bases := bs, mro := .ref C :: bm, ns := N, qualname := q, hasDict := true, slotNames := sn, subclasses := sub, abstract := ab, collection := col, hasDel := false }
  have hcl : PySem.W.clsIn X.K C = some cd := by unfold PySem.W.clsIn; rw [hC] <;> rfl
  obtain ⟨t1, ho⟩ := exo_at I.hok e
  obtain ⟨mA, hns, rel⟩ := exd_at I.hok ed
  have hw := within_of rel
  obtain ⟨h0, gn, dr, tk, ost⟩ := s
  obtain ⟨oD, _, _, hoD, _, _⟩ := hns.count hw
  have J : PySem.W.InstAt h0 a { cls := .ref C, dict := some dx, data := .fields #[.ref t1, .none, .none, .none, .bool false, .none] } C (some oD) := ⟨ho, rfl, rfl, hoD⟩
  refine PySem.W.set_plain I.kIn J T.sa (osa_any I.kIn J hcl (fun self => by rw [refuseLoop_ref]; exact hnp self) (by rw [List.contains_cons, hob, Bool.or_true]) hno ?_)
  have hLc : PySem.W.Looks (model X.prog X.w) h0 (classData C) cd := PySem.W.looks_clsIn I.kIn hcl
  have hz : (fs.map (·.1)).length ≤ 1000 := by rw [List.length_map]; omega
  unfold storeInOwnDict ownDictForStores
  repeat (first | with_reducible refine PySem.OEX.store_in_old hns hw hz ?_ | with_reducible refine wpAny_loadPart_at ho ?_ | with_reducible refine hLc.at ?_ | wp_step)
  intro h2 tk2 hn hsb
  have live : ∃ o, h2.get? dx = some o := let ⟨o, _, _, e', _⟩ := hn; ⟨o, e'⟩
  exact k _ (I.write (t' := tk2) (x := dx) (e := dx) (o := exd dx ((f, y) :: fs)) (by rw [ed]; trivial) (.inl rfl) (fun b o hb q => (hsb.2 b hb).trans q) live (exd_ok hn (relO_put ry rel)))
end

/-! ### an __init__ that stores its fields -/
inductive Src where
  | par (i : Nat) | txt (s : Str)
def Src.v (σ : L2.St) : Src → Option V
  | .par i => (σ[i]?).join
  | .txt s => some (.str s)
def tX1 (K : PySem.W.Frag) (bm0 : List Value) (nw : String) (f : Str) (r : Src) : TS := fun D σ H => ∃ (a C : Addr) (y : V), σ[0]? = some (some (.ref a)) ∧ r.v σ = some y ∧ ExC K C bm0 nw ∧ PySem.W.findIn K (.ref C) f = some none ∧
  ((H a = some (exo a C none) ∧ ∀ dx, H dx = none → dx ≠ a → D.nx σ (upd (upd H dx (exd dx [(f, y)])) a (exo a C (some dx)))) ∨
    ∃ (dx : Addr) (fs : List (Str × V)), H a = some (exo a C (some dx)) ∧ H dx = some (exd dx fs) ∧ fs.length ≤ 900 ∧ D.nx σ (upd H dx (exd dx ((f, y) :: fs))))
section
variable {X : Cx} {bm0 : List Value} {nw : String} {f : Str} {r : Src} {e : Expr} {n : Str} {p p' pos : Pos}
/-- where a field's value comes from -/
def SrcOk (X : Cx) (e : Expr) (r : Src) : Prop := ∃ te, PE X e te ∧ ∀ σ H y Q, r.v σ = some y → Q y H → te σ H Q
theorem src_txt {s : Str} {j pos} : SrcOk X (.Constant (.str s) j pos) (.txt s) := ⟨_, pe_str, fun σ H y Q h q => by
  cases h
  exact q⟩
theorem src_par (i : Nat) {x : Str} (hN : X.N[i]? = some x := by rfl) (hv : Vis X.env.scope x := by first | exact Or.inl rfl | exact Or.inr (Or.inl rfl) | exact Or.inr (Or.inr rfl)) (hd : (x == ("__debug__" : Str)) = false := by decide)
    (hcd : (x == ("__classdict__" : Str)) = false := by decide) : SrcOk X (.Name x p) (.par i) := ⟨_, pe_var hN hv hd hcd, fun σ H y Q h q => by
  have h : (σ[i]?).join = some y := h
  cases e : σ[i]? with
  | none => rw [e] at h; cases h
  | some o =>
    rw [e] at h
    cases o with
    | none => cases h
    | some z => cases h; exact ⟨y, e, q⟩⟩
theorem ps_x1 {x : Str} (he : SrcOk X e r) (hN : X.N[0]? = some x := by rfl) (hv : Vis X.env.scope x := by first | exact Or.inl rfl | exact Or.inr (Or.inl rfl) | exact Or.inr (Or.inr rfl)) (hd : (x == ("__debug__" : Str)) = false := by decide)
    (hcd : (x == ("__classdict__" : Str)) = false := by decide) (hs : swapsWith e (some (.Attribute (.Name x p) f p')) pos.line X.env = pure false := by rfl) : PS X (.Assign [.Attribute (.Name x p) f p'] e pos) (tX1 X.K bm0 nw f r) := by
  obtain ⟨te, hte, hq⟩ := he
  refine ⟨fun pins s σ H D I h => ?_⟩
  obtain ⟨a, C, y, h0, hy, T, hno, z⟩ := h
  have me : PE X (.Name x p) (tVar 0) := pe_var hN hv hd hcd
  refine plainObj_wpAny_Assign_Attribute (thn (hte.run pins s σ H (fun y' H' => y' = y ∧ H' = H) I (hq σ H y _ hy ⟨rfl, rfl⟩)) fun v s1 ⟨y1, H1, I1, r1, q1, q2⟩ => ?_) hs
  subst q1 q2
  refine thn (me.run pins s1 σ H1 (fun x' H' => x' = .ref a ∧ H' = H1) I1 ⟨.ref a, h0, rfl, rfl⟩) fun v2 s2 ⟨y2, H2, I2, r2, q3, q4⟩ => ?_
  subst q3 q4
  obtain rfl : v2 = Value.ref a := r2
  rcases z with ⟨ea, z⟩ | ⟨dx, fs, ea, ed, hl, z⟩
  · exact xst_new T I2 ea hno r1 fun dx s' n ne J => ⟨σ, _, J, z dx n ne⟩
  · exact xst_old T I2 ea ed hl hno r1 fun s' J => ⟨σ, _, J, z⟩
/-- the fields as they stand: the last one first -/
def zzX (L : List (Str × Src)) (ys : List V) (fs : List (Str × V)) : List (Str × V) := match L, ys with
  | (f, _) :: L, y :: ys => zzX L ys ((f, y) :: fs)
  | _, _ => fs
def tX (K : PySem.W.Frag) (bm0 : List Value) (nw : String) (L : List (Str × Src)) : TS := fun D σ H => ∃ (a C dx : Addr) (ys : List V) (fs : List (Str × V)), σ[0]? = some (some (.ref a)) ∧ L.map (fun p => p.2.v σ) = ys.map some ∧ ExC K C bm0 nw ∧
  (∀ p ∈ L, PySem.W.findIn K (.ref C) p.1 = some none) ∧ H a = some (exo a C (some dx)) ∧ H dx = some (exd dx fs) ∧ fs.length + L.length ≤ 900 ∧ dx ≠ a ∧ D.nx σ (upd H dx (exd dx (zzX L ys fs)))
theorem upd_id {H : Hp} {a : Addr} {o : HO} (h : H a = some o) : upd H a o = H := by
  funext b
  by_cases hb : b = a
  · rw [hb, upd_same, h]
  · rw [upd_ne hb]
theorem upd_upd {H : Hp} {a : Addr} {o o' : HO} : upd (upd H a o) a o' = upd H a o' := by
  funext b
  by_cases hb : b = a
  · rw [hb, upd_same, upd_same]
  · rw [upd_ne hb, upd_ne hb, upd_ne hb]
theorem upd_swap {H : Hp} {a b : Addr} {o o' : HO} (n : a ≠ b) : upd (upd H a o) b o' = upd (upd H b o') a o := by
  funext c
  by_cases hb : c = b
  · rw [hb, upd_same, upd_ne n.symm, upd_same]
  · rw [upd_ne hb]
    by_cases ha : c = a
    · rw [ha, upd_same, upd_same]
    · rw [upd_ne ha, upd_ne ha, upd_ne hb]
theorem pssx_nil : PSs X [] (tX X.K bm0 nw []) := PSs.imp pss_nil fun D σ H h => by
  obtain ⟨a, C, dx, ys, fs, h0, hy, T, hno, ea, ed, hl, ne, z⟩ := h
  cases ys with
  | cons _ _ => cases hy
  | nil =>
    have z : D.nx σ (upd H dx (exd dx fs)) := z
    rw [upd_id ed] at z
    exact z
theorem pssx_cons {st : Stmt} {sts : List Stmt} {L : List (Str × Src)} (h1 : PS X st (tX1 X.K bm0 nw f r)) (h2 : PSs X sts (tX X.K bm0 nw L)) : PSs X (st :: sts) (tX X.K bm0 nw ((f, r) :: L)) := PSs.imp (pss_cons h1 h2) fun D σ H h => by
  obtain ⟨a, C, dx, ys, fs, h0, hy, T, hno, ea, ed, hl, ne, z⟩ := h
  cases ys with
  | nil => cases hy
  | cons y ys =>
    have e1 := List.cons.inj hy
    refine ⟨a, C, y, h0, e1.1, T, hno _ List.mem_cons_self, .inr ⟨dx, fs, ea, ed, by simp only [List.length_cons] at hl; omega, a, C, dx, ys, (f, y) :: fs, h0, e1.2, T, fun p hp => hno p (List.mem_cons_of_mem _ hp), ?_, upd_same, ?_, ne, ?_⟩⟩
    · rw [upd_ne ne.symm]; exact ea
    · simp only [List.length_cons] at hl ⊢; omega
    · rw [upd_upd]; exact z
/-- the whole body: at an error that has no field yet -/
def tXs (K : PySem.W.Frag) (bm0 : List Value) (nw : String) (L : List (Str × Src)) : TS := fun D σ H => ∃ (a C : Addr) (ys : List V), σ[0]? = some (some (.ref a)) ∧ L.map (fun p => p.2.v σ) = ys.map some ∧ ExC K C bm0 nw ∧
  (∀ p ∈ L, PySem.W.findIn K (.ref C) p.1 = some none) ∧ H a = some (exo a C none) ∧ L.length ≤ 900 ∧ ∀ dx, H dx = none → dx ≠ a → D.nx σ (upd (upd H dx (exd dx (zzX L ys []))) a (exo a C (some dx)))
theorem pssx_all {st : Stmt} {sts : List Stmt} {L : List (Str × Src)} (h1 : PS X st (tX1 X.K bm0 nw f r)) (h2 : PSs X sts (tX X.K bm0 nw L)) : PSs X (st :: sts) (tXs X.K bm0 nw ((f, r) :: L)) := PSs.imp (pss_cons h1 h2) fun D σ H h => by
  obtain ⟨a, C, ys, h0, hy, T, hno, ea, hl, z⟩ := h
  cases ys with
  | nil => cases hy
  | cons y ys =>
    have e1 := List.cons.inj hy
    refine ⟨a, C, y, h0, e1.1, T, hno _ List.mem_cons_self, .inl ⟨ea, fun dx hn ne => ⟨a, C, dx, ys, [(f, y)], h0, e1.2, T, fun p hp => hno p (List.mem_cons_of_mem _ hp), upd_same, ?_, ?_, ne, ?_⟩⟩⟩
    · rw [upd_ne ne, upd_same]
    · simp only [List.length_cons, List.length_nil] at hl ⊢; omega
    · rw [upd_swap ne.symm, upd_upd]; exact z dx hn ne
end
/-- a field's value among the arguments (self is the 0-th) -/
def Src.arg (vs : List V) : Src → Option V
  | .par 0 => none
  | .par (i + 1) => vs[i]?
  | .txt s => some (.str s)
/-- the promise of such an __init__ -/
def spX (C : Addr) (L : List (Str × Src)) (n : Nat) : Sp := fun vs H Q _ => ∃ (a : Addr) (ws ys : List V), vs = .ref a :: ws ∧ ws.length = n ∧ L.map (fun p => p.2.arg ws) = ys.map some ∧ H a = some (exo a C none) ∧
  ∀ dx, H dx = none → dx ≠ a → Q .non (upd (upd H dx (exd dx (zzX L ys []))) a (exo a C (some dx)))
theorem arg_v {N : List Str} {a : Addr} {ws : List V} {y : V} {r : Src} (h : r.arg ws = some y) : r.v (start N (.ref a :: ws)) = some y := by
  cases r with
  | txt s => exact h
  | par i =>
    cases i with
    | zero => cases h
    | succ i =>
      have h : ws[i]? = some y := h
      show ((start N (.ref a :: ws))[i + 1]?).join = some y
      unfold start
      rw [List.getElem?_append_left (by have := (List.getElem?_eq_some_iff.mp h).1; simp; omega), List.getElem?_map, List.getElem?_cons_succ, h] <;> rfl
theorem args_v {N : List Str} {a : Addr} {ws : List V} : ∀ {L : List (Str × Src)} {ys : List V}, L.map (fun p => p.2.arg ws) = ys.map some → L.map (fun p => p.2.v (start N (.ref a :: ws))) = ys.map some
  | [], ys, h => h
  | p :: L, [], h => by cases h
  | p :: L, y :: ys, h => by
    have e := List.cons.inj h
    have e1 : p.2.arg ws = some y := e.1
    simp only [List.map_cons]
    rw [arg_v e1, args_v e.2]
section
variable {P : Program} {w : World} {K : PySem.W.Frag} {mg : Str → Option Value} {base : Heap}
theorem Fun.okI {x qual : Str} {st : Stmt} {f : Addr} {fd : FuncData} {N ps : List Str} {k : Nat} {L : List (Str × Src)} {bm0 : List Value} {nw : String} {C : Addr} (F : Fun K x qual st f fd) (S : FnScope N ps (defScope st)) (T : ExC K C bm0 nw)
    (hno : ∀ p ∈ L, PySem.W.findIn K (.ref C) p.1 = some none) (hl : L.length ≤ 900) (n : Nat) (hn : ps.length = n + 1)
    (hb : ∀ (cdv : Value) (A : Around) (outer : List PySem.Env) (s : Shared) (H : Hp) (E : XK), PSs (cxOf CX0 P w K mg base N qual (defScope st) f cdv A outer s H E).nox (defBody st) (tXs K bm0 nw L)) : FnOk P w K mg base CX0 (k + 1) f fd ps (spX C L n) := by
  refine Fun.ok F S (fun vs H Q E h => ?_) fun cdv A outer s H vs Q E hr h => ⟨_, hb cdv A outer s H E, ?_⟩
  · obtain ⟨a, ws, ys, rfl, h1, _⟩ := h
    rw [List.length_cons, h1, hn]
  · obtain ⟨a, ws, ys, rfl, h1, h2, h3, h4⟩ := h
    exact ⟨a, C, ys, by unfold start; simp, args_v h2, T, hno, h3, hl, fun dx hd ne => h4 dx hd ne⟩
end

/-! ### C(e, ..), raised -/
def tMkX (C : Addr) (L : List (Str × Src)) (n : Nat) (ta : TA) : L2.St → Hp → XK → Prop := fun σ H Q => ta σ H fun vs H1 => vs.length = n ∧ n ≤ 1000 ∧ ∃ ys, L.map (fun p => p.2.arg vs) = ys.map some ∧ ∀ dx, H1 dx = none → Q (.ref C) (some dx) (upd H1 dx (.xd (zzX L ys [])))
section
variable {X : Cx} {e : Expr} {es : List Expr} {ta : TA} {p pos : Pos} {bm0 : List Value} {nw B ini : String}
theorem pmk_x {x : Str} {C fI : Addr} {k n : Nat} {fd : FuncData} {ps : List Str} {L : List (Str × Src)} (F : ExcBaseFacts B nw ini bm0) (T : ExC X.K C bm0 nw) (iC : PySem.W.findIn X.K (.ref C) "__init__" = some (some (.ref fI)))
    (tI : PySem.W.typeIn X.K (.ref fI) = some (.type "function")) (F1 : FnOk X.prog X.w X.K X.mg X.base CX0 k fI fd ps (spX C L n)) (hr : Room (k + 1) X.A) (hb : Binds X.K fd ps []) (hg : Gl X x) (hm : X.mg x = some (.ref C)) (ha : PA X (e :: es) ta)
    (hdb : (x == ("__debug__" : Str)) = false := by decide) (he : starEach (e :: es) X.env = (false, eval e X.env) :: starEach es X.env := by rfl) (hpl : (backTo pos (starEach es X.env)).any (·.1) = false := by rfl) :
    PMk X (.Call (.Name x p) (e :: es) [] pos) (tMkX C L n ta) := by
  intro pins s σ H Q I h
  obtain ⟨nm, q, N, bs, bm, sn, sub, ab, col, dd, k0, k1, k2, k3, k5, hC, hbm, _, _⟩ := T.cls
  refine wpAny_Call_Name_kw (ld_glob I hg hm ?_ hdb)
  refine PySem.W.callWith_K (h₀ := X.base) I.ok.mod.kin T.kC (thn (ha.run pos pins s σ H _ I h) fun us s1 ⟨vs, H1, I1, r1, hv, hz, ys, hy, q1⟩ => ⟨I1.kIn, ?_⟩) he hpl
  show wpAny _ _ (call (.ref C) us) _ _ _
  obtain ⟨hp, gn, dr, tk, ost⟩ := s1
  let c := hp.objs.size + 1
  have hn : H1 c = none := I1.hok.fresh (Nat.le_succ _)
  let h2 := (hp.push (PySem.W.kdv_tup us)).push (PySem.HandSPX.excO C hp.objs.size)
  have kk : ∀ b o, hp.get? b = some o → h2.get? b = some o := fun b o e => Heap.get?_push_of_some _ (Heap.get?_push_of_some _ e)
  have hget : h2.get? c = some (PySem.HandSPX.excO C hp.objs.size) := by show ((hp.push (PySem.W.kdv_tup us)).push (PySem.HandSPX.excO C hp.objs.size)).get? (hp.objs.size + 1) = _; heap_get
  have I2 : Inv X pins σ (upd H1 c (exo c C none)) ⟨h2, gn, dr, tk, ost⟩ := I1.laid (t' := tk) (a := c) (o := exo c C none) (h' := h2) kk (Nat.le_succ _) (exo_ok hget)
  have r2 : Vals (V.ref c :: vs) (Value.ref c :: us) := .cons rfl r1
  have hus : us.length = n := by rw [← Paired.length r1]; exact hv
  let Q2 : VK := fun v H2 => v = .non ∧ ∃ (d : Addr) (fs : List (Str × V)), H2 c = some (exo c C (some d)) ∧ H2 d = some (exd d fs) ∧ H1 d = none ∧ Q (.ref C) (some d) (upd (del H2 c) d (.xd fs))
  have hq : spX C L n (V.ref c :: vs) (upd H1 c (exo c C none)) Q2 (fun _ _ _ => False) := by
    refine ⟨c, vs, ys, rfl, hv, hy, upd_same, fun dx hd ne => ⟨rfl, dx, zzX L ys [], upd_same, ?_, ?_, ?_⟩⟩
    · rw [upd_ne ne, upd_same]
    · rw [upd_ne ne] at hd; exact hd
    · rw [upd_ne ne] at hd
      have z := q1 dx hd
      have eq : upd (del (upd (upd (upd H1 c (exo c C none)) dx (exd dx (zzX L ys []))) c (exo c C (some dx))) c) dx (.xd (zzX L ys [])) = upd H1 dx (.xd (zzX L ys [])) := by
        funext b
        by_cases h1 : b = dx
        · rw [h1, upd_same, upd_same]
        · rw [upd_ne h1, upd_ne h1]
          by_cases h2 : b = c
          · rw [h2, del_same, hn]
          · rw [del_ne h2, upd_ne h2, upd_ne h1, upd_ne h2]
      rw [eq]
      exact z
  have hlen : (Value.ref c :: us ++ []).length = ps.length := by
    have e := F1.len _ _ _ _ hq
    rw [List.append_nil, ← e, List.length_cons, List.length_cons, hus, hv]
  have hul : us.length ≤ sizeLine := by rw [hus, sizeLine_eq]; omega
  have run := F1.run (X.A.under (.builtin "type.__call__" ⟨.ref C :: us, []⟩)) X.stack _ _ ⟨Value.ref c :: us, []⟩ (Value.ref c :: us) _ Q2 (fun _ _ _ => False) (hr.make C us []) (I2.env0.make C us []) (by have z := hb ⟨h2, gn, dr, tk, ost⟩ (Value.ref c :: us) I2.kIn hlen; rwa [List.append_nil] at z) r2 hq
  refine wpAny_call (PySem.HandSPX.call_own F hbm (I1.kIn _ _ hC) (PySem.W.looks_findIn I1.kIn iC) (fun self => PySem.W.bind_fn I1.kIn self tI) hul (codeAny_mono run fun r s' hq' => ?_))
  cases r with
  | error er => exact False.elim hq'
  | ok fl =>
    cases fl with
    | ret u =>
      obtain ⟨v, H2, os2, bare2, un2, hok2, rv, ev, d, fs, ea, ed, hd1, q2⟩ := hq'
      subst ev
      obtain ⟨h3, g2, d2, t2, os'⟩ := s'
      exact ⟨rv, mk_end (raises_own T.exC T.tyC) I1 (Nat.le_succ _) kk un2 hok2 os2 bare2 ea ed hd1 q2⟩
    | next => exact False.elim hq'
    | brk => exact False.elim hq'
    | cont => exact False.elim hq'
end
end L2.DL

/-! DL14: raise, try, the fields of a caught error. -/
namespace L2.DL
open PySem PySem.Spec PyProof.Rows
/-! ### raise C(e, ..) -/
def Src.d (ds : List D) : Src → Option D
  | .par 0 => none
  | .par (i + 1) => ds[i]?
  | .txt s => some (.str s)
def fldD (ds : List D) : List (Str × Src) → List Str → List D → Option (List Str × List D)
  | [], ns, vs => some (ns, vs)
  | (f, s) :: L, ns, vs => match s.d ds with
    | some d => fldD ds L (f :: ns) (d :: vs)
    | none => none
theorem src_rep {r : RC} {vs : List V} {ds : List D} (q : Reps r vs ds) {s : Src} {d : D} (h : s.d ds = some d) : ∃ y, s.arg vs = some y ∧ Rep r y d := by
  cases s with
  | txt s => cases h; exact ⟨_, rfl, .str s⟩
  | par i =>
    cases i with
    | zero => cases h
    | succ i => exact q.get h
theorem fld_rep {r : RC} {vs : List V} {ds : List D} (q : Reps r vs ds) : ∀ {L : List (Str × Src)} {ns ns' : List Str} {es es' : List D} {fs : List (Str × V)}, fldD ds L ns es = some (ns', es') → fs.map (·.1) = ns → Reps r (fs.map (·.2)) es →
    ∃ ys, L.map (fun p => p.2.arg vs) = ys.map some ∧ (zzX L ys fs).map (·.1) = ns' ∧ Reps r ((zzX L ys fs).map (·.2)) es'
  | [], ns, ns', es, es', fs, h, h1, h2 => by
    cases h
    exact ⟨[], rfl, h1, h2⟩
  | (f, s) :: L, ns, ns', es, es', fs, h, h1, h2 => by
    unfold fldD at h
    cases e : s.d ds with
    | none => simp only [e] at h; cases h
    | some d =>
      simp only [e] at h
      obtain ⟨y, e1, e2⟩ := src_rep q e
      obtain ⟨ys, z1, z2, z3⟩ := fld_rep q (fs := (f, y) :: fs) h (by simp [h1]) (.cons e2 h2)
      exact ⟨y :: ys, by simp only [List.map_cons]; rw [e1, z1], z2, z3⟩
/-- the module's error class c: n arguments, the fields L -/
structure Erx (P : Program) (w : World) (K : PySem.W.Frag) (mg : Str → Option Value) (base : Heap) (c : Str) (k n : Nat) (L : List (Str × Src)) : Prop where
  ex : ∃ (C fI : Addr) (fd : FuncData) (ps : List Str) (bm0 : List Value) (nw B ini : String), mg c = some (.ref C) ∧ ExcBaseFacts B nw ini bm0 ∧ ExC K C bm0 nw ∧ PySem.W.findIn K (.ref C) "__init__" = some (some (.ref fI)) ∧
    PySem.W.typeIn K (.ref fI) = some (.type "function") ∧ FnOk P w K mg base CX0 k fI fd ps (spX C L n) ∧ Binds K fd ps []
def raiM (c : Str) (L : List (Str × Src)) (n : Nat) (fa : Mo (List D)) : Mo Fl := bnd fa fun ds ρ μ => if ds.length = n then (match fldD ds L [] [] with
  | some (ns, vs) => .ex c ns vs ρ μ
  | none => .no) else .no
section
variable {Φ : Ctx} {X : Cx} {pos pos' p : Pos} {x : Str} {e : Expr} {es : List Expr} {fa : Mo (List D)}
theorem ds_raise {k j n : Nat} {L : List (Str × Src)} (E : Erx X.prog X.w X.K X.mg X.base x k n L) (cn : Cn Φ X j) (ha : DA Φ X (e :: es) fa) (hg : Gl X x) (hj : k + 1 ≤ j := by decide) (hn : n ≤ 1000 := by decide) (hdb : (x == ("__debug__" : Str)) = false := by decide)
    (he : starEach (e :: es) X.env = (false, eval e X.env) :: starEach es X.env := by rfl) (hpl : (backTo pos (starEach es X.env)).any (·.1) = false := by rfl) : DS Φ X (.Raise (some (.Call (.Name x p) (e :: es) [] pos)) none pos') (raiM x L n fa) := by
  obtain ⟨C, fI, fd, ps, bm0, nw, B, ini, hm, F, T, iC, tI, F1, hb⟩ := E.ex
  refine PS.imp (ps_raise cn.calm cn.tk (pmk_x F T iC tI F1 (cn.rm.mono hj) hb hg hm ha hdb he hpl)) fun D σ H ⟨ρ, μ, Cs, os, R, z⟩ => ⟨ρ, μ, Cs, os, R, ?_⟩
  unfold raiM bnd at z
  cases e1 : fa ρ μ with
  | no => rw [e1] at z; exact z
  | ex c ns ds ρ1 μ1 => rw [e1] at z; exact fun Cc dx H' C' os' R S g e => z Cc dx σ H' C' os' R S g e
  | ok ds ρ1 μ1 =>
    rw [e1] at z
    intro vs H1 C1 os1 R1 S1 q1
    dsimp only at z
    split at z
    · rename_i hl
      cases e2 : fldD ds L [] [] with
      | none => rw [e2] at z; exact z.elim
      | some nv =>
        obtain ⟨ns, es'⟩ := nv
        rw [e2] at z
        obtain ⟨ys, h1, h2, h3⟩ := fld_rep q1 (fs := []) e2 rfl .nil
        refine ⟨by rw [q1.length, hl], hn, ys, h1, fun dx hd => ?_⟩
        have gr : Grow H1 (upd H1 dx (.xd (zzX L ys []))) := Grow.upd hd
        exact z C dx σ _ C1 os1 (R1.grow gr) (S1.trans (stp_grow gr)) hm ⟨_, upd_same, R1.fresh hd, h2, h3.step (stp_grow gr)⟩
    · exact z.elim
end

/-! ### try -/
/-- is an error of the first class caught by a clause of the second one -/
abbrev Sub := List ((Str × Str) × Bool)
def SubOk (K : PySem.W.Frag) (mg : Str → Option Value) (T : Sub) : Prop := ∀ c h b, T.lookup (c, h) = some b → ∀ Cc Hc, mg c = some (.ref Cc) → mg h = some (.ref Hc) → PySem.W.exmOne K (.ref Cc) (.ref Hc) = some b
def noE : Option Ent → Option Ent
  | some (.eh _ _ _) => none
  | t => t
def clr (ρ : Env) : Env := ρ.map noE
structure HD where
  h : Str
  i : Option Nat
  f : Mo Fl
def HD.beg (h : HD) (t : Ent) (ρ : Env) : Env := match h.i with
  | none => clr ρ
  | some i => (clr ρ).set i (some t)
def HD.fin (h : HD) (ρ : Env) : Env := match h.i with
  | none => clr ρ
  | some i => (clr ρ).set i none
def hdl (T : Sub) (c : Str) (ns : List Str) (vs : List D) : List HD → Mo Fl
  | [] => fun ρ μ => .ex c ns vs ρ μ
  | h :: r => match T.lookup (c, h.h) with
    | some true => fun ρ μ => match h.f (h.beg (.eh c ns vs) ρ) μ with
      | .ok fl ρ' μ' => .ok fl (h.fin ρ') μ'
      | _ => .no
    | some false => hdl T c ns vs r
    | none => no
def tryM (T : Sub) (body : Mo Fl) (hs : List HD) : Mo Fl := fun ρ μ => match body ρ μ with
  | .ex c ns vs ρ' μ' => hdl T c ns vs hs ρ' μ'
  | o => o
def Ctx.su (Φ : Ctx) (a dx : Addr) (c : Str) : Ctx := { Φ with W := fun _ _ _ _ => False, eh := some (a, dx), ec := c }
/-- what a suite may know of the error -/
structure EhX (Φ : Ctx) (X : Cx) (a : Addr) (o : Obj) : Prop where
  ex : ∃ dx Cc, Φ.eh = some (a, dx) ∧ X.mg Φ.ec = some (.ref Cc) ∧ Zc (.ref Cc) (some dx) o ∧ ∃ ws, o.data = .fields ws
/-- a suite's rule -/
def SuD (Φ : Ctx) (X : Cx) (bs : List Stmt) (f : Mo Fl) : Prop := ∀ (a dx : Addr) (c : Str) (o : Obj) (pn : List (Addr × Obj)), EhX (Φ.su a dx c) X a o → DSs (Φ.su a dx c) (X.suite a ((a, o) :: pn)) bs f
inductive DHs (Φ : Ctx) (X : Cx) : List ExceptHandler → List HD → Prop
  | nil : DHs Φ X [] []
  | bare {x : Str} {b : Stmt} {bs : List Stmt} {p q : Pos} {hs : List ExceptHandler} {l : List HD} {f : Mo Fl} (hg : Gl X x) (hm : ∃ C, X.mg x = some (.ref C)) (hd : (x == ("__debug__" : Str)) = false) (su : SuD Φ X (b :: bs) f) (r : DHs Φ X hs l) :
      DHs Φ X (.ExceptHandler (some (.Name x p)) none (b :: bs) q :: hs) (⟨x, none, f⟩ :: l)
  | as {x n : Str} {i : Nat} {b : Stmt} {bs : List Stmt} {p q : Pos} {hs : List ExceptHandler} {l : List HD} {f : Mo Fl} (hg : Gl X x) (hm : ∃ C, X.mg x = some (.ref C)) (hd : (x == ("__debug__" : Str)) = false) (hi : X.N[i]? = some n)
      (hl : X.env.kindOf n = some .local) (su : SuD Φ X (b :: bs) f) (r : DHs Φ X hs l) : DHs Φ X (.ExceptHandler (some (.Name x p)) (some n) (b :: bs) q :: hs) (⟨x, some i, f⟩ :: l)
section
variable {Φ : Ctx} {X : Cx}
theorem Rl.clr {Φ : Ctx} {K : PySem.W.Frag} {mg : Str → Option Value} {ρ : Env} {μ : Sto} {C : List Addr} {os : Os} {σ : L2.St} {H : Hp} (R : RlK Φ K mg ρ μ C os σ H) (w : WX) (e : Option (Addr × Addr)) (c : Str) : RlK { Φ with W := w, eh := e, ec := c } K mg (DL.clr ρ) μ C os σ H :=
  ⟨by unfold DL.clr; rw [List.length_map]; exact R.len, fun i t h => by
    unfold DL.clr at h
    rw [List.getElem?_map] at h
    obtain ⟨t0, h1, h2⟩ := Option.map_eq_some_iff.mp h
    cases t0 with
    | none => cases h2
    | some t0 =>
      obtain ⟨v, h3, h4⟩ := R.env i t0 h1
      refine ⟨v, h3, ?_⟩
      cases t0 with
      | sh d => cases h2; exact h4
      | ow d => cases h2; exact h4
      | bd c ns ds => cases h2; exact h4
      | eh c ns ds => exact (by cases h2), R.sto, R.own, R.fre, R.pre, R.cfr, R.cnd, R.clv, R.frm, R.alv⟩
theorem Rl.unset {Φ : Ctx} {K : PySem.W.Frag} {mg : Str → Option Value} {ρ : Env} {μ : Sto} {C : List Addr} {os : Os} {σ : L2.St} {H : Hp} (R : RlK Φ K mg ρ μ C os σ H) (i : Nat) : RlK Φ K mg (ρ.set i none) μ C os (σ.set i none) H :=
  ⟨by rw [List.length_set, List.length_set]; exact R.len, fun j t h => by
    by_cases hj : i = j
    · subst hj
      by_cases hl : i < ρ.length
      · rw [List.getElem?_set_self hl] at h; cases h
      · rw [List.getElem?_eq_none (by simpa using hl)] at h; cases h
    · rw [List.getElem?_set_ne hj] at h
      obtain ⟨v, h3, h4⟩ := R.env j t h
      exact ⟨v, by rw [List.getElem?_set_ne hj]; exact h3, h4⟩, R.sto, R.own, R.fre, R.pre, R.cfr, R.cnd, R.clv, R.frm, R.alv⟩
/-- the reading of a suite -/
def tSu (Φ : Ctx) (X : Cx) (f : Mo Fl) (a : Addr) (cls : Value) (d : Option Addr) : TS := fun D σ H => ∃ dx c Cc, d = some dx ∧ cls = .ref Cc ∧ X.mg c = some (.ref Cc) ∧ cS (Φ.su a dx c) X f D σ H
theorem SuD.ok {b : Stmt} {bs : List Stmt} {f : Mo Fl} (h : SuD Φ X (b :: bs) f) : SuO X b bs (tSu Φ X f) := fun a o cls d pn hz hf => ⟨fun pins s σ H D I q => by
  obtain ⟨dx, c, Cc, rfl, rfl, hm, q⟩ := q
  exact (h a dx c o pn ⟨dx, Cc, rfl, hm, hz, hf⟩).run pins s σ H D I q⟩
theorem hdl_at {T : Sub} {hds : List ExceptHandler} {hs : List HD} (hT : SubOk X.K X.mg T) (hk : DHs Φ X hds hs) : ∃ l, HsOk X hds l ∧ ∀ (E : Ends) (c : Str) (ns : List Str) (vs : List D) (ρ : Env) (μ : Sto) (C : List Addr) (os : Os) (σ : L2.St) (H : Hp) (Cc dx : Addr),
    Rl Φ X ρ μ C os σ H → X.mg c = some (.ref Cc) → EhR (rc Φ X C os H) dx c ns vs → PostS Φ X C os H (hdl T c ns vs hs ρ μ) E → wH X.K Φ.W E l (.ref Cc) (some dx) σ H := by
  have deal : ∀ (h : HD) (E : Ends) (c : Str) (ns : List Str) (vs : List D) (ρ : Env) (μ : Sto) (C : List Addr) (os : Os) (σ : L2.St) (H : Hp) (Cc dx a Hc : Addr), Rl Φ X ρ μ C os σ H → X.mg c = some (.ref Cc) → EhR (rc Φ X C os H) dx c ns vs →
      PostS Φ X C os H ((fun ρ μ => match h.f (h.beg (.eh c ns vs) ρ) μ with
        | .ok fl ρ' μ' => .ok fl (h.fin ρ') μ'
        | _ => .no : Mo Fl) ρ μ) E → tSu Φ X h.f a (.ref Cc) (some dx) ((⟨.ref Hc, h.i, tSu Φ X h.f⟩ : Hd).ends E) ((⟨.ref Hc, h.i, tSu Φ X h.f⟩ : Hd).beg σ a) H := by
    intro h E c ns vs ρ μ C os σ H Cc dx a Hc R hm he z
    have R1 : RlK (Φ.su a dx c) X.K X.mg (clr ρ) μ C os σ H := Rl.clr R _ _ _
    have R2 : RlK (Φ.su a dx c) X.K X.mg (h.beg (.eh c ns vs) ρ) μ C os ((⟨.ref Hc, h.i, tSu Φ X h.f⟩ : Hd).beg σ a) H := by
      cases e : h.i with
      | none =>
        unfold HD.beg
        simp only [e]
        exact R1
      | some i =>
        unfold HD.beg
        simp only [e]
        exact Rl.setv (Φ := Φ.su a dx c) (X := X) (v := .ref a) (t := .eh c ns vs) R1 ⟨a, dx, rfl, ⟨rfl, rfl⟩, he⟩
    refine ⟨dx, c, Cc, rfl, rfl, hm, h.beg (.eh c ns vs) ρ, μ, C, os, R2, ?_⟩
    cases e : h.f (h.beg (.eh c ns vs) ρ) μ with
    | no => simp only [e] at z; exact z
    | ex _ _ _ _ _ => simp only [e] at z; exact z.elim
    | ok fl ρ' μ' =>
      simp only [e] at z
      intro σ' H' C' os' R' S'
      have R3 : RlK Φ X.K X.mg (h.fin ρ') μ' C' os' ((⟨.ref Hc, h.i, tSu Φ X h.f⟩ : Hd).fin σ') H' := by
        have R4 : RlK Φ X.K X.mg (clr ρ') μ' C' os' σ' H' := Rl.clr R' Φ.W Φ.eh Φ.ec
        cases e : h.i with
        | none =>
          unfold HD.fin
          simp only [e]
          exact R4
        | some i =>
          unfold HD.fin
          simp only [e]
          exact Rl.unset R4 i
      have z := z _ H' C' os' R3 S'
      cases fl with
      | nx => exact z
      | bk => exact z
      | ct => exact z
      | rt d => exact z
      | ro d => exact z
  induction hk with
  | nil => exact ⟨[], .nil, fun E c ns vs ρ μ C os σ H Cc dx R hm he z => z Cc dx σ H C os R (Stp.refl _) hm he⟩
  | @bare x b bs p q hs l f hg hm hd su r ih =>
    obtain ⟨l', h1, h2⟩ := ih
    obtain ⟨Hc, hHc⟩ := hm
    refine ⟨⟨.ref Hc, none, tSu Φ X f⟩ :: l', .bare ⟨hg, hd, .inl hHc⟩ su.ok h1, fun E c ns vs ρ μ C os σ H Cc dx R hm he z => ?_⟩
    unfold hdl at z
    cases e : T.lookup (c, x) with
    | none => simp only [e] at z; exact z.elim
    | some k =>
      refine ⟨k, hT c x k e Cc Hc hm hHc, fun hk a _ => ?_, fun hk => ?_⟩
      · subst hk
        simp only [e] at z
        exact deal ⟨x, none, f⟩ E c ns vs ρ μ C os σ H Cc dx a Hc R hm he z
      · subst hk
        simp only [e] at z
        exact h2 E c ns vs ρ μ C os σ H Cc dx R hm he z
  | @as x n i b bs p q hs l f hg hm hd hi hl su r ih =>
    obtain ⟨l', h1, h2⟩ := ih
    obtain ⟨Hc, hHc⟩ := hm
    refine ⟨⟨.ref Hc, some i, tSu Φ X f⟩ :: l', .as ⟨hg, hd, .inl hHc⟩ hi hl su.ok h1, fun E c ns vs ρ μ C os σ H Cc dx R hm he z => ?_⟩
    unfold hdl at z
    cases e : T.lookup (c, x) with
    | none => simp only [e] at z; exact z.elim
    | some k =>
      refine ⟨k, hT c x k e Cc Hc hm hHc, fun hk a _ => ?_, fun hk => ?_⟩
      · subst hk
        simp only [e] at z
        exact deal ⟨x, some i, f⟩ E c ns vs ρ μ C os σ H Cc dx a Hc R hm he z
      · subst hk
        simp only [e] at z
        exact h2 E c ns vs ρ μ C os σ H Cc dx R hm he z
theorem ds_try {k : Nat} {T : Sub} {body : List Stmt} {h0 : ExceptHandler} {hds : List ExceptHandler} {hs : List HD} {f : Mo Fl} {pos : Pos} (cn : Cn Φ X k) (hT : SubOk X.K X.mg T)
    (hb : ∀ (W : WX) (pn : List (Addr × Obj)) (xe : Value → Shared → Prop), Cn { Φ with W := W } (X.tr pn xe) k → DSs { Φ with W := W } (X.tr pn xe) body f) (hk : DHs Φ X (h0 :: hds) hs) (st : X.stack = X.env :: X.outer := by rfl) (fr : X.env.frame = some X.env.locals := by rfl) :
    DS Φ X (.Try body (h0 :: hds) [] [] pos) (tryM T f hs) := by
  obtain ⟨l, h1, h2⟩ := hdl_at hT hk
  refine PS.imp (ps_tryH (tb := fun W => cS { Φ with W := W } X f) st fr cn.nd cn.tk (fun W pn xe tk po => hb W pn xe ⟨cn.nd, cn.calm, po, tk, cn.rm⟩) h1) fun E σ H ⟨ρ, μ, C, os, R, z⟩ => ⟨ρ, μ, C, os, Rl.wW R _, ?_⟩
  unfold tryM at z
  cases e : f ρ μ with
  | no => simp only [e] at z; exact z
  | ok fl ρ' μ' =>
    simp only [e] at z
    intro σ' H' C' os' R' S'
    have z := z σ' H' C' os' (Rl.unW R') S'
    cases fl with
    | nx => exact z
    | bk => exact z
    | ct => exact z
    | rt d => exact z
    | ro d => exact z
  | ex c ns vs ρ' μ' =>
    simp only [e] at z
    intro Cc dx σ' H' C' os' R' S' hm he
    exact h2 E c ns vs ρ' μ' C' os' σ' H' Cc dx (Rl.unW R') hm he (PostS.from S' z)

/-! ### e.f in a suite -/
/-- the classes cs and their fields fs -/
def XfT (K : PySem.W.Frag) (mg : Str → Option Value) (cs fs : List Str) : Prop := ∀ c ∈ cs, ∀ Cc, mg c = some (.ref Cc) → XfC K Cc ∧ ∀ f ∈ fs, PySem.W.findIn K (.ref Cc) f = some none
def exAt (cs fs : List Str) (i : Nat) (f : Str) : Mo D := fun ρ μ => match ρ[i]? with
  | some (some (.eh c ns vs)) => if c ∈ cs ∧ f ∈ fs then (match (ns.zip vs).lookup f with
    | some d => .ok d ρ μ
    | none => .no) else .no
  | _ => .no
theorem zip_look {r : RC} {f : Str} {d : D} : ∀ {fs : List (Str × V)} {ns : List Str} {vs : List D}, fs.map (·.1) = ns → Reps r (fs.map (·.2)) vs → (ns.zip vs).lookup f = some d → ∃ v, fs.lookup f = some v ∧ Rep r v d
  | [], ns, vs, h1, h2, h => by
    subst h1
    cases h
  | (g, y) :: fs, ns, vs, h1, h2, h => by
    subst h1
    cases h2 with
    | cons q t =>
      simp only [List.map_cons, List.zip_cons_cons] at h
      unfold List.lookup at h ⊢
      by_cases e : f == g
      · simp only [e] at h ⊢
        cases h
        exact ⟨y, rfl, q⟩
      · simp only [e] at h ⊢
        exact zip_look rfl t h
theorem de_exat {cs fs : List Str} {i : Nat} {a : Addr} {o : Obj} {pn : List (Addr × Obj)} {x f : Str} {p pos : Pos} (E : EhX Φ X a o) (T : XfT X.K X.mg cs fs) (hN : X.N[i]? = some x := by rfl)
    (hv : Vis X.env.scope x := by first | exact Or.inl rfl | exact Or.inr (Or.inl rfl) | exact Or.inr (Or.inr rfl)) (hd : (x == ("__debug__" : Str)) = false := by decide) (hcd : (x == ("__classdict__" : Str)) = false := by decide)
    (hb : attributeBase (.Name x p) f (X.suite a ((a, o) :: pn)).env (eval (.Name x p) (X.suite a ((a, o) :: pn)).env) = eval (.Name x p) (X.suite a ((a, o) :: pn)).env := by rfl) : DE Φ (X.suite a ((a, o) :: pn)) (.Attribute (.Name x p) f pos) (exAt cs fs i f) := by
  obtain ⟨dx, Cc, h1, h2, h3, h4⟩ := E.ex
  by_cases hc : Φ.ec ∈ cs ∧ f ∈ fs
  · obtain ⟨t1, t2⟩ := T _ hc.1 Cc h2
    refine PE.imp (pe_xf t1 (t2 f hc.2) h3 h4 (pe_var (X := X.suite a ((a, o) :: pn)) hN hv hd hcd) hb) fun σ H Q ⟨ρ, μ, C, os, R, z⟩ => ?_
    unfold exAt at z
    cases e : ρ[i]? with
    | none => simp only [e] at z; exact z.elim
    | some t =>
      cases t with
      | none => simp only [e] at z; exact z.elim
      | some t =>
        cases t with
        | sh d => simp only [e] at z; exact z.elim
        | ow d => simp only [e] at z; exact z.elim
        | bd _ _ _ => simp only [e] at z; exact z.elim
        | eh c ns vs =>
          simp only [e] at z
          split at z
          · obtain ⟨v, hv', a', dx', rfl, ⟨k1, k2⟩, gs, g1, g2, g3, g4⟩ := R.env i _ e
            rw [h1] at k1
            cases k1
            cases e2 : (ns.zip vs).lookup f with
            | none => simp only [e2] at z; exact z.elim
            | some d =>
              simp only [e2] at z
              obtain ⟨y, y1, y2⟩ := zip_look g3 g4 e2
              exact ⟨.ref a, hv', rfl, rfl, dx, gs, y, rfl, g1, y1, z y H C os R (Stp.refl _) y2⟩
          · exact z.elim
  · refine ⟨fun pins s σ H Q I ⟨ρ, μ, C, os, R, z⟩ => ?_⟩
    exfalso
    unfold exAt at z
    cases e : ρ[i]? with
    | none => simp only [e] at z; exact z.elim
    | some t =>
      cases t with
      | none => simp only [e] at z; exact z.elim
      | some t =>
        cases t with
        | sh d => simp only [e] at z; exact z.elim
        | ow d => simp only [e] at z; exact z.elim
        | bd _ _ _ => simp only [e] at z; exact z.elim
        | eh c ns vs =>
          simp only [e] at z
          split at z
          · rename_i hc2
            obtain ⟨v, hv', a', dx', rfl, ⟨k1, k2⟩, _⟩ := R.env i _ e
            exact hc ⟨k2 ▸ hc2.1, hc2.2⟩
          · exact z.elim
end
end L2.DL

/-! DL15: calls by keyword; an owned list that becomes a cell. -/
namespace L2.DL
open PySem PySem.Spec PyProof.Rows
/-- the items at the places ix -/
def pick {α : Type} (ix : List Nat) (l : List α) : List α := ix.filterMap (l[·]?)
theorem pick_vals {vs : List V} {us : List Value} (r : Vals vs us) : ∀ ix : List Nat, Vals (pick ix vs) (pick ix us)
  | [] => .nil
  | i :: ix => by
    have ih := pick_vals r ix
    unfold pick at ih ⊢
    rw [List.filterMap_cons, List.filterMap_cons]
    cases e : vs[i]? with
    | none =>
      have e2 : us[i]? = none := List.getElem?_eq_none (by rw [← r.length]; exact List.getElem?_eq_none_iff.mp e)
      rw [e2]
      exact ih
    | some v =>
      obtain ⟨u, hu, rv⟩ := r.get e
      rw [hu]
      exact .cons rv ih
theorem pick_reps {r : RC} {vs : List V} {ds : List D} (q : Reps r vs ds) : ∀ ix : List Nat, Reps r (pick ix vs) (pick ix ds)
  | [] => .nil
  | i :: ix => by
    have ih := pick_reps q ix
    unfold pick at ih ⊢
    rw [List.filterMap_cons, List.filterMap_cons]
    cases e : ds[i]? with
    | none =>
      have e2 : vs[i]? = none := List.getElem?_eq_none (by rw [q.length]; exact List.getElem?_eq_none_iff.mp e)
      rw [e2]
      exact ih
    | some v =>
      obtain ⟨u, hu, rv⟩ := q.get e
      rw [hu]
      exact .cons rv ih
section
variable {X : Cx} {CX : CXT} {k n : Nat} {f : Addr} {fd : FuncData} {ps ks : List Str} {sp : Sp} {E : L2.St → XK} {x : Str} {p pos : Pos} {es : List Expr} {kws : List Keyword} {t tk : TA} {ix : List Nat}
/-- f(e, .., k = v, ..), with any number of positional arguments -/
def tKw (n m : Nat) (ix : List Nat) (sp : Sp) (E : L2.St → XK) (t tk : TA) : TE := fun σ H Q => t σ H fun vs H1 => tk σ H1 fun zs H2 => vs.length = n ∧ zs.length = m ∧ sp (pick ix (vs ++ zs)) H2 Q (E σ)
/-- n positional arguments, then the keywords ks; the parameters get the items at ix -/
def KwB (K : PySem.W.Frag) (fd : FuncData) (ps ks : List Str) (n : Nat) (ix : List Nat) : Prop :=
  ∀ (s : Shared) (us ws : List Value), K.In s.heap → us.length = n → ws.length = ks.length → BindsTo s fd ⟨us, ks.zip ws⟩ (ps.zip (pick ix (us ++ ws)))
theorem pe_kw (F : FnOk X.prog X.w X.K X.mg X.base CX k f fd ps sp) (hr : Room k X.A) (hg : Gl X x) (hm : X.mg x = some (.ref f)) (hk : PySem.W.keepIn X.K (.ref f) = true) (hb : KwB X.K fd ps ks n ix) (hx : ∀ σ, PassesAt CX X σ (E σ))
    (ha : PA X es t) (hkw : PK X kws tk) (hall : (backToKw pos (keywordEach kws X.env)).all (·.1.isSome) = true := by rfl) (hks : (backToKw pos (keywordEach kws X.env)).filterMap (·.1) = ks := by rfl)
    (hdb : (x == ("__debug__" : Str)) = false := by decide) (hpl : ((backTo pos (starEach es X.env)).any (·.1) || (backToKw pos (keywordEach kws X.env)).any (·.1.isNone)) = false := by rfl)
    (he : (es = [] ∧ n = 0) ∨ ∃ e r, es = e :: r ∧ starEach (e :: r) X.env = (false, eval e X.env) :: starEach r X.env := by first | exact .inl ⟨rfl, rfl⟩ | exact .inr ⟨_, _, rfl, rfl⟩) :
    PE X (.Call (.Name x p) es kws pos) (tKw n ks.length ix sp E t tk) := by
  refine ⟨fun pins s σ H Q I h => wpAny_Call_Name_kw (ld_glob I hg hm ?_ hdb)⟩
  have go : ∀ {us ws : List Value} {vs zs : List V} {s2 : Shared} {H2 : Hp}, Inv X pins σ H2 s2 → Vals vs us → Vals zs ws → vs.length = n → zs.length = ks.length → sp (pick ix (vs ++ zs)) H2 Q (E σ) → wpAny (model X.prog X.w) X.A (call (.ref f) us (ks.zip ws)) (EP X pins σ Q) X.xe s2 := by
    intro us ws vs zs s2 H2 I2 r rz l1 l2 q
    refine wpAny_call (codeAny_mono (F.run X.A X.stack s2 H2 ⟨us, ks.zip ws⟩ _ _ Q (E σ) hr I2.env0 (hb s2 us ws I2.kIn (r.length.symm.trans l1) (rz.length.symm.trans l2)) (pick_vals (r.append rz) ix) q) fun o s' hq => ?_)
    cases o with
    | error e => exact hx σ pins H2 s2 e s' I2 hq
    | ok fl =>
      cases fl with
      | ret u => exact I2.after hq
      | next => exact hq.elim
      | brk => exact hq.elim
      | cont => exact hq.elim
  rcases he with ⟨rfl, hn0⟩ | ⟨e, r0, rfl, he⟩
  · refine PySem.W.callWith_KW0 (h₀ := X.base) I.ok.mod.kin hk hall ?_ hpl
    show wpAny (model X.prog X.w) X.A ((spliced (backTo pos (starEach [] X.env))) >>= fun _ => evalAll ((backToKw pos (keywordEach kws X.env)).map (·.2))) _ _ _
    refine wpAny_bind (thn (ha.run pos pins s σ H _ I h) fun us s1 ⟨vs, H1, I1, r, q⟩ => ?_)
    refine thn (hkw.run pos pins s1 σ H1 _ I1 q) fun ws s2 ⟨zs, H2, I2, rz, l1, l2, q2⟩ => ⟨I2.kIn, ?_⟩
    rw [hks]
    have lv : vs.length = 0 := l1.trans hn0
    cases vs with
    | cons _ _ => cases lv
    | nil =>
      cases r
      exact go I2 .nil rz l1 l2 q2
  · refine PySem.W.callWith_KW (h₀ := X.base) I.ok.mod.kin hk hall (thn (ha.run pos pins s σ H _ I h) fun us s1 ⟨vs, H1, I1, r, q⟩ => ?_) hpl he
    refine thn (hkw.run pos pins s1 σ H1 _ I1 q) fun ws s2 ⟨zs, H2, I2, rz, l1, l2, q2⟩ => ⟨I2.kIn, ?_⟩
    rw [hks]
    exact go I2 r rz l1 l2 q2
end
section
variable {Φ : Ctx} {X : Cx} {x : Str} {p pos kpos : Pos} {e : Expr} {es : List Expr} {kws : List Keyword} {f : Mo D} {g fa fk : Mo (List D)} {nm : Option Str}
theorem tcons_of {σ : L2.St} {H : Hp} {Q : List V → Hp → Prop} (h : cA Φ X (acons f g) σ H Q) : tCons (cE Φ X f) (cA Φ X g) σ H Q := by
  obtain ⟨ρ, μ, C, os, R, h⟩ := h
  refine ⟨ρ, μ, C, os, R, ?_⟩
  unfold acons bnd at h
  cases e1 : f ρ μ with
  | no => rw [e1] at h; exact h
  | ex c ns ds ρ1 μ1 => rw [e1] at h; exact h
  | ok d ρ1 μ1 =>
    rw [e1] at h
    intro v H1 C1 os1 R1 S1 q1
    refine ⟨ρ1, μ1, C1, os1, R1, ?_⟩
    have h := PostA.from S1 h
    cases e2 : g ρ1 μ1 with
    | no => simp only [e2] at h; exact h
    | ex c ns ds ρ2 μ2 => simp only [e2] at h; exact h
    | ok ds ρ2 μ2 =>
      simp only [e2] at h
      exact fun vs H2 C2 os2 R2 S2 q2 => h (v :: vs) H2 C2 os2 R2 S2 (.cons (q1.step S2) q2)
def DK (Φ : Ctx) (X : Cx) (kws : List Keyword) (f : Mo (List D)) : Prop := PK X kws (cA Φ X f)
theorem PK.imp {t t' : TA} (h : PK X kws t) (i : ∀ σ H Q, t' σ H Q → t σ H Q) : PK X kws t' := ⟨fun pos pins s σ H Q I q => h.run pos pins s σ H Q I (i σ H Q q)⟩
theorem dk_nil : DK Φ X [] anil := PK.imp pk_nil fun σ H Q ⟨ρ, μ, C, os, R, h⟩ => h [] H C os R (Stp.refl _) .nil
theorem dk_cons (he : DE Φ X e f) (hr : DK Φ X kws g) : DK Φ X (⟨nm, e, kpos⟩ :: kws) (acons f g) := PK.imp (pk_cons he hr) fun σ H Q h => tcons_of h
def kwA (n m : Nat) (ix : List Nat) (fa fk : Mo (List D)) : Mo (List D) := bnd fa fun ds => bnd fk fun es => if ds.length = n ∧ es.length = m then ret (pick ix (ds ++ es)) else no
/-- the module's def x, called with n arguments by place, then by the names ks -/
structure DfK (P : Program) (w : World) (K : PySem.W.Frag) (mg : Str → Option Value) (base : Heap) (x : Str) (k : Nat) (G : Fn) (n : Nat) (ks : List Str) (ix : List Nat) : Prop where
  ex : ∃ f fd ps, FnOk P w K mg base (L2.CX P w) k f fd ps (spD K mg G) ∧ mg x = some (.ref f) ∧ PySem.W.keepIn K (.ref f) = true ∧ KwB K fd ps ks n ix
theorem de_callK {k j n : Nat} {G : Fn} {ks : List Str} {ix : List Nat} (F : DfK X.prog X.w X.K X.mg X.base x k G n ks ix) (c : Cc Φ X j) (ha : DA Φ X es fa) (hw : DK Φ X kws fk) (hg : Gl X x) (hj : k ≤ j := by decide)
    (hall : (backToKw pos (keywordEach kws X.env)).all (·.1.isSome) = true := by rfl) (hks : (backToKw pos (keywordEach kws X.env)).filterMap (·.1) = ks := by rfl)
    (hdb : (x == ("__debug__" : Str)) = false := by decide) (hpl : ((backTo pos (starEach es X.env)).any (·.1) || (backToKw pos (keywordEach kws X.env)).any (·.1.isNone)) = false := by rfl)
    (he : (es = [] ∧ n = 0) ∨ ∃ e r, es = e :: r ∧ starEach (e :: r) X.env = (false, eval e X.env) :: starEach r X.env := by first | exact .inl ⟨rfl, rfl⟩ | exact .inr ⟨_, _, rfl, rfl⟩) :
    DE Φ X (.Call (.Name x p) es kws pos) (calM G (kwA n ks.length ix fa fk)) := by
  obtain ⟨f, fd, ps, F, hm, hk, hb⟩ := F.ex
  refine PE.imp (pe_kw F (c.rm.mono hj) hg hm hk hb (fun σ => passAt c.tk σ) ha hw hall hks hdb hpl he) fun σ H Q ⟨ρ, μ, C, os, R, z⟩ => ⟨ρ, μ, C, os, R, ?_⟩
  unfold calM kwA bnd at z
  cases e1 : fa ρ μ with
  | no => simp only [e1] at z; exact z
  | ex c ns ds ρ1 μ1 => simp only [e1] at z; exact z
  | ok ds ρ1 μ1 =>
    simp only [e1] at z
    intro vs H1 C1 os1 R1 S1 q1
    refine ⟨ρ1, μ1, C1, os1, R1, ?_⟩
    have z := PostE.from S1 z
    cases e2 : fk ρ1 μ1 with
    | no => simp only [e2] at z; exact z
    | ex c ns ds ρ2 μ2 => simp only [e2] at z; exact z
    | ok es' ρ2 μ2 =>
      simp only [e2] at z
      intro zs H2 C2 os2 R2 S2 q2
      have z := PostE.from S2 z
      by_cases hl : ds.length = n ∧ es'.length = ks.length
      · rw [if_pos hl] at z
        have q3 := pick_reps ((q1.step S2).append q2) ix
        exact ⟨by rw [q1.length]; exact hl.1, by rw [q2.length]; exact hl.2, call_at R2 q3 z⟩
      · rw [if_neg hl] at z
        exact z.elim
/-- by place, at any level -/
theorem de_cal {k j : Nat} {G : Fn} (F : Dfn X.prog X.w X.K X.mg X.base x k G) (c : Cc Φ X j) (ha : DA Φ X (e :: es) fa) (hg : Gl X x) (hj : k ≤ j := by decide)
    (hdb : (x == ("__debug__" : Str)) = false := by decide) (he : starEach (e :: es) X.env = (false, eval e X.env) :: starEach es X.env := by rfl) (hpl : (backTo pos (starEach es X.env)).any (·.1) = false := by rfl) : DE Φ X (.Call (.Name x p) (e :: es) [] pos) (calM G fa) :=
  de_call F ⟨c.tk, c.rm.mono hj⟩ hg ha hdb he hpl
theorem df_cal {k j i : Nat} {G : Fn} (F : Dfn X.prog X.w X.K X.mg X.base x k G) (c : Cc Φ X j) (ha : DA Φ X (e :: es) fa) (hg : Gl X x) (hj : k ≤ j := by decide)
    (hdb : (x == ("__debug__" : Str)) = false := by decide) (he : starEach (e :: es) X.env = (false, eval e X.env) :: starEach es X.env := by rfl) (hpl : (backTo pos (starEach es X.env)).any (·.1) = false := by rfl) : DF Φ X i (.Call (.Name x p) (e :: es) [] pos) (cawM G fa) :=
  df_call F ⟨c.tk, c.rm.mono hj⟩ hg ha hdb he hpl

/-! ### an owned list becomes a cell -/
def celM (i : Nat) (g : Mo Fl) : Mo Fl := fun ρ μ => match ρ[i]? with
  | some (some (.ow (.lst ds))) => g (ρ.set i (some (.sh (.cell μ.length)))) (μ ++ [.lst ds])
  | some (some (.ow (.dct ks ds))) => g (ρ.set i (some (.sh (.cell μ.length)))) (μ ++ [.dct ks ds])
  | _ => .no
/-- the object of an owned entry, and what it becomes -/
theorem Rl.cel {ρ : Env} {μ : Sto} {C : List Addr} {os : Os} {σ : L2.St} {H : Hp} {i : Nat} {d : D} {c : Cell} (R : Rl Φ X ρ μ C os σ H) (hi : ρ[i]? = some (some (.ow d))) (nM : ∀ a, (some i, a) ∈ os → Φ.H0 a = none) (hc : ∀ r a, OwnR r a d → CellR r a c) :
    ∃ C' os', Rl Φ X (ρ.set i (some (.sh (.cell μ.length)))) (μ ++ [c]) C' os' σ H ∧ Stp (rc Φ X C os H) (rc Φ X C' os' H) := by
  obtain ⟨v, hv, a, rfl, hm, hO⟩ := R.env i _ hi
  obtain ⟨f1, f2, f3, o, f4⟩ := R.fre _ a hm
  have lc : C.length = μ.length := R.sto.1
  have hl : i < ρ.length := (List.getElem?_eq_some_iff.mp hi).1
  have S : Stp (rc Φ X C os H) (rc Φ X (C ++ [a]) (noA a os) H) := ⟨rfl, rfl, fun b z => by
    rcases z with z | z | ⟨j, z⟩
    · exact .inl (.inl z)
    · rcases List.mem_append.mp z with z | z
      · exact .inl (.inr (.inl z))
      · exact .inl (.inr (.inr ⟨some i, by rw [List.mem_singleton.mp z]; exact hm⟩))
    · exact .inl (.inr (.inr ⟨j, (mem_noA.mp z).1⟩)), ⟨[a], rfl⟩, fun b o z _ => z, fun b o z => ⟨o, z⟩, fun b z => mem_noA.mpr ⟨z, fun e => by
      have q := R.own none (some i) a (e ▸ z) hm
      cases q⟩, fun b o z _ => z⟩
  have other : ∀ (j : Nat) (b : Addr), j ≠ i → (some j, b) ∈ os → (some j, b) ∈ noA a os := fun j b ne z => mem_noA.mpr ⟨z, fun e => ne (Option.some.inj (R.own (some j) (some i) a (e ▸ z) hm))⟩
  refine ⟨C ++ [a], noA a os, ⟨by rw [List.length_set]; exact R.len, fun j t q => ?_, ⟨?_, fun n b c' h1 h2 => ?_⟩, fun j k b z1 z2 => R.own j k b (mem_noA.mp z1).1 (mem_noA.mp z2).1, fun j b z => ?_, ?_, fun b z => ?_, ?_, fun b z => ?_, fun b u e n1 n2 => ?_, R.alv⟩, S⟩
  · by_cases hj : j = i
    · subst hj
      rw [List.getElem?_set_self hl] at q
      cases q
      exact ⟨_, hv, .cell (by show (C ++ [a])[μ.length]? = some a; rw [← lc, List.getElem?_append_right (Nat.le_refl _)]; simp)⟩
    · rw [List.getElem?_set_ne (Ne.symm hj)] at q
      obtain ⟨v, h1, h2⟩ := R.env j t q
      refine ⟨v, h1, ?_⟩
      cases t with
      | sh d' => exact Rep.step S h2
      | ow d' =>
        obtain ⟨b, e1, e2, e3⟩ := h2
        exact ⟨b, e1, other j b hj e2, e3.step S rfl⟩
      | bd c ns ds =>
        obtain ⟨b, e1, e2, e3⟩ := h2
        exact ⟨b, e1, other j b hj e2, BdR.stepH S rfl e3⟩
      | eh c ns ds =>
        obtain ⟨b, dx, e1, e2, e3⟩ := h2
        exact ⟨b, dx, e1, e2, e3.step S⟩
  · show (C ++ [a]).length = (μ ++ [c]).length
    rw [List.length_append, List.length_append, lc] <;> rfl
  · have h1 : (C ++ [a])[n]? = some b := h1
    by_cases hn : n < C.length
    · rw [List.getElem?_append_left hn] at h1
      rw [List.getElem?_append_left (by rw [← lc]; exact hn)] at h2
      exact (R.sto.2 n b c' h1 h2).step S rfl
    · have en : n = C.length := by
        have := (List.getElem?_eq_some_iff.mp h1).1
        rw [List.length_append, List.length_singleton] at this
        omega
      subst en
      rw [List.getElem?_append_right (Nat.le_refl _), Nat.sub_self] at h1
      rw [lc, List.getElem?_append_right (Nat.le_refl _), Nat.sub_self] at h2
      cases h1; cases h2
      exact hc _ _ (hO.step S rfl)
  · have zm := mem_noA.mp z
    obtain ⟨g1, g2, g3, g4⟩ := R.fre j b zm.1
    refine ⟨g1, fun hC => ?_, g3, g4⟩
    rcases List.mem_append.mp hC with y | y
    · exact g2 y
    · exact zm.2 (List.mem_singleton.mp y)
  · obtain ⟨m, e⟩ := R.pre
    exact ⟨m ++ [a], by rw [e, List.append_assoc]⟩
  · rcases List.mem_append.mp z with y | y
    · exact R.cfr b y
    · rw [List.mem_singleton.mp y]
      exact .inr (nM a hm)
  · refine List.nodup_append.mpr ⟨R.cnd, by simp, fun b hb c hc e => ?_⟩
    rw [List.mem_singleton.mp hc] at e
    exact f2 (e ▸ hb)
  · rcases List.mem_append.mp z with y | y
    · exact R.clv b y
    · rw [List.mem_singleton.mp y]
      exact ⟨o, f4⟩
  · exact R.frm b u e (fun y => n1 (List.mem_append_left _ y)) n2
theorem dss_cel {i : Nat} {sts : List Stmt} {gs : Mo Fl} (h : DSs Φ X sts gs) (nM : ∀ a, ¬ Φ.M0 a) : DSs Φ X sts (celM i gs) := PSs.imp h fun E σ H ⟨ρ, μ, C, os, R, z⟩ => by
  have h0 : ∀ a, (some i, a) ∈ os → Φ.H0 a = none := fun a ha => (R.fre _ a ha).1.elim id fun y => (nM a y).elim
  unfold celM at z
  split at z
  · rename_i ds e
    obtain ⟨C', os', R', S'⟩ := R.cel e h0 (c := .lst ds) fun r a h => h
    exact ⟨_, _, C', os', R', PostS.from S' z⟩
  · rename_i ks ds e
    obtain ⟨C', os', R', S'⟩ := R.cel e h0 (c := .dct ks ds) fun r a h => h
    exact ⟨_, _, C', os', R', PostS.from S' z⟩
  · exact z.elim
end
end L2.DL

/-! DL16: repr, a text backward, {k: v, ..}, == of dicts. -/
namespace L2.DL
open PySem PySem.Spec PyProof.Rows
/-! ### repr -/
def keyP : Key → PyData
  | .inl i => .int i
  | .inr x => .str x
def scaD : D → Bool
  | .non | .bl _ | .int _ | .str _ => true
  | _ => false
def toR : D → Option PyData
  | .dct ks vs => if vs.all scaD then some (.dict ((ks.map keyP).zip (vs.map toP))) else none
  | d => if isData d then some (toP d) else none
def reprD (d : D) : Option D := match toR d with
  | some p => if p.showable && p.leavesShort 13 && decide (p.weight ≤ 1048576) && decide (p.depth ≤ 60) then some (.str p.shown) else none
  | none => none
mutual
theorem nodict : ∀ d : D, isData d = true → (toP d).hasDict = false
  | .non, _ => rfl | .bl _, _ => rfl | .int _, _ => rfl | .str _, _ => rfl
  | .tup xs, h => nodicts xs h | .lst xs, h => nodicts xs h | .frz xs, h => nodicts xs h
  | .dct _ _, h => by cases h
  | .ins _ _ _, h => by cases h
  | .cell _, h => by cases h
theorem nodicts : ∀ ds : List D, areData ds = true → PyData.hasDictAll (toPs ds) = false
  | [], _ => rfl
  | d :: ds, h => by
    have h : (isData d && areData ds) = true := h
    obtain ⟨h1, h2⟩ := Bool.and_eq_true_iff.mp h
    show ((toP d).hasDict || PyData.hasDictAll (toPs ds)) = false
    rw [nodict d h1, nodicts ds h2] <;> rfl
end
section
variable {X : Cx} {pins : List (Addr × Obj)} {σ : L2.St} {H : Hp} {s : Shared}
theorem key_reads {h : Heap} {k : Key} {v : Value} (e : keyIs k v = true) : Reads h v (keyP k) [] := by
  rcases keyIs_shape e with ⟨i, t, rfl, rfl⟩ | ⟨x, t, rfl, rfl⟩
  · exact .int i t
  · exact .str x t
theorem sca_reads {r : RC} {h : Heap} {v : V} {u : Value} {d : D} (q : Rep r v d) (e : scaD d = true) (rv : RelV v u) : Reads h u (toP d) [] := by
  cases q with
  | non => cases rv; exact .none
  | bl b => cases rv; exact .bool b
  | int i => obtain ⟨t, rfl⟩ := rv; exact .int i t
  | str s => obtain ⟨t, rfl⟩ := rv; exact .str s t
  | _ => cases e
theorem pairs_reads {r : RC} {h : Heap} {P : Program} {w : World} : ∀ {es : List DictEntry} {vs : List (Key × Value)} {kvs : List (Key × V)} {ds : List D}, Pairs (mixKind P w) es vs → KV kvs vs → Reps r (kvs.map (·.2)) ds → ds.all scaD = true →
    ReadsAll h (es.map (·.key)) ((kvs.map (·.1)).map keyP) [] ∧ ReadsAll h (es.map (·.val)) (ds.map toP) [] := by
  intro es vs kvs ds hp
  induction hp generalizing kvs ds with
  | nil =>
    intro hk q _
    cases hk
    cases q
    exact ⟨.nil, .nil⟩
  | @cons e kv es vs h1 h2 _ ih =>
    intro hk q ha
    cases hk with
    | @cons p _ kvs _ hkv hrest =>
      cases q with
      | @cons _ d _ ds q1 q2 =>
        simp only [List.all_cons, Bool.and_eq_true] at ha
        obtain ⟨z1, z2⟩ := ih hrest q2 ha.2
        obtain ⟨e1, rv⟩ := hkv
        refine ⟨?_, ?_⟩
        · have h1 : keyIs kv.1 e.key = true := h1
          rw [← e1] at h1
          exact ReadsAll.cons (as := []) (bs := []) (key_reads h1) z1
        · rw [← h2] at rv
          exact ReadsAll.cons (as := []) (bs := []) (sca_reads q1 ha.1 rv) z2
theorem rep_reads {r : RC} (I : Inv X pins σ H s) (hK : r.K = X.K) (hH : r.H = H) {v : V} {u : Value} {d : D} {p : PyData} (q : RepW r v d) (rv : RelV v u) (e : toR d = some p) : ∃ as, Reads s.heap u p as ∧ (p.hasDict = true → sysModules ∉ as) := by
  subst hH
  have flat : isData d = true → p = toP d → (toP d).hasDict = false → ∃ as, Reads s.heap u p as ∧ (p.hasDict = true → sysModules ∉ as) := fun h1 h2 h3 => by
    subst h2
    obtain ⟨as, z⟩ := Dp.reads I _ v u (hK ▸ q.dp h1) rv
    exact ⟨as, z, PyData.noDict_hsm h3⟩
  have noD : ∀ d : D, isData d = true → (toP d).hasDict = false := nodict
  cases d with
  | dct ks vs =>
    have e : (if vs.all scaD = true then some (PyData.dict ((ks.map keyP).zip (vs.map toP))) else none) = some p := e
    by_cases ha : vs.all scaD = true
    · rw [if_pos ha] at e
      cases e
      obtain ⟨a, kvs, rfl, hH, e1, q1⟩ := q.dct
      obtain ⟨_, hs, ws, hkv, o, es, ep, ho, hx, hd, _, hp, _⟩ : ObjOk X.prog X.w r.H s.heap a (.dK kvs) := I.hok a _ hH
      cases rv
      obtain ⟨z1, z2⟩ := pairs_reads (h := s.heap) hp hkv q1 ha
      have lk : (ks.map keyP).length = (vs.map toP).length := by
        have := q1.length
        rw [List.length_map] at this
        rw [List.length_map, List.length_map, ← e1, List.length_map, this]
      refine ⟨a :: [] ++ [], .dict ho hx.1 hd ?_ ?_, fun _ hm => ?_⟩
      · rw [List.map_fst_zip (Nat.le_of_eq lk), ← e1]
        exact z1
      · rw [List.map_snd_zip (Nat.le_of_eq lk.symm)]
        exact z2
      · have hm : sysModules ∈ [a] := by simpa using hm
        rw [List.mem_singleton.mp hm] at hs
        simp at hs
    · rw [if_neg ha] at e
      cases e
  | non => exact flat rfl (by cases e; rfl) (noD _ rfl)
  | bl b => exact flat rfl (by cases e; rfl) (noD _ rfl)
  | int i => exact flat rfl (by cases e; rfl) (noD _ rfl)
  | str x => exact flat rfl (by cases e; rfl) (noD _ rfl)
  | tup xs =>
    have e : (if isData (D.tup xs) = true then some (toP (D.tup xs)) else none) = some p := e
    by_cases h : isData (D.tup xs) = true
    · rw [if_pos h] at e
      cases e
      exact flat h rfl (noD _ h)
    · rw [if_neg h] at e
      cases e
  | lst xs =>
    have e : (if isData (D.lst xs) = true then some (toP (D.lst xs)) else none) = some p := e
    by_cases h : isData (D.lst xs) = true
    · rw [if_pos h] at e
      cases e
      exact flat h rfl (noD _ h)
    · rw [if_neg h] at e
      cases e
  | frz xs =>
    have e : (if isData (D.frz xs) = true then some (toP (D.frz xs)) else none) = some p := e
    by_cases h : isData (D.frz xs) = true
    · rw [if_pos h] at e
      cases e
      exact flat h rfl (noD _ h)
    · rw [if_neg h] at e
      cases e
  | ins c ns vs =>
    have e : (none : Option PyData) = some p := e
    cases e
  | cell n =>
    have e : (none : Option PyData) = some p := e
    cases e
def rRepr (X : Cx) : List V → Hp → VK → Prop := fun xs H Q => ∃ (r : RC) (x : V) (d : D) (p : PyData), xs = [x] ∧ r.K = X.K ∧ r.H = H ∧ RepW r x d ∧ toR d = some p ∧ p.showable = true ∧ p.leavesShort 13 = true ∧ p.weight ≤ 1048576 ∧ p.depth ≤ 60 ∧ Q (.str p.shown) H
theorem call_reprD (hg : X.A.guards = some []) (hu : hasUnits X) : CallR X (.builtin "repr") (rRepr X) := by
  intro pins s σ H xs us Q I r h
  obtain ⟨q, x, d, p, rfl, h1, h2, h3, h4, h5, h6, h7, h8, k⟩ := h
  obtain ⟨u, rfl, rv⟩ := vals1 r
  obtain ⟨as, hr, hm⟩ := rep_reads I h1 h2 h3 rv h4
  have hz : p.shown.length ≤ sizeLine := PyData.shown_fits (B := 13) (by decide) (by decide) h6 (Nat.le_trans h7 (by decide))
  have hu : X.A.units + 64 < cLine := hu
  cases hr with
  | none => exact PySem.P.repr_of_none ⟨.str _, H, I.tok _, ⟨_, rfl⟩, k⟩
  | bool b => exact PySem.P.repr_of_bool ⟨.str _, H, I.tok _, ⟨_, rfl⟩, k⟩
  | int i t => exact PySem.P.repr_of_int (by simpa [PyData.showable] using h5) ⟨.str _, H, I.tok _, ⟨_, rfl⟩, k⟩
  | str x t => exact PySem.P.repr_of_str ⟨.str _, H, I.tok _, ⟨_, rfl⟩, k⟩ (by simpa only [PyData.shown] using hz)
  | list a1 a2 a3 a4 => exact repr_of_reads' (.list a1 a2 a3 a4) h5 hm hg (by omega) (fun _ _ e => e) (fun h' u tk hk => ⟨.str _, H, I.kept (t' := tk) hk, ⟨_, rfl⟩, k⟩) hz
  | tuple a1 a2 a3 a4 => exact repr_of_reads' (.tuple a1 a2 a3 a4) h5 hm hg (by omega) (fun _ _ e => e) (fun h' u tk hk => ⟨.str _, H, I.kept (t' := tk) hk, ⟨_, rfl⟩, k⟩) hz
  | dict a1 a2 a3 a4 a5 => exact repr_of_reads' (.dict a1 a2 a3 a4 a5) h5 hm hg (by omega) (fun _ _ e => e) (fun h' u tk hk => ⟨.str _, H, I.kept (t' := tk) hk, ⟨_, rfl⟩, k⟩) hz
theorem cd_repr : Cal1 X (rRepr X) reprD := by
  intro q x d1 d Q hK _ _ h1 e k
  unfold reprD at e
  cases e2 : toR d1 with
  | none => simp only [e2] at e; cases e
  | some p =>
    simp only [e2] at e
    split at e
    · rename_i hc
      simp only [Bool.and_eq_true, decide_eq_true_eq] at hc
      cases e
      exact ⟨q, x, d1, p, rfl, hK, rfl, h1, e2, hc.1.1.1, hc.1.1.2, hc.1.2, hc.2, k _ _ (Grow.refl _) (.str _)⟩
    · cases e
variable {Φ : Ctx} {e : Expr} {f : Mo D} {p pos : Pos}
theorem de_repr (hgd : X.A.guards = some []) (hu : hasUnits X) (hm : X.mg "repr" = none) (ha : DB Φ X e f) (hg : Gl X "repr" := by rfl) (he : starEach (e :: []) X.env = (false, eval e X.env) :: starEach [] X.env := by rfl) (hpl : (backTo pos (starEach [] X.env)).any (·.1) = false := by rfl) :
    DE Φ X (.Call (.Name "repr" p) [e] [] pos) (op1 reprD f) := de_b1 (call_reprD hgd hu) cd_repr hm (by decide +kernel) ha hg (by decide) (by decide) he hpl

/-! ### s[::-1] -/
def revD : D → Option D
  | .str z => if z.length ≤ lineN then some (.str (revS z)) else none
  | _ => none
theorem rev_len (z : Str) : (revS z).length ≤ z.length := by
  show ((Builtin.Str.strSliceIndices none none (-1) z.length).filterMap (z.cps[·]?)).toArray.size ≤ z.length
  rw [List.size_toArray]
  refine Nat.le_trans (List.length_filterMap_le _ _) ?_
  rw [PyProof.Rows.picked_rev, List.length_map, List.length_range]
  exact Nat.le_refl _
def tRvS (te : TE) : TE := fun σ H Q => te σ H fun x H1 => ∃ z, x = .str z ∧ z.length ≤ sizeLine ∧ Q (.str (revS z)) H1
theorem pe_rvS {te : TE} {k : Nat} {p1 p2 p3 pos : Pos} (he : PE X e te) : PE X (.Subscript e (.Slice none none (some (.UnaryOp .USub (.Constant (.int 1) k p1) p2)) p3) pos) (tRvS te) := by
  refine ⟨fun pins s σ H Q I h => Subscript_ (thn (he.run pins s σ H _ I h) fun v s1 ⟨x, H1, I1, r1, z, ex, hz, q⟩ => ?_)⟩
  subst ex
  obtain ⟨t, rfl⟩ := r1
  have st : PO X (some (.UnaryOp .USub (.Constant (.int 1) k p1) p2)) (tPart (tUn (rU fun i => .int (-i)) (tC (.int 1)))) := po_some (pe_un un_neg pe_int)
  refine wpAny_Slice (thn (po_none.run pins s1 σ H1 (fun o H2 => o = none ∧ H2 = H1) I1 ⟨rfl, rfl⟩) fun vl s2 ⟨l, H2, I2, pl, el, e2⟩ => ?_)
  subst el e2
  refine thn (po_none.run pins s2 σ H2 (fun o H3 => o = none ∧ H3 = H2) I2 ⟨rfl, rfl⟩) fun vu s3 ⟨u, H3, I3, pu, eu, e3⟩ => ?_
  subst eu e3
  refine thn (st.run pins s3 σ H3 (fun o H4 => o = some (-1) ∧ H4 = H3) I3 ⟨1, rfl, -1, rfl, rfl, rfl⟩) fun vs s4 ⟨o, H4, I4, ps, eo, e4⟩ => ?_
  subst eo e4
  have I5 : Inv X pins σ H4 { s4 with heap := s4.heap.push { cls := .type "slice", data := .fields #[vl, vu, vs] } } := I4.kept (t' := s4.toks) fun b ob q => Heap.get?_push_of_some _ q
  obtain ⟨pl1, rfl, pl2⟩ := IsPart.raw pl
  obtain ⟨pu1, rfl, pu2⟩ := IsPart.raw pu
  obtain ⟨ps1, rfl, ps2⟩ := IsPart.raw ps
  have hsl : Heap.IsSlice (s4.heap.push { cls := .type "slice", data := .fields #[partValue pl1, partValue pu1, partValue ps1] }) s4.heap.objs.size pl1 pu1 ps1 := ⟨_, Heap.get?_push_size _ rfl, rfl, rfl⟩
  show wpAny (model X.prog X.w) X.A (subscriptTail e (.Slice none none (some (.UnaryOp .USub (.Constant (.int 1) k p1) p2)) p3) (.str z t) (.ref s4.heap.objs.size)) (EP X pins σ Q) X.xe _
  have c1 : (ps1.map (·.1)).getD 1 = -1 := by rw [ps2]; rfl
  refine tail_any (ops := [.str z t, .ref s4.heap.objs.size]) (typeIs_str _ _ _) PySem.F.slot_str_getitem.lookup ?_ (by with_unfolding_all rfl)
  refine wpAny_getItem_str_slice hsl (by rw [c1]; decide) ?_
  unfold sliceMade slicePicked
  rw [c1, if_neg (by simp), pl2, pu2]
  exact ⟨Nat.le_trans (rev_len z) hz, .str _, H4, I5.tok _, ⟨_, rfl⟩, q⟩
theorem de_rev {k : Nat} {p1 p2 p3 pos : Pos} (he : DE Φ X e f) : DE Φ X (.Subscript e (.Slice none none (some (.UnaryOp .USub (.Constant (.int 1) k p1) p2)) p3) pos) (op1 revD f) := PE.imp (pe_rvS he) fun σ H Q ⟨ρ, μ, C, os, R, z⟩ =>
  ⟨ρ, μ, C, os, R, PostE.bnd z fun d ρ1 μ1 v H1 C1 os1 R1 S1 q1 z1 => by
    obtain ⟨d', e, k⟩ := lift_ok R1 z1
    unfold revD at e
    split at e
    · split at e
      · rename_i hl
        cases e
        cases q1
        exact ⟨_, rfl, by rw [line_eq]; exact hl, k _ _ (Grow.refl _) (.str _)⟩
      · cases e
    · cases e⟩
end
end L2.DL

/-! DL17: {k: v, ..}, == of dicts. -/
namespace L2.DL
open PySem PySem.Spec PyProof.Rows
def keyD : D → Option Key
  | .int i => some (.inl i)
  | .str s => some (.inr s)
  | _ => none
def prsM : List (Mo D × Mo D) → Mo (List (Key × D))
  | [] => ret []
  | (fk, fv) :: r => bnd fk fun dk => bnd fv fun dv => bnd (prsM r) fun l => match keyD dk with
    | some k => ret ((k, dv) :: l)
    | none => no
def dspM (ps : List (Mo D × Mo D)) : Mo D := bnd (prsM ps) fun l => if (l.map (·.1)).Nodup ∧ l.length ≤ 15 then ret (.dct (l.map (·.1)) (l.map (·.2))) else no
section
variable {Φ : Ctx} {X : Cx} {pos : Pos}
def prT (Φ : Ctx) (X : Cx) (ps : List (Mo D × Mo D)) : List (TE × TE) := ps.map fun p => (cE Φ X p.1, cE Φ X p.2)
/-- keys, values and what they compute -/
def DPs (Φ : Ctx) (X : Cx) (pos : Pos) (ks : List (Option Expr)) (vs : List Expr) (ps : List (Mo D × Mo D)) : Prop := PPs X pos ks vs (prT Φ X ps)
theorem dps_nil : DPs Φ X pos [] [] [] := pps_nil
theorem dps_cons {k v : Expr} {ks : List (Option Expr)} {vs : List Expr} {fk fv : Mo D} {ps : List (Mo D × Mo D)} (hk : DE Φ X k fk) (hv : DE Φ X v fv) (r : DPs Φ X pos ks vs ps) : DPs Φ X pos (some k :: ks) (v :: vs) ((fk, fv) :: ps) := pps_cons hk hv r
def PostP (Φ : Ctx) (X : Cx) (C : List Addr) (os : Os) (σ : L2.St) (H : Hp) (o : O (List (Key × D))) (Q : List (V × V) → Hp → Prop) : Prop := match o with
  | .ok l ρ' μ' => ∀ (kvs : List (Key × V)) H' C' os', Rl Φ X ρ' μ' C' os' σ H' → Stp (rc Φ X C os H) (rc Φ X C' os' H') → kvs.map (·.1) = l.map (·.1) → Reps (rc Φ X C' os' H') (kvs.map (·.2)) (l.map (·.2)) → Q (kvs.map fun kv => (kV kv.1, kv.2)) H'
  | .ex c ns ds ρ' μ' => ∀ Cc dx H' C' os', Rl Φ X ρ' μ' C' os' σ H' → Stp (rc Φ X C os H) (rc Φ X C' os' H') → X.mg c = some (.ref Cc) → EhR (rc Φ X C' os' H') dx c ns ds → Φ.W (.ref Cc) (some dx) σ H'
  | .no => False
theorem PostP.from {C C1 : List Addr} {os os1 : Os} {σ : L2.St} {H H1 : Hp} {o : O (List (Key × D))} {Q : List (V × V) → Hp → Prop} (S : Stp (rc Φ X C os H) (rc Φ X C1 os1 H1)) (h : PostP Φ X C os σ H o Q) : PostP Φ X C1 os1 σ H1 o Q := by
  cases o with
  | ok d ρ' μ' => exact fun v H' C' os' R T q => h v H' C' os' R (S.trans T) q
  | ex c ns ds ρ' μ' => exact fun Cc dx H' C' os' R T g e => h Cc dx H' C' os' R (S.trans T) g e
  | no => exact h
theorem key_rep {r : RC} {v : V} {d : D} {k : Key} (q : Rep r v d) (e : keyD d = some k) : v = kV k := by
  cases q with
  | int i => cases e; rfl
  | str s => cases e; rfl
  | _ => cases e
theorem prs_run : ∀ {ps : List (Mo D × Mo D)} {ρ : Env} {μ : Sto} {C : List Addr} {os : Os} {σ : L2.St} {H : Hp} {Q : List (V × V) → Hp → Prop}, Rl Φ X ρ μ C os σ H → PostP Φ X C os σ H (prsM ps ρ μ) Q → tPairs (prT Φ X ps) σ H Q
  | [], ρ, μ, C, os, σ, H, Q, R, z => z [] H C os R (Stp.refl _) rfl .nil
  | (fk, fv) :: ps, ρ, μ, C, os, σ, H, Q, R, z => by
    have z : PostP Φ X C os σ H (bnd fk (fun dk => bnd fv fun dv => bnd (prsM ps) fun l => match keyD dk with
      | some k => ret ((k, dv) :: l)
      | none => no) ρ μ) Q := z
    show cE Φ X fk σ H _
    refine ⟨ρ, μ, C, os, R, ?_⟩
    unfold bnd at z
    cases e1 : fk ρ μ with
    | no => simp only [e1] at z; exact z
    | ex c ns ds ρ1 μ1 => simp only [e1] at z; exact z
    | ok dk ρ1 μ1 =>
      simp only [e1] at z
      intro x H1 C1 os1 R1 S1 q1
      have z := PostP.from S1 z
      refine ⟨ρ1, μ1, C1, os1, R1, ?_⟩
      show PostE Φ X C1 os1 σ H1 (fv ρ1 μ1) (fun y H2 => tPairs (prT Φ X ps) σ H2 fun ps' H3 => Q ((x, y) :: ps') H3)
      cases e2 : fv ρ1 μ1 with
      | no => simp only [e2] at z; exact z
      | ex c ns ds ρ2 μ2 => simp only [e2] at z; exact z
      | ok dv ρ2 μ2 =>
        simp only [e2] at z
        intro y H2 C2 os2 R2 S2 q2
        have z := PostP.from S2 z
        refine prs_run R2 ?_
        cases e3 : prsM ps ρ2 μ2 with
        | no => simp only [e3] at z; exact z
        | ex c ns ds ρ3 μ3 => simp only [e3] at z; exact z
        | ok l ρ3 μ3 =>
          simp only [e3] at z
          intro kvs H3 C3 os3 R3 S3 h1 h2
          cases e4 : keyD dk with
          | none => simp only [e4] at z; exact z.elim
          | some k =>
            simp only [e4] at z
            have z := PostP.from S3 z
            have q := z ((k, y) :: kvs) H3 C3 os3 R3 (Stp.refl _) (by simp [h1]) (.cons (q2.step S3) h2)
            rw [key_rep q1 e4]
            exact q
theorem merge_app : ∀ (ls kvs : List (Key × V)), ((kvs ++ ls).map (·.1)).Nodup → mergeK kvs ls = kvs ++ ls
  | [], kvs, _ => by simp [mergeK]
  | p :: ls, kvs, h => by
    have e : putK kvs p.1 p.2 = kvs ++ [p] := by
      unfold putK
      have hn : ¬ ((kvs.any fun kv => decide (kv.1 = p.1)) = true) := by
        rw [List.any_eq_true]
        rintro ⟨q, hq, e⟩
        rw [List.map_append, List.map_cons] at h
        have h3 := (List.nodup_append.mp h).2.2 q.1 (List.mem_map_of_mem hq) p.1 List.mem_cons_self
        exact h3 (of_decide_eq_true e)
      rw [if_neg hn]
    have ih := merge_app ls (kvs ++ [p]) (by rw [List.append_assoc]; exact h)
    show mergeK (putK kvs p.1 p.2) ls = _
    rw [e, ih, List.append_assoc] <;> rfl
theorem de_disp {keys : List (Option Expr)} {values : List Expr} {ps : List (Mo D × Mo D)} (h : DPs Φ X pos keys values ps) (hall : keys.all (·.isSome) = true := by rfl) (hl : keys.length = values.length := by rfl) (h0 : keys ≠ [] := by simp) (h15 : keys.length ≤ 15 := by decide) :
    DE Φ X (.Dict keys values pos) (dspM ps) := PE.imp (pe_disp h hall hl h0 h15) fun σ H Q ⟨ρ, μ, C, os, R, z⟩ p hp => by
  have R1 := R.add (o := .dK []) none hp
  have S1 : Stp (rc Φ X C os H) (rc Φ X C ((none, p) :: os) (upd H p (.dK []))) := stp_add hp
  refine prs_run R1 ?_
  unfold dspM bnd at z
  cases e : prsM ps ρ μ with
  | no => simp only [e] at z; exact z
  | ex c ns ds ρ1 μ1 =>
    simp only [e] at z
    exact fun Cc dx H' C' os' R' S' g e => z Cc dx H' C' os' R' (S1.trans S') g e
  | ok l ρ1 μ1 =>
    simp only [e] at z
    intro kvs H2 C2 os2 R2 S2 h1 h2
    have hm : (none, p) ∈ os2 := S2.m p List.mem_cons_self
    have hH : H2 p = some (.dK []) := S2.n p _ upd_same List.mem_cons_self
    split at z
    · rename_i hc
      refine ⟨hH, kvs, rfl, ?_, ?_⟩
      · have := congrArg List.length h1
        rw [List.length_map, List.length_map] at this
        rw [this]; exact hc.2
      · have em : mergeK [] kvs = kvs := merge_app kvs [] (by show (kvs.map (·.1)).Nodup; rw [h1]; exact hc.1)
        rw [em]
        have T : Stp (rc Φ X C os H) (rc Φ X C2 os2 H2) := S1.trans S2
        obtain ⟨R3, S3⟩ := R2.mutB hm (.dK kvs)
        have T3 := stp_mutB T hp (.dK kvs)
        obtain ⟨R4, S4⟩ := R3.rel hm
        have T4 : Stp (rc Φ X C os H) (rc Φ X C2 (noA p os2) (upd H2 p (.dK kvs))) := ⟨rfl, rfl, fun b y => by
          rcases y with y | y | ⟨j, y⟩
          · exact T3.a b (.inl y)
          · exact T3.a b (.inr (.inl y))
          · exact T3.a b (.inr (.inr ⟨j, (mem_noA.mp y).1⟩)), T3.c, T3.h, T3.l, fun b y => mem_noA.mpr ⟨T3.m b y, fun e => by
            obtain ⟨_, _, _, u, e2⟩ := R.fre none b y
            rw [e, hp] at e2; cases e2⟩, T3.n⟩
        refine z _ _ C2 _ R4 T4 (.dct upd_same ?_ h1 ((h2.stq S3).stq S4))
        obtain ⟨_, g2, g3, _⟩ := R2.fre none p hm
        rintro (y | y | ⟨j, y⟩)
        · exact g3 y
        · exact g2 y
        · exact (mem_noA.mp y).2 rfl
    · exact z.elim

/-! ### == -/
def sameS : D → D → Bool
  | .non, .non => true
  | .bl a, .bl b => decide (a = b)
  | .int a, .int b => decide (a = b)
  | .str a, .str b => decide (a = b)
  | _, _ => false
def samesS : List D → List D → Bool
  | [], [] => true
  | a :: as, b :: bs => sameS a b && samesS as bs
  | _, _ => false
def dctT : D → D → Option D
  | .dct ks vs, .dct ks' vs' => if ks = ks' ∧ ks.Nodup ∧ samesS vs vs' = true then some (.bl true) else none
  | _, _ => none
theorem sameS_eq {r : RC} {x y : V} {a b : D} (h1 : Rep r x a) (h2 : Rep r y b) (e : sameS a b = true) : x = y ∧ flatB x = true := by
  cases h1 <;> cases h2 <;> first
    | exact ⟨rfl, rfl⟩
    | (cases (of_decide_eq_true e); exact ⟨rfl, rfl⟩)
    | cases e
theorem same_dict {r : RC} {n : Nat} {K : PySem.W.Frag} : ∀ {ks ls : List (Key × V)} {as bs : List D}, ks.map (·.1) = ls.map (·.1) → (ks.map (·.1)).Nodup → Reps r (ks.map (·.2)) as → Reps r (ls.map (·.2)) bs → samesS as bs = true →
    ks.length = ls.length ∧ ∀ p ∈ ks, ∃ u, valV ls p.1 = some u ∧ EqV K r.H (n + 1) p.2 u
  | [], [], _, _, _, _, _, _, _ => ⟨rfl, fun p hp => by cases hp⟩
  | [], _ :: _, _, _, h, _, _, _, _ => by cases h
  | _ :: _, [], _, _, h, _, _, _, _ => by cases h
  | k :: ks, l :: ls, _, _, h, hn, q1, q2, e => by
    cases q1 with
    | @cons _ a _ as qa qas =>
      cases q2 with
      | @cons _ b _ bs qb qbs =>
        simp only [List.map_cons, List.cons.injEq] at h
        have e : (sameS a b && samesS as bs) = true := e
        obtain ⟨e1, e2⟩ := Bool.and_eq_true_iff.mp e
        simp only [List.map_cons] at hn
        obtain ⟨n1, n2⟩ := List.nodup_cons.mp hn
        obtain ⟨z1, z2⟩ := same_dict (n := n) (K := K) h.2 n2 qas qbs e2
        obtain ⟨xy, fl⟩ := sameS_eq qa qb e1
        refine ⟨by simp [z1], fun p hp => ?_⟩
        rcases List.mem_cons.mp hp with rfl | hp
        · exact ⟨l.2, valV_pos h.1.symm, .inl ⟨xy, fl⟩⟩
        · obtain ⟨u, hu, he⟩ := z2 p hp
          refine ⟨u, ?_, he⟩
          rw [valV_neg (fun z => n1 ?_)]
          · exact hu
          · rw [h.1, z]
            exact List.mem_map_of_mem hp
theorem od_dct : OpD X (rEqV X.K) dctT := by
  intro q x y d1 d2 d Q _ _ _ h1 h2 e k
  cases d1 with
  | dct ks vs =>
    cases d2 with
    | dct ks' vs' =>
      have e : (if ks = ks' ∧ ks.Nodup ∧ samesS vs vs' = true then some (D.bl true) else none) = some d := e
      by_cases hc : ks = ks' ∧ ks.Nodup ∧ samesS vs vs' = true
      · rw [if_pos hc] at e
        cases e
        obtain ⟨a, k1, rfl, g1, g2, g3⟩ := h1.dct
        obtain ⟨b, k2, rfl, g4, g5, g6⟩ := h2.dct
        obtain ⟨z1, z2⟩ := same_dict (n := 0) (K := X.K) (by rw [g2, g5]; exact hc.1) (by rw [g2]; exact hc.2.1) g3 g6 hc.2.2
        exact ⟨1, by decide, .inr ⟨a, b, k1, k2, rfl, rfl, g1, g4, z1, z2⟩, k _ _ (Grow.refl _) (.bl _)⟩
      · rw [if_neg hc] at e
        cases e
    | _ => cases e
  | _ => cases e
def eqQ (x y : D) : Option D := (eqD x y).or (dctT x y)
variable {a b : Expr} {f g : Mo D}
theorem de_eqQ (hu : hasUnits X) (ha : DE Φ X a f) (hb : DB Φ X b g) : DE Φ X (.Compare a [.Eq] [b] pos) (op2 eqQ f g) := de_cmp ((or_eq hu).or (op_eqV hu)) (od_eq.or od_dct) ha hb (nomark _)
theorem dt_eqQ (hu : hasUnits X) (ha : DE Φ X a f) (hb : DB Φ X b g) : DT Φ X (.Compare a [.Eq] [b] pos) (tst (op2 eqQ f g)) := pt_of ((or_eq hu).or (op_eqV hu)) (od_eq.or od_dct) ha hb (nomark _)
end
end L2.DL

/-! DL18: the law's own def, called where no guard stands; a def that is never reached; the end. -/
namespace L2.DL
open PySem PySem.Spec PyProof.Rows
section
variable {P : Program} {w : World} {K : PySem.W.Frag} {mg : Str → Option Value} {base : Heap}
/-- a def called from around A -/
def RunAt (P : Program) (w : World) (K : PySem.W.Frag) (mg : Str → Option Value) (base : Heap) (A : Around) (f : Addr) (fd : FuncData) (ps : List Str) (sp : Sp) : Prop :=
  ∀ (outer : List PySem.Env) (s : Shared) (H : Hp) (args : Args) (us : List Value) (vs : List V) (Q : VK) (E : XK), Env0 P w K mg base A outer s H → BindsTo s fd args (ps.zip us) → Vals vs us → sp vs H Q E →
    codeAny (model P w) A (.call (.ref f) args) (CR (L2.CX P w) outer P w H s Q E) s
theorem run_at {x qual : Str} {st : Stmt} {f : Addr} {fd : FuncData} {N ps : List Str} {k : Nat} {g : Mo Fl} {A : Around} (F : Fun K x qual st f fd) (S : FnScope N ps (defScope st)) (hr : Room (k + 1) A)
    (hb : ∀ (Φ : Ctx) (cdv : Value) (outer : List PySem.Env) (s : Shared) (H : Hp) (E : XK), Cn Φ (cxOf (L2.CX P w) P w K mg base N qual (defScope st) f cdv A outer s H E) k → (∀ a, ¬ Φ.M0 a) →
      DSs Φ (cxOf (L2.CX P w) P w K mg base N qual (defScope st) f cdv A outer s H E) (defBody st) g) : RunAt P w K mg base A f fd ps (spD K mg (runD ps.length N.length g)) := by
  obtain ⟨oc, od, kV, doc, pm, an, cdv, ct, osl, rfl, lk, hcd⟩ := F.ex
  intro outer s H args us vs Q E e0 bnds rv hsp
  have hl : vs.length = ps.length := by
    obtain ⟨ds, μ, A', C, i, z⟩ := hsp
    unfold runD at z
    split at z
    · rename_i hl
      rw [i.arg.length, hl]
    · exact z.elim
  have old : ∀ b o, base.get? b = some o → s.heap.get? b = some o := fun b o e => (e0.bs b o e).1
  have KX : K.In s.heap := e0.mod.kin.keeps old
  have kinds : ∀ y ∈ ps.zip us, (defScope st).names.lookup y.1 = some .local ∨ ((defScope st).names.lookup y.1 = some .cell ∧ ((cellsFrom (s.heap.objs.size + 1) (defScope st).names []).lookup y.1).isSome = true) := by
    rintro ⟨n, v⟩ hy
    rcases S.par n (List.of_mem_zip hy).1 with q | q
    · exact .inl q
    · exact .inr ⟨q, PySem.W.cellsFrom_some _ _ _ (.inl q)⟩
  refine codeAny_call_function hr.depth (KX _ _ lk) rfl S.co S.gen rfl (PySem.W.codeRec_of KX hcd) (bnds _ _ _ _ (wpAny_newFunctionEnv_cells S.kind kinds fun env he s1 x => ?_))
  subst he
  refine ⟨(e0.mod.nolimit.keeps old).keeps x.toInCall.keep, codeAny_func ?_⟩
  have I := inv_start (CX := L2.CX P w) (E := E) S hr.hd e0 hl rv x
  obtain ⟨ds, μ, A', C, i, z⟩ := hsp
  let Φ : Ctx := ⟨H, A', C, fun _ => False, fun cls d _ H' => E cls d H', none, ""⟩
  have nm : ∀ a, ¬ Φ.M0 a := fun _ h => h
  have cn : Cn Φ (cxOf (L2.CX P w) P w K mg base N qual (defScope st) f cdv A outer s H E) k := ⟨S.nd, rfl, passes_of rfl, takes_of (X := cxOf (L2.CX P w) P w K mg base N qual (defScope st) f cdv A outer s H E) rfl rfl rfl rfl, hr.deeper _⟩
  have done : cS Φ (cxOf (L2.CX P w) P w K mg base N qual (defScope st) f cdv A outer s H E) g { nx := fun _ H' => Q .non H', rt := Q } (start N vs) H := by
    refine ⟨_, μ, C, [], Rl.init (N := N) i rfl rfl rfl nm, ?_⟩
    unfold runD at z
    split at z
    · rename_i hl
      cases e : g (ds.map (fun d => some (Ent.sh d)) ++ List.replicate (N.length - ds.length) none) μ with
      | no => rw [e] at z; exact z
      | ex c ns es ρ' μ' =>
        rw [e] at z
        intro Cc dx σ' H' C' os' R _ hm he
        obtain ⟨o, S'⟩ := Rl.out (A := A') (C := C) (H := H) rfl rfl rfl nm R [] (fun a z => by cases z)
        exact z Cc dx H' C' o hm (he.stq S')
      | ok fl ρ' μ' =>
        rw [e] at z
        intro σ' H' C' os' R _
        obtain ⟨o, S'⟩ := Rl.out (A := A') (C := C) (H := H) rfl rfl rfl nm R [] (fun a z => by cases z)
        cases fl with
        | bk => exact z.elim
        | ct => exact z.elim
        | nx => exact z .non H' C' o .non
        | rt d => exact fun v q => z v H' C' o (q.stq S')
        | ro d =>
          intro a j hj q
          obtain ⟨o2, S2⟩ := Rl.out (A := A') (C := C) (H := H) rfl rfl rfl nm R [a] (fun b z => ⟨j, List.mem_singleton.mp z ▸ hj⟩)
          exact z a H' C' o2 (q.stq S2 rfl)
    · exact z.elim
  refine wpAny_mono ((hb Φ cdv outer s H E cn nm).run [] s1 (start N vs) H _ I done) (fun fl s' hs => ?_) fun e s' hs => hs
  cases fl with
  | ret u => obtain ⟨v, σ', H', J, rv', q⟩ := hs; exact ⟨v, H', J.os, J.bare, J.base, J.hok, rv', q⟩
  | next => obtain ⟨σ', H', J, q⟩ := hs; exact ⟨.non, H', J.os, J.bare, J.base, J.hok, rfl, q⟩
  | brk => obtain ⟨_, _, _, q⟩ := hs; exact q.elim
  | cont => obtain ⟨_, _, _, q⟩ := hs; exact q.elim
/-- a def that is never reached keeps every promise -/
theorem fn_never {f : Addr} {fd : FuncData} {ps : List Str} {k : Nat} : FnOk P w K mg base (L2.CX P w) k f fd ps (spD K mg fun _ _ => .no) :=
  ⟨fun vs H Q E ⟨_, _, _, _, _, z⟩ => z.elim, fun A outer s H args us vs Q E _ _ _ _ ⟨_, _, _, _, _, z⟩ => z.elim⟩
theorem FnOk.up {f : Addr} {fd : FuncData} {ps : List Str} {j k : Nat} {sp : Sp} (F : FnOk P w K mg base (L2.CX P w) j f fd ps sp) (h : j ≤ k := by decide) : FnOk P w K mg base (L2.CX P w) k f fd ps sp := F.mono h
end

/-! ### the script -/
theorem ints_repD {r : RC} : ∀ ns : List Int, Reps r (ns.map V.int) (ns.map D.int)
  | [] => .nil
  | n :: ns => .cons (.int n) (ints_repD ns)
/-- the law's def on a script -/
theorem law_at {P : Program} {w : World} {K : PySem.W.Frag} {mg mb : Str → Option Value} {fa a : Addr} {fd : FuncData} {x : Str} {G : Fn} {s₁ : Shared} {vs : List Value} {ns : List Int}
    (KX : K.In s₁.heap) (hns : s₁.heap.Ns mainGlobals mg) (hb : s₁.heap.Ns builtinsNs mb) (hbb : ∀ x : Str, x ≠ "__name__" → mb x = bootBuiltins x) (lim : s₁.heap.NoLimit) (hg : s₁.gens = #[])
    (ha : s₁.heap.get? a = some { cls := .type "list", data := .seq vs.toArray }) (hi : IntsAre vs ns) (hl : ns.length ≤ sizeLine)
    (F : ∀ base : Heap, K.In base → base.Ns mainGlobals mg → RunAt P w K mg base callerA fa fd [x] (spD K mg G)) (bnds : ∀ (s : Shared) (u : Value), BindsTo s fd ⟨[u], []⟩ [(x, u)])
    (ans : ∃ μ, G [.frz (ns.map D.int)] [] = .ok (.bl true) μ) :
    codeAny (model P w) callerA (.call (.ref fa) ⟨[.ref a], []⟩) (fun r s' => r = .ok (.ret (.bool true)) ∧ OldK s₁.heap s'.heap ∧ s'.os = s₁.os ∧ AllBare s'.gens) s₁ := by
  have rv := vals_ints hi
  have go : ∀ H : Hp, (∀ b, H b = none ∨ (b = a ∧ H b = some (.frz { cls := .type "list", data := .seq vs.toArray } (.lst (ns.map V.int))))) → SqL K H a (ns.map V.int) → HOk P w H s₁.heap → (H a ≠ none → K.lookup a = none) →
      codeAny (model P w) callerA (.call (.ref fa) ⟨[.ref a], []⟩) (fun r s' => r = .ok (.ret (.bool true)) ∧ OldK s₁.heap s'.heap ∧ s'.os = s₁.os ∧ AllBare s'.gens) s₁ := by
    intro H only hS hok hK
    have isA : ∀ {b o}, H b = some o → b = a := fun {b o} e => by
      rcases only b with z | z
      · rw [z] at e; cases e
      · exact z.1
    have keep : ∀ {b o}, s₁.heap.get? b = some o → H b = none → (hidT s₁.heap H).get? b = some o := fun e n => hidT_get e n
    have seqA : ∀ {b o}, s₁.heap.get? b = some o → H b ≠ none → o = { cls := .type "list", data := .seq vs.toArray } := fun {b o} e n => by
      cases q : H b with
      | none => exact (n q).elim
      | some u =>
        rw [isA q, ha] at e
        exact (Option.some.inj e).symm
    have hidK : K.In (hidT s₁.heap H) := fun b o e => keep (KX b o e) (Classical.byContradiction fun n => by
      cases q : H b with
      | none => exact n q
      | some u =>
        have eb := isA q
        rw [eb] at e n
        rw [hK n] at e; cases e)
    have hidN : ∀ {b : Addr} {m : Str → Option Value}, s₁.heap.Ns b m → (hidT s₁.heap H).Ns b m := fun {b m} ⟨o, es, ep, e, d, r⟩ => ⟨o, es, ep, keep e (Classical.byContradiction fun n => by
      rw [seqA e n] at d
      cases d), d, r⟩
    have M : Mod K mg (hidT s₁.heap H) := ⟨hidK, hidN hns, ⟨mb, hidN hb, hbb⟩, let ⟨mc, h1, h2⟩ := lim; ⟨mc, hidN h1, h2⟩⟩
    have e0 : Env0 P w K mg (hidT s₁.heap H) callerA [] s₁ H := ⟨rfl, M, fun b o e => of_hidT e, Nat.le_of_eq (hidT_size _ _), trivial, fun b hb => (by cases hb), hok, .of_eq hg⟩
    have sp : spD K mg G [.ref a] H (fun v _ => v = .bl true) fun _ _ _ => False := by
      obtain ⟨μ, e⟩ := ans
      refine ⟨[.frz (ns.map D.int)], [], fun _ => False, [], ⟨.cons (.frz ?_ (ints_repD ns)) .nil, ⟨rfl, fun n a c h => (by cases h)⟩, List.nodup_nil, fun a h => (by cases h), fun a h => h.elim⟩, ?_⟩
      · rcases hS with h | h
        · exact .inl ⟨fun z => z, h⟩
        · exact .inr (.inr h)
      · rw [e]
        intro v H' C' _ q
        cases q
        rfl
    refine codeAny_mono (F _ hidK (hidN hns) [] s₁ H ⟨[.ref a], []⟩ [.ref a] [.ref a] _ _ e0 (bnds s₁ (.ref a)) (.cons rfl .nil) sp) fun r s' h => ?_
    cases r with
    | error e =>
      obtain ⟨_, _, _, _, _, _, _, _, _, _, _, _, z⟩ := h
      exact z.elim
    | ok fl =>
      cases fl with
      | next => exact h.elim
      | brk => exact h.elim
      | cont => exact h.elim
      | ret u =>
        obtain ⟨v, H', os, bare, un, hok', r', q⟩ := h
        cases (show v = .bl true from q)
        cases (show u = Value.bool true from r')
        refine ⟨rfl, OldK.of_keep fun b o e => ?_, os, bare⟩
        rcases only b with n | ⟨eb, n⟩
        · exact un.keep b o e n (by intro z; cases z) (by simp)
        · obtain ⟨e1, _⟩ := hok b _ n
          obtain ⟨e2, _⟩ := hok' b _ (un.frzs b _ _ n)
          rw [e] at e1; cases e1
          exact e2
  cases hk : K.lookup a with
  | some o =>
    have e := KX a o hk
    rw [ha] at e
    cases e
    exact go (fun _ => none) (fun _ => .inl rfl) (.inr ⟨_, vs.toArray, _, hk, rfl, rfl, rfl, by rw [List.size_toArray, hi.length]; exact hl, by simpa using rv⟩) (fun b u z => nomatch (show (none : Option HO) = some u from z)) fun z => (z rfl).elim
  | none =>
    refine go (fun b => if b = a then some (.frz { cls := .type "list", data := .seq vs.toArray } (.lst (ns.map V.int))) else none) (fun b => ?_) (.inl (.inr ⟨_, if_pos rfl⟩)) (fun b u z => ?_) fun _ => hk
    · by_cases h : b = a
      · exact .inr ⟨h, if_pos h⟩
      · exact .inl (if_neg h)
    · by_cases h : b = a
      · have z := (if_pos h).symm.trans z
        cases z
        subst h
        exact ⟨ha, by rw [List.length_map]; exact hl, vs, _, rv, ha⟩
      · have z := (if_neg h).symm.trans z
        cases z
/-- the goal behind the head -/
theorem walk_D {l : PySem.W.OpenLaw} {n : Nat} {q : Program} {loose : List Str} {XP : (Str → Option Value) → Heap → Prop} {YP : World → Heap → Prop} {d : DefRec} {K : Params → PySem.W.Frag} {G : Fn} {x : Str} (hn : l.most = some n) (hn2 : n ≤ sizeLine) (hdf : d.params.defaults = [])
    (hY : ∀ (w : World) (h : Heap), YP w h → (K w.params).In h)
    (F : ∀ (w : World) (mg : Str → Option Value) (fa : Addr) (h : Heap), (K w.params).In h → h.Ns mainGlobals mg → mg d.name = some (.ref fa) →
      ∃ fd : FuncData, (∀ (s : Shared) (u : Value), BindsTo s fd ⟨[u], []⟩ [(x, u)]) ∧ ∀ base : Heap, (K w.params).In base → base.Ns mainGlobals mg → RunAt l.prog w (K w.params) mg base callerA fa fd [x] (spD (K w.params) mg G))
    (ans : ∀ ns : List Int, ns.length ≤ n → ∃ μ, G [.frz (ns.map D.int)] [] = .ok (.bl true) μ) : PySem.W.WalkO q loose XP YP l.row.toRowW d [] (fun f vs => PySem.call f vs) := by
  refine Att.attach_call hn hdf fun w s₀ s₁ mg mb fa o pm cd doc a vs ns G' Y ho hd hcd hmg hobj hints hlen hg => ?_
  have KX := hY w _ Y
  obtain ⟨fd, hb, hF⟩ := F w mg fa _ KX G'.T.g hmg
  exact law_at KX G'.T.g G'.T.b G'.T.builtins G'.T.nolimit hg hobj hints (Nat.le_trans hlen hn2) hF hb (ans ns hlen)
end L2.DL

/-! DL19: what the printed texts lean on: module constants, defs by name, error classes. -/
namespace L2.DL
open PySem PySem.Spec PyProof.Rows
theorem nx_name {i : Nat} : NoEx (tgN i) := fun _ _ _ _ _ _ _ _ e => by cases e
def NoExs (g : List D → Mo Unit) : Prop := ∀ ds ρ μ c ns es ρ' μ', g ds ρ μ ≠ .ex c ns es ρ' μ'
theorem nxs_nil : NoExs tgNil := fun ds _ _ _ _ _ _ _ e => by
  cases ds with
  | nil => cases e
  | cons _ _ => cases e
theorem nxs_cons {g : D → Mo Unit} {gs : List D → Mo Unit} (h : NoEx g) (hs : NoExs gs) : NoExs (tgCons g gs) := fun ds ρ μ c ns es ρ' μ' e => by
  cases ds with
  | nil => cases e
  | cons d ds =>
    have e : bnd (g d) (fun _ => gs ds) ρ μ = .ex c ns es ρ' μ' := e
    unfold bnd at e
    cases q : g d ρ μ with
    | no => rw [q] at e; cases e
    | ex _ _ _ _ _ => exact h _ _ _ _ _ _ _ _ q
    | ok a ρ1 μ1 => rw [q] at e; exact hs _ _ _ _ _ _ _ _ e
theorem nx_tup {n : Nat} {gs : List D → Mo Unit} (h : NoExs gs) : NoEx (tgT n gs) := fun d ρ μ c ns es ρ' μ' e => by
  cases d with
  | tup ds =>
    have e : (if ds.length = n then gs ds else no) ρ μ = .ex c ns es ρ' μ' := e
    by_cases hl : ds.length = n
    · rw [if_pos hl] at e; exact h _ _ _ _ _ _ _ _ e
    · rw [if_neg hl] at e; cases e
  | _ => cases e
/-- a comprehension's block, looked at -/
theorem blk_ok {N : List Str} {sc scope : Scope} {own : List (Str × Nat)} (h : (scope.kind = .function ∧ (∀ y ∈ scope.names, scope.names.lookup y.1 = some y.2) ∧ (∀ p ∈ own, N[p.2]? = some p.1) ∧
    (∀ y ∈ scope.names, y.2 = .free → sc.names.lookup y.1 = some .cell ∨ sc.names.lookup y.1 = some .free) ∧ ∀ y ∈ scope.names, y.2 = .local ∨ y.2 = .cell → y.1 ∈ own.map (·.1) ∨ y.1 ∉ N)) : BlkOk N sc scope own := ⟨h.1, h.2.1, h.2.2.1, h.2.2.2.1, h.2.2.2.2⟩
def newD : Mo D := ret (.dct [] [])
theorem de_new {Φ : Ctx} {X : Cx} {pos : Pos} : DE Φ X (.Dict [] [] pos) newD := PE.imp pe_dnewK fun σ H Q ⟨ρ, μ, C, os, R, z⟩ p hp =>
  z _ _ C os (R.grow (Grow.upd hp)) (stp_grow (Grow.upd hp)) (.dct upd_same (R.fresh hp) rfl .nil)
theorem sub_mem {T : Sub} {k : Str × Str} {b : Bool} (h : T.lookup k = some b) : (k, b) ∈ T := by
  induction T with
  | nil => cases h
  | cons p T ih =>
    obtain ⟨a, c⟩ := p
    rw [List.lookup_cons] at h
    by_cases e : k == a
    · rw [e] at h
      cases h
      rw [eq_of_beq e]
      exact List.mem_cons_self
    · rw [Bool.not_eq_true] at e
      rw [e] at h
      exact List.mem_cons_of_mem _ (ih h)
/-- a constant of the module, told by the written part -/
structure GlK (K : PySem.W.Frag) (mg : Str → Option Value) (x : Str) (d : D) : Prop where
  ex : ∃ u v, mg x = some u ∧ RelV v u ∧ ∀ r : RC, r.K = K → r.mg = mg → Rep r v d
theorem GlK.gl {X : Cx} {x : Str} {d : D} (h : GlK X.K X.mg x d) : GlD X x d := ⟨h.ex⟩
inductive Flat : V → Value → D → Prop
  | int (i : Int) (t : Tok) : Flat (.int i) (.int i t) (.int i)
  | str (s : Str) (t : Tok) : Flat (.str s) (.str s t) (.str s)
inductive Flats : List V → List Value → List D → Prop
  | nil : Flats [] [] []
  | cons {v : V} {u : Value} {d : D} {vs : List V} {us : List Value} {ds : List D} (h : Flat v u d) (t : Flats vs us ds) : Flats (v :: vs) (u :: us) (d :: ds)
theorem Flats.vals : ∀ {vs : List V} {us : List Value} {ds : List D}, Flats vs us ds → Vals vs us
  | _, _, _, .nil => .nil
  | _, _, _, .cons h t => .cons (by cases h <;> exact ⟨_, rfl⟩) (Flats.vals t)
theorem Flats.reps {r : RC} : ∀ {vs : List V} {us : List Value} {ds : List D}, Flats vs us ds → Reps r vs ds
  | _, _, _, .nil => .nil
  | _, _, _, .cons h t => .cons (by cases h <;> constructor) (Flats.reps t)
section
variable {P : Program} {w : World} {K : PySem.W.Frag} {mg : Str → Option Value} {base h : Heap}
theorem glk_tup {x : Str} {T : Addr} {its : Array Value} {n : Nat} {sl : Array (Option Value)} {vs : List V} {ds : List D} (X : K.In h) (G : h.Ns mainGlobals mg) (a : PySem.W.nsIn K mainGlobals x = some (some (.ref T)))
    (l : K.lookup T = some ⟨.type "tuple", none, .seq its n, sl⟩) (f : Flats vs its.toList ds) (hs : its.size ≤ sizeLine) : GlK K mg x (.tup ds) :=
  ⟨.ref T, .ref T, PySem.W.mg_of X G a, rfl, fun r hK _ => .tup (.inr ⟨_, its, n, by rw [hK]; exact l, rfl, rfl, rfl, hs, f.vals⟩) f.reps⟩
/-- a def of the module, by its name -/
structure FunG (K : PySem.W.Frag) (mg : Str → Option Value) (x : Str) (st : Stmt) (f : Addr) (fd : FuncData) : Prop where
  fn : Fun K x x st f fd
  mg : mg x = some (.ref f)
theorem FunG.dfn {x : Str} {st : Stmt} {f : Addr} {fd : FuncData} {ps : List Str} {k : Nat} {G : Fn} (F : FunG K mg x st f fd) (ok : FnOk P w K mg base (L2.CX P w) k f fd ps (spD K mg G)) (hb : Binds K fd ps []) : Dfn P w K mg base x k G := ⟨f, fd, ps, ok, F.mg, F.fn.kp, hb⟩
theorem FunG.dfk {x : Str} {st : Stmt} {f : Addr} {fd : FuncData} {ps ks : List Str} {k n : Nat} {G : Fn} {ix : List Nat} (F : FunG K mg x st f fd) (ok : FnOk P w K mg base (L2.CX P w) k f fd ps (spD K mg G)) (hb : KwB K fd ps ks n ix) : DfK P w K mg base x k G n ks ix :=
  ⟨f, fd, ps, ok, F.mg, F.fn.kp, hb⟩
theorem Fun.kwb {x qual : Str} {st : Stmt} {f : Addr} {fd : FuncData} {ps ks : List Str} {n : Nat} {ix : List Nat} (F : Fun K x qual st f fd)
    (h : ∀ (kV doc pm : Value) (an : Option Addr) (cdv ct : Value) (us ws : List Value), us.length = n → ws.length = ks.length → bindArgs (PySem.W.fnOf x qual (defArgs st) (defBody st) (defScope st) .none kV doc pm an cdv ct) ⟨us, ks.zip ws⟩ = pure (ps.zip (pick ix (us ++ ws)))) : KwB K fd ps ks n ix := by
  obtain ⟨oc, od, kV, doc, pm, an, cdv, ct, osl, rfl, lk, hcd⟩ := F.ex
  exact fun s us ws _ h1 h2 => .of_eq (h kV doc pm an cdv ct us ws h1 h2)
/-- an error class of the module -/
structure ErrG (K : PySem.W.Frag) (mg : Str → Option Value) (c q : Str) (st : Stmt) (C fI : Addr) (fd : FuncData) (B nw ini : String) (bm0 : List Value) : Prop where
  mg : mg c = some (.ref C)
  base : ExcBaseFacts B nw ini bm0
  cls : ExC K C bm0 nw
  init : PySem.W.findIn K (.ref C) "__init__" = some (some (.ref fI))
  ty : PySem.W.typeIn K (.ref fI) = some (.type "function")
  fn : Fun K "__init__" q st fI fd
theorem ErrG.erx {c q : Str} {st : Stmt} {C fI : Addr} {fd : FuncData} {B nw ini : String} {bm0 : List Value} {N ps : List Str} {L : List (Str × Src)} {n : Nat} (E : ErrG K mg c q st C fI fd B nw ini bm0) (S : FnScope N ps (defScope st))
    (hno : ∀ p ∈ L, PySem.W.findIn K (.ref C) p.1 = some none) (hn : ps.length = n + 1)
    (hb : ∀ (cdv : Value) (A : Around) (outer : List PySem.Env) (s : Shared) (H : Hp) (E : XK), PSs (cxOf CX0 P w K mg base N q (defScope st) fI cdv A outer s H E).nox (defBody st) (tXs K bm0 nw L))
    (bnds : Binds K fd ps []) (hl : L.length ≤ 900 := by decide) : Erx P w K mg base c 1 n L :=
  ⟨C, fI, fd, ps, bm0, nw, B, ini, E.mg, E.base, E.cls, E.init, E.ty, Fun.okI E.fn S E.cls hno hl n hn hb, bnds⟩
theorem exc_mk {nm q : Str} {C N : Addr} {bs bm bm0 : List Value} {sn : List Str} {sub : List Value} {ab : Bool} {col : Option Bool} {dd : Option Addr} {k0 k1 k2 k3 k5 : Option Value} {nw : String}
    (l : K.lookup C = some (excClassObj nm q C N bs bm true sn sub ab col dd k0 k1 k2 k3 k5 nw)) (hp : ∀ self, refuseLoop self "__setattr__" bm0 = pure ()) (hr : refsB bm0 bm = true) (ho : bm.contains (.type "object") = true)
    (sa : PySem.W.findIn K (.ref C) "__setattr__" = some (some (.builtin "object.__setattr__"))) (e : PySem.W.subIn K (.ref C) (.type "BaseException") = some true) (t : PySem.W.typeIn K (.ref C) = some (.type "type")) (k : PySem.W.keepIn K (.ref C) = true) : ExC K C bm0 nw :=
  ⟨⟨nm, q, N, bs, bm, sn, sub, ab, col, dd, k0, k1, k2, k3, k5, l, (refsB_ok hp hr).1, ho, (refsB_ok hp hr).2⟩, sa, e, t, k⟩
theorem exm_mk {S T : Addr} {b : Bool} (h1 : PySem.W.subIn K (.ref T) (.type "BaseException") = some true) (h2 : PySem.W.isClsIn K T = true) (h3 : PySem.W.typeIn K (.ref T) = some (.type "type")) (h4 : PySem.W.subIn K (.ref S) (.ref T) = some b) : PySem.W.exmOne K (.ref S) (.ref T) = some b := by
  have e1 : (PySem.W.subIn K (.ref T) (.type "BaseException") == some true) = true := by rw [h1] <;> rfl
  have e2 : ((PySem.W.clsIn K T).isSome && PySem.W.typeIn K (.ref T) == some (.type "type")) = true := by
    have h2' : (PySem.W.clsIn K T).isSome = true := h2
    rw [h2', h3] <;> rfl
  show (if (PySem.W.subIn K (.ref T) (.type "BaseException") == some true) = true then (if ((PySem.W.clsIn K T).isSome && PySem.W.typeIn K (.ref T) == some (.type "type")) = true then PySem.W.subIn K (.ref S) (.ref T) else none) else none) = some b
  rw [if_pos e1, if_pos e2, h4]
end
end L2.DL

/-! DL20: the mirrors reckoned: each combinator where it stands before an environment and a store. -/
namespace L2.DL
open PySem PySem.Spec
def bo {α β : Type} (o : O α) (g : α → Mo β) : O β := match o with
  | .ok a ρ μ => g a ρ μ
  | .ex c ns vs ρ μ => .ex c ns vs ρ μ
  | .no => .no
def sq (o : O Fl) (g : Mo Fl) : O Fl := match o with
  | .ok .nx ρ μ => g ρ μ
  | o => o
def bf (o : O Bool) {β : Type} (f g : Mo β) : O β := match o with
  | .ok true ρ μ => f ρ μ
  | .ok false ρ μ => g ρ μ
  | .ex c ns vs ρ μ => .ex c ns vs ρ μ
  | .no => .no
def rb (r : R) (ρ : Env) : O D := match r with
  | .ok d μ => .ok d ρ μ
  | .ow d μ => .ok d ρ μ
  | .ex c ns vs μ => .ex c ns vs ρ μ
  | .no => .no
def rw' (r : R) (ρ : Env) : O D := match r with
  | .ow d μ => .ok d ρ μ
  | .ex c ns vs μ => .ex c ns vs ρ μ
  | _ => .no
def tr (o : O Fl) (T : Sub) (hs : List HD) : O Fl := match o with
  | .ex c ns vs ρ μ => hdl T c ns vs hs ρ μ
  | o => o
def fo (o : O Fl) (gt : D → Mo Unit) (body : Mo Fl) (ds : List D) : O Fl := match o with
  | .ok .nx ρ μ => forL gt body ds ρ μ
  | .ok .ct ρ μ => forL gt body ds ρ μ
  | .ok .bk ρ μ => .ok .nx ρ μ
  | o => o
def ri (o : O Fl) : R := match o with
  | .ok .nx _ μ => .ok .non μ
  | .ok (.rt d) _ μ => .ok d μ
  | .ok (.ro d) _ μ => .ow d μ
  | .ok _ _ _ => .no
  | .ex c ns vs _ μ => .ex c ns vs μ
  | .no => .no
section
variable {α β : Type} {f g k : Mo D} {t u : Mo Bool} {s s' : Mo Fl} {ρ : Env} {μ : Sto} {h : D → D → Option D} {h1 : D → Option D} {hn : List D → Option D} {hm : D → List D → Option D} {a : α} {d : D} {fa fb : Mo (List D)} {i n m : Nat} {ix : List Nat} {G : Fn}
theorem bo_ok {g : α → Mo β} : bo (.ok a ρ μ) g = g a ρ μ := rfl
theorem bo_ex {g : α → Mo β} {c : Str} {ns : List Str} {vs : List D} : bo (.ex c ns vs ρ μ) g = .ex c ns vs ρ μ := rfl
theorem bo_no {g : α → Mo β} : bo .no g = .no := rfl
theorem bnd_ap {f : Mo α} {g : α → Mo β} : bnd f g ρ μ = bo (f ρ μ) g := by
  unfold bnd bo
  cases f ρ μ <;> rfl
theorem ret_ap : ret a ρ μ = .ok a ρ μ := rfl
theorem cst_ap : cst d ρ μ = .ok d ρ μ := rfl
theorem skp_ap : skp ρ μ = .ok .nx ρ μ := rfl
theorem lift_so : lift (some a) ρ μ = .ok a ρ μ := rfl
theorem lift_no : lift (none : Option α) ρ μ = .no := rfl
theorem sq_nx {g : Mo Fl} : sq (.ok .nx ρ μ) g = g ρ μ := rfl
theorem sq_rt {g : Mo Fl} : sq (.ok (.rt d) ρ μ) g = .ok (.rt d) ρ μ := rfl
theorem sq_ro {g : Mo Fl} : sq (.ok (.ro d) ρ μ) g = .ok (.ro d) ρ μ := rfl
theorem sq_bk {g : Mo Fl} : sq (.ok .bk ρ μ) g = .ok .bk ρ μ := rfl
theorem sq_ct {g : Mo Fl} : sq (.ok .ct ρ μ) g = .ok .ct ρ μ := rfl
theorem sq_ex {g : Mo Fl} {c : Str} {ns : List Str} {vs : List D} : sq (.ex c ns vs ρ μ) g = .ex c ns vs ρ μ := rfl
theorem seqM_ap : seqM s s' ρ μ = sq (s ρ μ) s' := by
  unfold seqM bnd sq
  cases s ρ μ with
  | ok fl ρ' μ' => cases fl <;> rfl
  | _ => rfl
theorem bf_t {f g : Mo β} : bf (.ok true ρ μ) f g = f ρ μ := rfl
theorem bf_f {f g : Mo β} : bf (.ok false ρ μ) f g = g ρ μ := rfl
theorem bf_d {f g : Mo β} {p : Prop} [Decidable p] : bf (.ok (decide p) ρ μ) f g = if p then f ρ μ else g ρ μ := by
  by_cases q : p
  · rw [decide_eq_true q, if_pos q]; rfl
  · rw [decide_eq_false q, if_neg q]; rfl
theorem bf_eq {f g : Mo β} : bnd t (fun b => if b then f else g) ρ μ = bf (t ρ μ) f g := by
  unfold bnd bf
  cases t ρ μ with
  | ok b ρ' μ' => cases b <;> rfl
  | _ => rfl
theorem ifS_ap : ifS t s s' ρ μ = bf (t ρ μ) s s' := bf_eq
theorem ifM_ap : ifM t f g ρ μ = bf (t ρ μ) f g := bf_eq
theorem andM_ap : andM t u ρ μ = bf (t ρ μ) u (ret false) := bf_eq
theorem orM_ap : orM t u ρ μ = bf (t ρ μ) (ret true) u := bf_eq
theorem notM_ap : notM t ρ μ = bo (t ρ μ) fun b => ret (!b) := bnd_ap
theorem tst_ap : tst f ρ μ = bo (f ρ μ) fun x => lift (asBl x) := bnd_ap
theorem tru_ap : tru f ρ μ = bo (f ρ μ) fun x => lift (truD x) := bnd_ap
theorem op2_ap : op2 h f g ρ μ = bo (f ρ μ) fun x => bnd g fun y => lift (h x y) := bnd_ap
theorem op1_ap : op1 h1 f ρ μ = bo (f ρ μ) fun x => lift (h1 x) := bnd_ap
theorem opN_ap : opN hn fa ρ μ = bo (fa ρ μ) fun ds => lift (hn ds) := bnd_ap
theorem acons_ap : acons f fa ρ μ = bo (f ρ μ) fun d => bnd fa fun ds => ret (d :: ds) := bnd_ap
theorem anil_ap : anil ρ μ = .ok [] ρ μ := rfl
theorem tupM_ap : tupM fa ρ μ = bo (fa ρ μ) fun ds => lift (mkT ds) := bnd_ap
theorem lstM_ap : lstM fa ρ μ = bo (fa ρ μ) fun ds => lift (mkL ds) := bnd_ap
theorem slM_ap {l r : Mo OI} : slM f l r ρ μ = bo (f ρ μ) fun x => bnd l fun lo => bnd r fun hi => lift (slD x lo hi) := bnd_ap
theorem noP_ap : noP ρ μ = .ok none ρ μ := rfl
theorem prt_ap : prt f ρ μ = bo (f ρ μ) fun x => lift (asI x) := bnd_ap
theorem met0_ap : met0 hm f ρ μ = bo (f ρ μ) fun x => bnd (lift (isStr x)) fun _ => lift (hm x []) := bnd_ap
theorem met1_ap : met1 hm f g ρ μ = bo (f ρ μ) fun x => bnd (lift (isStr x)) fun _ => bnd g fun y => lift (hm x [y]) := bnd_ap
theorem metT_ap : metT hm f g ρ μ = bo (f ρ μ) fun x => bnd (lift (isTup x)) fun _ => bnd g fun y => lift (hm x [y]) := bnd_ap
theorem andV_ap : andV f g ρ μ = bo (f ρ μ) fun x => bnd (lift (asBl x)) fun b => if b then g else ret (.bl false) := bnd_ap
theorem orV_ap : orV f g ρ μ = bo (f ρ μ) fun x => bnd (lift (asBl x)) fun b => if b then ret (.bl true) else g := bnd_ap
theorem notV_ap : notV f ρ μ = bo (f ρ μ) fun x => bnd (lift (asBl x)) fun b => ret (.bl (!b)) := bnd_ap
theorem rtM_ap : rtM f ρ μ = bo (f ρ μ) fun d => ret (.rt d) := bnd_ap
theorem rtF_ap : rtF f ρ μ = bo (f ρ μ) fun d => ret (.ro d) := bnd_ap
theorem drp_ap : drp f ρ μ = bo (f ρ μ) fun _ => ret .nx := bnd_ap
theorem setM_ap : setM i f ρ μ = bo (f ρ μ) fun d => put i (.sh d) := bnd_ap
theorem setF_ap : setF i f ρ μ = bo (f ρ μ) fun d => put i (.ow d) := bnd_ap
theorem put_ap {e : Ent} : put i e ρ μ = .ok .nx (ρ.set i (some e)) μ := rfl
theorem stiM_ap : stiM i f g ρ μ = bo (f ρ μ) fun d => bnd (isLst i) fun _ => bnd g fun j => lstUp i fun ds => match j with
  | .int n => (ixN ds.length n).map fun m => ds.set m d
  | _ => none := bnd_ap
theorem apnM_ap : apnM i f ρ μ = bo (isLst i ρ μ) fun _ => bnd f fun d => lstUp i fun ds => if ds.length < lineN then some (ds ++ [d]) else none := bnd_ap
theorem forM_ap {gt : D → Mo Unit} : forM fa gt s ρ μ = bo (fa ρ μ) fun ds => forL gt s ds := bnd_ap
theorem forL_nil {gt : D → Mo Unit} : forL gt s [] ρ μ = .ok .nx ρ μ := rfl
theorem forL_cons {gt : D → Mo Unit} {ds : List D} : forL gt s (d :: ds) ρ μ = bo (gt d ρ μ) fun _ ρ μ => fo (s ρ μ) gt s ds := by
  show bnd (gt d) _ ρ μ = _
  rw [bnd_ap]
  congr 1
  funext _ ρ' μ'
  show bnd s _ ρ' μ' = _
  unfold bnd fo
  cases s ρ' μ' with
  | ok fl ρ' μ' => cases fl <;> rfl
  | _ => rfl
theorem walk_ap : walk f ρ μ = bo (f ρ μ) fun d => lift (seqD d) := bnd_ap
theorem rngM1_ap : rngM1 fa ρ μ = bo (fa ρ μ) fun ds => lift (rng1 ds) := bnd_ap
theorem rngM2_ap : rngM2 fa ρ μ = bo (fa ρ μ) fun ds => lift (rng2 ds) := bnd_ap
theorem zipM_ap : zipM fa ρ μ = bo (fa ρ μ) fun ds => lift (zipD ds) := bnd_ap
theorem lcM_ap {own : List Nat} {gt : D → Mo Unit} {ft : Mo Bool} : lcM own fa gt ft f ρ μ = bo (fa ρ μ) fun ds => lcAll own gt ft f ds := bnd_ap
theorem tgN_ap : tgN i d ρ μ = .ok () (ρ.set i (some (.sh d))) μ := rfl
theorem calM_ap : calM G fa ρ μ = bo (fa ρ μ) fun ds ρ μ => rb (G ds μ) ρ := by
  unfold calM
  rw [bnd_ap]
  rfl
theorem cawM_ap : cawM G fa ρ μ = bo (fa ρ μ) fun ds ρ μ => rw' (G ds μ) ρ := by
  unfold cawM
  rw [bnd_ap]
  rfl
theorem rb_ok : rb (.ok d μ) ρ = .ok d ρ μ := rfl
theorem rb_ow : rb (.ow d μ) ρ = .ok d ρ μ := rfl
theorem rb_ex {c : Str} {ns : List Str} {vs : List D} : rb (.ex c ns vs μ) ρ = .ex c ns vs ρ μ := rfl
theorem rw_ow : rw' (.ow d μ) ρ = .ok d ρ μ := rfl
theorem kwA_ap : kwA n m ix fa fb ρ μ = bo (fa ρ μ) fun ds => bnd fb fun es => if ds.length = n ∧ es.length = m then ret (pick ix (ds ++ es)) else no := bnd_ap
theorem raiM_ap {c : Str} {L : List (Str × Src)} : raiM c L n fa ρ μ = bo (fa ρ μ) fun ds ρ μ => if ds.length = n then (match fldD ds L [] [] with
  | some (ns, vs) => .ex c ns vs ρ μ
  | none => .no) else .no := bnd_ap
theorem dspM_ap {ps : List (Mo D × Mo D)} : dspM ps ρ μ = bo (prsM ps ρ μ) fun l => if (l.map (·.1)).Nodup ∧ l.length ≤ 15 then ret (.dct (l.map (·.1)) (l.map (·.2))) else no := bnd_ap
theorem prsM_nil : prsM [] ρ μ = .ok [] ρ μ := rfl
theorem prsM_cons {r : List (Mo D × Mo D)} : prsM ((f, g) :: r) ρ μ = bo (f ρ μ) fun dk => bnd g fun dv => bnd (prsM r) fun l => match keyD dk with
  | some k => ret ((k, dv) :: l)
  | none => no := bnd_ap
theorem newD_ap : newD ρ μ = .ok (.dct [] []) ρ μ := rfl
theorem tryM_ap {T : Sub} {hs : List HD} : tryM T s hs ρ μ = tr (s ρ μ) T hs := by
  unfold tryM tr
  cases s ρ μ <;> rfl
theorem tr_ok {T : Sub} {hs : List HD} {fl : Fl} : tr (.ok fl ρ μ) T hs = .ok fl ρ μ := rfl
theorem tr_ex {T : Sub} {hs : List HD} {c : Str} {ns : List Str} {vs : List D} : tr (.ex c ns vs ρ μ) T hs = hdl T c ns vs hs ρ μ := rfl
theorem runD_ap {ds : List D} (hl : ds.length = i) : runD i n s ds μ = ri (s (ds.map (fun d => some (Ent.sh d)) ++ List.replicate (n - ds.length) none) μ) := by
  unfold runD ri
  rw [if_pos hl]
  all_goals
    cases s (ds.map (fun d => some (Ent.sh d)) ++ List.replicate (n - ds.length) none) μ with
    | ok fl _ _ => cases fl <;> rfl
    | _ => rfl
theorem ri_nx : ri (.ok .nx ρ μ) = .ok .non μ := rfl
theorem ri_rt : ri (.ok (.rt d) ρ μ) = .ok d μ := rfl
theorem ri_ro : ri (.ok (.ro d) ρ μ) = .ow d μ := rfl
theorem ri_ex {c : Str} {ns : List Str} {vs : List D} : ri (.ex c ns vs ρ μ) = .ex c ns vs μ := rfl
theorem lett_ap : lett i ρ μ = match ρ[i]? with
  | some (some (.sh d)) => .ok d ρ μ
  | some (some (.ow d)) => .ok d (ρ.set i (some (.sh d))) μ
  | some (some (.bd c ns vs)) => .ok (.ins c ns vs) (ρ.set i (some (.sh (.ins c ns vs)))) μ
  | _ => .no := rfl
theorem pek_ap : pek i ρ μ = match ρ[i]? with
  | some (some (.sh d)) => (match pekD d μ with
    | some d' => .ok d' ρ μ
    | none => .no)
  | some (some (.ow d)) => .ok d ρ μ
  | _ => .no := rfl
theorem op2v_ap : op2v h i g ρ μ = bo (pek i ρ μ) fun _ => bnd g fun y => bnd (pek i) fun x => lift (h x y) := bnd_ap
end
end L2.DL

/-! DL21: the operators on values, reckoned. -/
namespace L2.DL
open PySem PySem.Spec
theorem add_ii (i j : Int) : addD (.int i) (.int j) = some (.int (i + j)) := rfl
theorem sub_ii (i j : Int) : subD (.int i) (.int j) = some (.int (i - j)) := rfl
theorem mul_ii {i j : Int} (h : mulC i j = true) : mulD (.int i) (.int j) = some (.int (i * j)) := if_pos h
theorem mod_ii {i j : Int} (h : 0 < j) : modD (.int i) (.int j) = some (.int (i % j)) := if_pos (decide_eq_true h)
theorem fdiv_ii {i j : Int} (h : 0 < j) (h2 : j.natAbs.log2 < 9000) : fdivD (.int i) (.int j) = some (.int (i / j)) := if_pos (by show (decide (0 < j) && decide (j.natAbs.log2 < 9000)) = true; rw [decide_eq_true h, decide_eq_true h2] <;> rfl)
theorem pow_ii {i j : Int} (h : powC i j = true) : powD (.int i) (.int j) = some (.int (i ^ j.toNat)) := if_pos h
theorem lt_ii (i j : Int) : ltA (.int i) (.int j) = some (.bl (decide (i < j))) := rfl
theorem le_ii (i j : Int) : leD (.int i) (.int j) = some (.bl (decide (i ≤ j))) := rfl
theorem gt_ii (i j : Int) : gtD (.int i) (.int j) = some (.bl (decide (j < i))) := rfl
theorem ge_ii (i j : Int) : geD (.int i) (.int j) = some (.bl (decide (j ≤ i))) := rfl
theorem eq_ii (i j : Int) : eqQ (.int i) (.int j) = some (.bl (decide (i = j))) := rfl
theorem eq_bb (i j : Bool) : eqQ (.bl i) (.bl j) = some (.bl (decide (i = j))) := rfl
theorem eq_ss (i j : Str) : eqQ (.str i) (.str j) = some (.bl (decide (i = j))) := rfl
theorem ne_bb (i j : Bool) : neD (.bl i) (.bl j) = some (.bl (!decide (i = j))) := rfl
theorem ne_ss (i j : Str) : neD (.str i) (.str j) = some (.bl (!decide (i = j))) := rfl
theorem int_i (i : Int) : intD (.int i) = some (.int i) := rfl
theorem abs_i (i : Int) : absD (.int i) = some (.int (if i < 0 then -i else i)) := rfl
theorem asBl_b (b : Bool) : asBl (.bl b) = some b := rfl
theorem len_l (ds : List D) : lenD (.lst ds) = some (.int ds.length) := rfl
theorem len_t (ds : List D) : lenD (.tup ds) = some (.int ds.length) := rfl
theorem len_f (ds : List D) : lenD (.frz ds) = some (.int ds.length) := rfl
theorem tru_b (b : Bool) : truD (.bl b) = some b := rfl
theorem ix_l (ds : List D) (i : Int) : ixD (.lst ds) (.int i) = L2.atI ds i := rfl
theorem ix_t (ds : List D) (i : Int) : ixD (.tup ds) (.int i) = L2.atI ds i := rfl
theorem ix50 (a b c d e : D) : L2.atI [a, b, c, d, e] 0 = some a := rfl
theorem ix51 (a b c d e : D) : L2.atI [a, b, c, d, e] 1 = some b := rfl
theorem ix52 (a b c d e : D) : L2.atI [a, b, c, d, e] 2 = some c := rfl
theorem ix53 (a b c d e : D) : L2.atI [a, b, c, d, e] 3 = some d := rfl
theorem ix54 (a b c d e : D) : L2.atI [a, b, c, d, e] 4 = some e := rfl
theorem up5 (a b c d e x : D) (k : Nat) (hk : k < 5) : (L2.ixN [a, b, c, d, e].length (k : Int)).map (fun m => [a, b, c, d, e].set m x) = some ([a, b, c, d, e].set k x) := by
  match k, hk with
  | 0, _ => rfl
  | 1, _ => rfl
  | 2, _ => rfl
  | 3, _ => rfl
  | 4, _ => rfl
theorem atI_nat {ds : List D} {i : Int} {d : D} (h0 : 0 ≤ i) (h : ds[i.toNat]? = some d) : L2.atI ds i = some d := by
  have hl := (List.getElem?_eq_some_iff.mp h).1
  have e : L2.ixN ds.length i = some i.toNat := by
    unfold L2.ixN
    rw [if_pos h0, if_pos (by omega)]
  unfold L2.atI
  rw [e]
  exact h
theorem ixN50 : L2.ixN 5 0 = some 0 := rfl
theorem ixN51 : L2.ixN 5 1 = some 1 := rfl
theorem ixN52 : L2.ixN 5 2 = some 2 := rfl
theorem ixN53 : L2.ixN 5 3 = some 3 := rfl
theorem ixN54 : L2.ixN 5 4 = some 4 := rfl
end L2.DL

namespace L2.DL.K01
open PySem PySem.Spec PyProof.Rows
def st (i : Nat) : Stmt := PySem.Challenge.pw_shapebetween_k01_limits_told.main.body.getD i (.Pass ⟨0, 0, 0, 0⟩)
def L_UnknownName : List (Str × Src) := [("code", .txt "UnknownName"), ("name", .par 1)]
def L_TooMany : List (Str × Src) := [("code", .txt "TooMany"), ("what", .par 1), ("count", .par 2)]
def subT : Sub := [(("UnknownName", "UnknownName"), true), (("UnknownName", "TooMany"), false), (("TooMany", "UnknownName"), false), (("TooMany", "TooMany"), true)]
def csT : List Str := ["UnknownName", "TooMany"]
def fsT : List Str := ["code", "count", "name", "what"]
def c_WORDS : D := .tup [.str "keys", .str "moments", .str "rules", .str "items", .str "digits", .str "scripts", .str "nodes", .str "edges", .str "standings", .str "price keys", .str "price rows", .str "more", .str "unread", .str "names", .str "deeds"]
def c_LIMITS : D := .tup [.int 12, .int 60, .int 40, .int 6, .int 30, .int 5, .int 30, .int 60, .int 400, .int 5, .int 6, .int 5, .int 10, .int 20, .int 60]
abbrev N_limit_of : List Str := ["what"]
def s_limit_of : Stmt := st 8
def g_limit_of : Mo Fl :=
    (seqM (ifS (orM (notM (tru (op1 (isiD ["str"]) (pek 0)))) (tst (op2 ninD (lett 0) (cst c_WORDS)))) (raiM "UnknownName" L_UnknownName 1 (acons (lett 0) anil)) skp)
    (rtM (op2 ixD (cst c_LIMITS) (metT tupIxD (cst c_WORDS) (lett 0)))))
def G_limit_of : Fn := runD 1 1 g_limit_of
abbrev N_check_limit : List Str := ["what", "count"]
def s_check_limit : Stmt := st 9
def g_check_limit : Mo Fl :=
    (ifS (tst (op2 gtD (lett 1) (calM G_limit_of (acons (lett 0) anil)))) (raiM "TooMany" L_TooMany 2 (acons (lett 0) (acons (lett 1) anil))) skp)
def G_check_limit : Fn := runD 2 2 g_check_limit
abbrev N_lbag : List Str := ["_law_script", "_law_mixed", "_law_cell"]
def s_lbag : Stmt := st 11
def g_lbag : Mo Fl :=
    (seqM (setM 1 (cst (.int 12039)))
    (seqM (forM (walk (slM (lett 0) noP (prt (cst (.int 63))))) (tgN 2) (setM 1 (op2 modD (op1 intD (op2 addD (op2 addD (op2 mulD (lett 1) (cst (.int 48271))) (op2 mulD (op2 modD (op1 intD (pek 2)) (cst (.int 1000639))) (cst (.int 883)))) (cst (.int 59)))) (cst (.int 2147483579)))))
    (rtF (lstM (acons (op1 listD (slM (lett 0) noP (prt (cst (.int 63))))) (acons (cst (.int 0)) (acons (cst (.int 0)) (acons (lett 1) (acons (cst (.int 0)) anil)))))))))
def G_lbag : Fn := runD 1 3 g_lbag
abbrev N_ldraw : List Str := ["_law_bag_here", "_law_top", "_law_seed", "_law_cell", "_law_digit"]
def s_ldraw : Stmt := st 12
def g_ldraw : Mo Fl :=
    (seqM (stiM 0 (op2 addD (op2v ixD 0 (cst (.int 4))) (cst (.int 1))) (cst (.int 4)))
    (seqM (ifS (andM (tst (op2 eqQ (op2v ixD 0 (cst (.int 2))) (cst (.int 0)))) (tst (op2 ltA (op2v ixD 0 (cst (.int 1))) (op1 lenD (op2v ixD 0 (cst (.int 0))))))) (seqM (setM 3 (op1 intD (op2 ixD (op2v ixD 0 (cst (.int 0))) (op2v ixD 0 (cst (.int 1))))))
    (seqM (stiM 0 (op2 addD (op2v ixD 0 (cst (.int 1))) (cst (.int 1))) (cst (.int 1)))
    (ifS (tst (op2 geD (op1 absD (pek 3)) (op2 powD (cst (.int 10)) (cst (.int 18))))) (stiM 0 (op1 absD (pek 3)) (cst (.int 2))) (stiM 0 (op2 modD (op1 intD (op2 addD (op2 addD (op2 mulD (op2v ixD 0 (cst (.int 3))) (cst (.int 43889))) (op2 mulD (op2 modD (op1 intD (pek 3)) (cst (.int 1000639))) (cst (.int 773)))) (cst (.int 31)))) (cst (.int 2147483587))) (cst (.int 3)))))) skp)
    (seqM (ifS (tst (op2 gtD (op2v ixD 0 (cst (.int 2))) (cst (.int 0)))) (seqM (setM 4 (op2 modD (op1 intD (op2v ixD 0 (cst (.int 2)))) (pek 1)))
    (seqM (stiM 0 (op2 fdivD (op2v ixD 0 (cst (.int 2))) (pek 1)) (cst (.int 2)))
    (rtM (lett 4)))) skp)
    (seqM (setM 2 (op1 intD (op2v ixD 0 (cst (.int 3)))))
    (seqM (stiM 0 (op2 modD (op1 intD (op2 addD (op2 addD (op2 addD (op2 powD (lett 2) (cst (.int 3))) (op2 mulD (lett 2) (cst (.int 47111)))) (op2 mulD (op2v ixD 0 (cst (.int 4))) (cst (.int 110323)))) (cst (.int 60089)))) (cst (.int 2147483549))) (cst (.int 3)))
    (rtM (op2 modD (op1 intD (op2 addD (op2 fdivD (op2v ixD 0 (cst (.int 3))) (cst (.int 71))) (op2 mulD (op2 modD (op1 intD (op2v ixD 0 (cst (.int 3)))) (cst (.int 8017))) (cst (.int 59))))) (pek 1))))))))
def G_ldraw : Fn := runD 2 5 g_ldraw
abbrev N_lof : List Str := ["_law_bag_here", "_law_some"]
def s_lof : Stmt := st 13
def g_lof : Mo Fl :=
    (rtM (op2v ixD 1 (calM G_ldraw (acons (lett 0) (acons (op1 lenD (pek 1)) anil)))))
def G_lof : Fn := runD 2 2 g_lof
abbrev N_lsame : List Str := ["_law_found", "_law_due", "_law_p", "_law_q"]
def s_lsame : Stmt := st 14
def g_lsame (G : Fn) : Mo Fl :=
    (seqM (ifS (tru (op1 (isiD ["list", "tuple"]) (lett 1))) (seqM (ifS (orM (tst (op2 neD (op1 (isiD ["list"]) (pek 0)) (op1 (isiD ["list"]) (pek 1)))) (tst (op2 neD (op1 (isiD ["tuple"]) (pek 0)) (op1 (isiD ["tuple"]) (pek 1))))) (rtM (cst (.bl false))) skp)
    (rtM (andV (op2 eqQ (op1 lenD (pek 0)) (op1 lenD (pek 1))) (op1 allD (lcM [2, 3] (zipM (acons (lett 0) (acons (lett 1) anil))) (tgT 2 (tgCons (tgN 2) (tgCons (tgN 3) tgNil))) (ret true) (calM G (acons (lett 2) (acons (lett 3) anil)))))))) skp)
    (seqM (ifS (tru (op1 (isiD ["list", "tuple"]) (lett 0))) (rtM (cst (.bl false))) skp)
    (seqM (ifS (orM (tst (op2 (isND false) (lett 1) (cst .non))) (tst (op2 (isND false) (lett 0) (cst .non)))) (rtM (andV (op2 (isND false) (lett 1) (cst .non)) (op2 (isND false) (lett 0) (cst .non)))) skp)
    (seqM (ifS (orM (tru (op1 (isiD ["bool"]) (pek 1))) (tru (op1 (isiD ["bool"]) (pek 0)))) (rtM (andV (op1 (isiD ["bool"]) (pek 1)) (andV (op1 (isiD ["bool"]) (pek 0)) (op2 eqQ (lett 0) (pek 1))))) skp)
    (seqM (ifS (orM (tru (op1 (isiD ["int"]) (pek 1))) (tru (op1 (isiD ["int"]) (pek 0)))) (rtM (andV (op1 (isiD ["int"]) (pek 1)) (andV (op1 (isiD ["int"]) (pek 0)) (op2 eqQ (lett 0) (pek 1))))) skp)
    (seqM (ifS (orM (tru (op1 (isiD ["str"]) (pek 1))) (tru (op1 (isiD ["str"]) (pek 0)))) (rtM (andV (op1 (isiD ["str"]) (pek 1)) (andV (op1 (isiD ["str"]) (pek 0)) (op2 eqQ (lett 0) (pek 1))))) skp)
    (rtM (op2 eqQ (lett 0) (pek 1)))))))))
def GN_lsame : Nat → Fn
  | 0 => fun _ _ => .no
  | n + 1 => runD 2 4 (g_lsame (GN_lsame n))
abbrev G_lsame : Fn := GN_lsame 5
abbrev N_llimit : List Str := ["_law_v", "_law_named", "e"]
def s_llimit : Stmt := st 15
def g_llimit : Mo Fl :=
    (tryM subT (rtM (tupM (acons (cst (.str "told")) (acons (ifM (tru (pek 1)) (calM G_limit_of (kwA 0 1 [0] anil (acons (lett 0) anil))) (calM G_limit_of (acons (lett 0) anil))) anil)))) (⟨"UnknownName", some 2, (rtM (tupM (acons (exAt csT fsT 2 "code") (acons (exAt csT fsT 2 "name") anil))))⟩ :: []))
def G_llimit : Fn := runD 2 3 g_llimit
abbrev N_lchecked : List Str := ["_law_v", "_law_n", "_law_named", "e"]
def s_lchecked : Stmt := st 16
def g_lchecked : Mo Fl :=
    (tryM subT (rtM (tupM (acons (cst (.str "let")) (acons (ifM (tru (pek 2)) (calM G_check_limit (kwA 0 2 [1, 0] anil (acons (lett 1) (acons (lett 0) anil)))) (calM G_check_limit (acons (lett 0) (acons (lett 1) anil)))) anil)))) (⟨"UnknownName", some 3, (rtM (tupM (acons (exAt csT fsT 3 "code") (acons (exAt csT fsT 3 "name") anil))))⟩ :: (⟨"TooMany", some 3, (rtM (tupM (acons (exAt csT fsT 3 "code") (acons (exAt csT fsT 3 "what") (acons (exAt csT fsT 3 "count") anil)))))⟩ :: [])))
def G_lchecked : Fn := runD 3 4 g_lchecked
abbrev N_law : List Str := ["_law_script", "_law_bag_here", "_law_words", "_law_most_y", "_law_turn", "_law_near", "_law_far", "_law_menu", "_law_v", "_law_known", "_law_top", "_law_n", "_law_kept", "_law_named", "_law_due", "_law_p"]
def s_law : Stmt := st 17
def g_law : Mo Fl :=
    (seqM (setF 1 (cawM G_lbag (acons (lett 0) anil)))
    (celM 1 (seqM (setM 2 (tupM (acons (cst (.str "keys")) (acons (cst (.str "moments")) (acons (cst (.str "rules")) (acons (cst (.str "items")) (acons (cst (.str "digits")) (acons (cst (.str "scripts")) (acons (cst (.str "nodes")) (acons (cst (.str "edges")) (acons (cst (.str "standings")) (acons (cst (.str "price keys")) (acons (cst (.str "price rows")) (acons (cst (.str "more")) (acons (cst (.str "unread")) (acons (cst (.str "names")) (acons (cst (.str "deeds")) anil)))))))))))))))))
    (seqM (setM 3 (lstM (acons (cst (.int 12)) (acons (cst (.int 60)) (acons (cst (.int 40)) (acons (cst (.int 6)) (acons (cst (.int 30)) (acons (cst (.int 5)) (acons (cst (.int 30)) (acons (cst (.int 60)) (acons (cst (.int 400)) (acons (cst (.int 5)) (acons (cst (.int 6)) (acons (cst (.int 5)) (acons (cst (.int 10)) (acons (cst (.int 20)) (acons (cst (.int 60)) anil)))))))))))))))))
    (seqM (ifS (notM (tru (calM G_lsame (acons (lstM (acons (cst c_WORDS) (acons (lcM [15] (walk (cst c_WORDS)) (tgN 15) (ret true) (calM G_llimit (acons (lett 15) (acons (cst (.bl false)) anil)))) anil))) (acons (lstM (acons (lett 2) (acons (lcM [11] (walk (lett 3)) (tgN 11) (ret true) (tupM (acons (cst (.str "told")) (acons (lett 11) anil)))) anil))) anil))))) (rtM (cst (.bl false))) skp)
    (seqM (forM (rngM1 (acons (cst (.int 12)) anil)) (tgN 4) (seqM (setM 5 (calM G_lof (acons (lett 1) (acons (lett 2) anil))))
    (seqM (setM 6 (op2 addD (op2 addD (slM (lett 5) noP (prt (calM G_ldraw (acons (lett 1) (acons (op1 lenD (pek 5)) anil))))) (calM G_lof (acons (lett 1) (acons (lstM (acons (cst (.str "")) (acons (cst (.str " ")) (acons (cst (.str "s")) (acons (cst (.str "S")) (acons (cst (.str "\n")) anil)))))) anil)))) (slM (lett 5) (prt (calM G_ldraw (acons (lett 1) (acons (op1 lenD (pek 5)) anil)))) noP)))
    (seqM (setM 7 (lstM (acons (cst .non) (acons (cst (.bl true)) (acons (cst (.bl false)) (acons (cst (.int 0)) (acons (cst (.int 12)) (acons (cst (.str "")) (acons (cst (.str "Keys")) (acons (cst (.str "key")) (acons (cst (.str "price")) (acons (cst (.str "prices")) (acons (cst (.str "KEYS")) (acons (lett 6) (acons (lett 6) (acons (op2 addD (lett 5) (cst (.str "s"))) (acons (op2 addD (cst (.str " ")) (pek 5)) (acons (op2 addD (lett 5) (cst (.str " "))) (acons (met0 upperD (lett 5)) (acons (op2 addD (lett 5) (cst (.str "\n"))) anil))))))))))))))))))))
    (seqM (setM 7 (op2 addD (lett 7) (lstM (acons (tupM (acons (lett 5) anil)) (acons (lstM (acons (lett 5) anil)) (acons (dspM (((lett 5), (cst (.int 12))) :: [])) (acons (met1 splitD (lett 5) (cst (.str " "))) (acons (tupM anil) (acons (lstM anil) (acons newD (acons (tupM (acons (cst (.str "price")) (acons (cst (.str "rows")) anil))) (acons (cst (.str "rows")) (acons (lett 2) (acons (op1 listD (pek 2)) (acons (op1 revD (lett 6)) anil)))))))))))))))
    (seqM (setM 8 (ifM (tst (op2 ltA (lett 4) (cst (.int 6)))) (lett 5) (calM G_lof (acons (lett 1) (acons (lett 7) anil)))))
    (seqM (setM 9 (andV (op1 (isiD ["str"]) (pek 8)) (op2 inD (lett 8) (pek 2))))
    (seqM (setM 10 (ifM (tru (pek 9)) (op2v ixD 3 (metT tupIxD (lett 2) (lett 8))) (cst (.int 12))))
    (seqM (setM 11 (calM G_lof (acons (lett 1) (acons (lstM (acons (lett 10) (acons (op2 addD (lett 10) (cst (.int 1))) (acons (op2 subD (lett 10) (cst (.int 1))) (acons (op2 addD (lett 10) (cst (.int 2))) (acons (cst (.int 0)) (acons (op1 negD (cst (.int 1))) (acons (cst (.int 1)) (acons (op2 powD (cst (.int 10)) (cst (.int 39))) (acons (op2 subD (cst (.int 0)) (op2 powD (cst (.int 10)) (cst (.int 39)))) (acons (calM G_ldraw (acons (lett 1) (acons (op2 mulD (cst (.int 2)) (pek 10)) anil))) (acons (op2 addD (lett 10) (calM G_ldraw (acons (lett 1) (acons (op2 powD (cst (.int 10)) (cst (.int 39))) anil)))) anil)))))))))))) anil))))
    (seqM (setM 12 (op1 reprD (pek 8)))
    (seqM (forM (walk (lstM (acons (op2 gtD (lett 4) (cst (.int 2))) (acons (op2 ltA (lett 4) (cst (.int 9))) anil)))) (tgN 13) (seqM (ifS (notM (tru (calM G_lsame (acons (calM G_llimit (acons (lett 8) (acons (lett 13) anil))) (acons (ifM (tru (pek 9)) (tupM (acons (cst (.str "told")) (acons (lett 10) anil))) (tupM (acons (cst (.str "UnknownName")) (acons (lett 8) anil)))) anil))))) (rtM (cst (.bl false))) skp)
    (seqM (setM 14 (ifM (tst (op2 leD (lett 11) (pek 10))) (tupM (acons (cst (.str "let")) (acons (cst .non) anil))) (tupM (acons (cst (.str "TooMany")) (acons (lett 8) (acons (lett 11) anil))))))
    (ifS (notM (tru (calM G_lsame (acons (calM G_lchecked (acons (lett 8) (acons (lett 11) (acons (lett 13) anil)))) (acons (ifM (tru (pek 9)) (lett 14) (tupM (acons (cst (.str "UnknownName")) (acons (lett 8) anil)))) anil))))) (rtM (cst (.bl false))) skp))))
    (ifS (tst (op2 neD (op1 reprD (pek 8)) (pek 12))) (rtM (cst (.bl false))) skp))))))))))))
    (rtM (cst (.bl true)))))))))
def G_law : Fn := runD 1 16 g_law
/-- what the texts of the defs lean on -/
structure Tx (K : PySem.W.Frag) (mg : Str → Option Value) : Prop where
  b_abs : mg "abs" = none
  b_all : mg "all" = none
  b_bool : mg "bool" = none
  b_int : mg "int" = none
  b_isinstance : mg "isinstance" = none
  b_len : mg "len" = none
  b_list : mg "list" = none
  b_range : mg "range" = none
  b_repr : mg "repr" = none
  b_str : mg "str" = none
  b_tuple : mg "tuple" = none
  b_zip : mg "zip" = none
  c_WORDS : GlK K mg "WORDS" c_WORDS
  c_LIMITS : GlK K mg "LIMITS" c_LIMITS
  e_UnknownName : ∃ C, mg "UnknownName" = some (.ref C)
  e_TooMany : ∃ C, mg "TooMany" = some (.ref C)
  sub : SubOk K mg subT
  xft : XfT K mg csT fsT
variable {P : Program} {w : World} {K : PySem.W.Frag} {mg : Str → Option Value} {base : Heap}
def s_UnknownName : Stmt := inClass (st 3) 0
theorem r_UnknownName {C fI : Addr} {fd : FuncData} {B nw ini : String} {bm0 : List Value} (E : ErrG K mg "UnknownName" "UnknownName.__init__" s_UnknownName C fI fd B nw ini bm0) (hno : ∀ p ∈ L_UnknownName, PySem.W.findIn K (.ref C) p.1 = some none) : Erx P w K mg base "UnknownName" 1 1 L_UnknownName :=
  E.erx (N := ["self", "name"]) (ps := ["self", "name"]) ⟨rfl, rfl, rfl, by decide +kernel, rfl, by decide +kernel, by decide +kernel⟩ hno rfl (fun cdv A outer s H E => by exact (pssx_all (ps_x1 (src_txt)) (pssx_cons (ps_x1 (src_par 1)) pssx_nil))) (E.fn.binds fun _ _ _ _ _ _ us hl => match us, hl with | [_, _], _ => rfl)
def s_TooMany : Stmt := inClass (st 4) 0
theorem r_TooMany {C fI : Addr} {fd : FuncData} {B nw ini : String} {bm0 : List Value} (E : ErrG K mg "TooMany" "TooMany.__init__" s_TooMany C fI fd B nw ini bm0) (hno : ∀ p ∈ L_TooMany, PySem.W.findIn K (.ref C) p.1 = some none) : Erx P w K mg base "TooMany" 1 2 L_TooMany :=
  E.erx (N := ["self", "what", "count"]) (ps := ["self", "what", "count"]) ⟨rfl, rfl, rfl, by decide +kernel, rfl, by decide +kernel, by decide +kernel⟩ hno rfl (fun cdv A outer s H E => by exact (pssx_all (ps_x1 (src_txt)) (pssx_cons (ps_x1 (src_par 1)) (pssx_cons (ps_x1 (src_par 2)) pssx_nil)))) (E.fn.binds fun _ _ _ _ _ _ us hl => match us, hl with | [_, _, _], _ => rfl)
theorem sc_limit_of : FnScope N_limit_of ["what"] (defScope s_limit_of) := ⟨rfl, rfl, rfl, by decide +kernel, rfl, by decide +kernel, by decide +kernel⟩
theorem ok_limit_of {f : Addr} {fd : FuncData} (T : Tx K mg) (F : Fun K "limit_of" "limit_of" s_limit_of f fd) (R_UnknownName : Erx P w K mg base "UnknownName" 1 1 L_UnknownName) : FnOk P w K mg base (L2.CX P w) 3 f fd ["what"] (spD K mg G_limit_of) :=
  Fun.okD (k := 2) F sc_limit_of fun Φ cdv A outer s H E cn nM => by
    exact (dss_cons (ds_if (DW.dt (dw_or (dt_not (dt_truth (de_isi (S := "str") T.b_isinstance T.b_str (db_var (i := 0))).wk)) (dw_or1 (dt_nin (de_var (i := 0)) (de_glob T.c_WORDS.gl (by rfl)).wk)))) (dss_one (ds_raise (L := L_UnknownName) (n := 1) R_UnknownName cn (da_cons (de_var (i := 0)) da_nil) (by rfl))) dss_nil)
    (dss_one (ds_ret (de_at (de_glob T.c_LIMITS.gl (by rfl)) (de_tupIx (de_glob T.c_WORDS.gl (by rfl)) (de_var (i := 0)))))))
theorem sc_check_limit : FnScope N_check_limit ["what", "count"] (defScope s_check_limit) := ⟨rfl, rfl, rfl, by decide +kernel, rfl, by decide +kernel, by decide +kernel⟩
theorem ok_check_limit {f : Addr} {fd : FuncData} (T : Tx K mg) (F : Fun K "check_limit" "check_limit" s_check_limit f fd) (D_limit_of : Dfn P w K mg base "limit_of" 3 G_limit_of) (D_limit_of_k0 : DfK P w K mg base "limit_of" 3 G_limit_of 0 ["what"] [0]) (R_TooMany : Erx P w K mg base "TooMany" 1 2 L_TooMany) : FnOk P w K mg base (L2.CX P w) 4 f fd ["what", "count"] (spD K mg G_check_limit) :=
  Fun.okD (k := 3) F sc_check_limit fun Φ cdv A outer s H E cn nM => by
    exact (dss_one (ds_if (dt_gt (de_var (i := 1)) (de_cal D_limit_of cn.cc (da_cons (de_var (i := 0)) da_nil) (by rfl)).wk) (dss_one (ds_raise (L := L_TooMany) (n := 2) R_TooMany cn (da_cons (de_var (i := 0)) (da_cons (de_var (i := 1)) da_nil)) (by rfl))) dss_nil))
theorem sc_lbag : FnScope N_lbag ["_law_script"] (defScope s_lbag) := ⟨rfl, rfl, rfl, by decide +kernel, rfl, by decide +kernel, by decide +kernel⟩
theorem ok_lbag {f : Addr} {fd : FuncData} (T : Tx K mg) (F : Fun K "_law_bag" "_law_bag" s_lbag f fd) : FnOk P w K mg base (L2.CX P w) 1 f fd ["_law_script"] (spD K mg G_lbag) :=
  Fun.okD (k := 0) F sc_lbag fun Φ cdv A outer s H E cn nM => by
    exact (dss_cons (ds_set (i := 1) cn.nd de_int)
    (dss_cons (ds_for cn (di_seq (de_sl (de_var (i := 0)) do_none (do_some de_int))) (dg_name (i := 2) cn.nd) nx_name (dss_one (ds_set (i := 1) cn.nd (de_mod (de_int1 T.b_int (de_add (de_add (de_mul (de_var (i := 1)) (de_int).wk) (de_mul (de_mod (de_int1 T.b_int (db_var (i := 2))) (de_int).wk) (de_int).wk).wk) (de_int).wk).wk) (de_int).wk))))
    (dss_one (ds_retF (i := 3) (df_lst (da_cons (de_list T.b_list (de_sl (de_var (i := 0)) do_none (do_some de_int)).wk) (da_cons de_int (da_cons de_int (da_cons (de_var (i := 1)) (da_cons de_int da_nil))))))))))
theorem sc_ldraw : FnScope N_ldraw ["_law_bag_here", "_law_top"] (defScope s_ldraw) := ⟨rfl, rfl, rfl, by decide +kernel, rfl, by decide +kernel, by decide +kernel⟩
theorem ok_ldraw {f : Addr} {fd : FuncData} (T : Tx K mg) (F : Fun K "_law_draw" "_law_draw" s_ldraw f fd) : FnOk P w K mg base (L2.CX P w) 1 f fd ["_law_bag_here", "_law_top"] (spD K mg G_ldraw) :=
  Fun.okD (k := 0) F sc_ldraw fun Φ cdv A outer s H E cn nM => by
    exact (dss_cons (ds_sti (i := 0) (de_add (de_atv (i := 0) de_int) (de_int).wk) de_int)
    (dss_cons (ds_if (DW.dt (dw_and (dt_eqQ cn.hu (de_atv (i := 0) de_int) (de_int).wk) (dw_and1 (dt_lt (de_atv (i := 0) de_int) (de_len T.b_len (de_atv (i := 0) de_int).wk).wk)))) (dss_cons (ds_set (i := 3) cn.nd (de_int1 T.b_int (de_at (de_atv (i := 0) de_int) (de_atv (i := 0) de_int)).wk))
    (dss_cons (ds_sti (i := 0) (de_add (de_atv (i := 0) de_int) (de_int).wk) de_int)
    (dss_one (ds_if (dt_ge (de_abs T.b_abs (db_var (i := 3))) (de_pow de_int (de_int).wk).wk) (dss_one (ds_sti (i := 0) (de_abs T.b_abs (db_var (i := 3))) de_int)) (dss_one (ds_sti (i := 0) (de_mod (de_int1 T.b_int (de_add (de_add (de_mul (de_atv (i := 0) de_int) (de_int).wk) (de_mul (de_mod (de_int1 T.b_int (db_var (i := 3))) (de_int).wk) (de_int).wk).wk) (de_int).wk).wk) (de_int).wk) de_int)))))) dss_nil)
    (dss_cons (ds_if (dt_gt (de_atv (i := 0) de_int) (de_int).wk) (dss_cons (ds_set (i := 4) cn.nd (de_mod (de_int1 T.b_int (de_atv (i := 0) de_int).wk) (db_var (i := 1))))
    (dss_cons (ds_sti (i := 0) (de_fdiv (de_atv (i := 0) de_int) (db_var (i := 1))) de_int)
    (dss_one (ds_ret (de_var (i := 4)))))) dss_nil)
    (dss_cons (ds_set (i := 2) cn.nd (de_int1 T.b_int (de_atv (i := 0) de_int).wk))
    (dss_cons (ds_sti (i := 0) (de_mod (de_int1 T.b_int (de_add (de_add (de_add (de_pow (de_var (i := 2)) (de_int).wk) (de_mul (de_var (i := 2)) (de_int).wk).wk) (de_mul (de_atv (i := 0) de_int) (de_int).wk).wk) (de_int).wk).wk) (de_int).wk) de_int)
    (dss_one (ds_ret (de_mod (de_int1 T.b_int (de_add (de_fdiv (de_atv (i := 0) de_int) (de_int).wk) (de_mul (de_mod (de_int1 T.b_int (de_atv (i := 0) de_int).wk) (de_int).wk) (de_int).wk).wk).wk) (db_var (i := 1))))))))))
theorem sc_lof : FnScope N_lof ["_law_bag_here", "_law_some"] (defScope s_lof) := ⟨rfl, rfl, rfl, by decide +kernel, rfl, by decide +kernel, by decide +kernel⟩
theorem ok_lof {f : Addr} {fd : FuncData} (T : Tx K mg) (F : Fun K "_law_of" "_law_of" s_lof f fd) (D_ldraw : Dfn P w K mg base "_law_draw" 1 G_ldraw) : FnOk P w K mg base (L2.CX P w) 2 f fd ["_law_bag_here", "_law_some"] (spD K mg G_lof) :=
  Fun.okD (k := 1) F sc_lof fun Φ cdv A outer s H E cn nM => by
    exact (dss_one (ds_ret (de_atv (i := 1) (de_cal D_ldraw cn.cc (da_cons (de_var (i := 0)) (da_cons (de_len T.b_len (db_var (i := 1))) da_nil)) (by rfl)))))
theorem sc_lsame : FnScope N_lsame ["_law_found", "_law_due"] (defScope s_lsame) := ⟨rfl, rfl, rfl, by decide +kernel, rfl, by decide +kernel, by decide +kernel⟩
theorem ok_lsame {f : Addr} {fd : FuncData} (T : Tx K mg) (F : FunG K mg "_law_same" s_lsame f fd) (hb : Binds K fd ["_law_found", "_law_due"] []) : ∀ n : Nat, FnOk P w K mg base (L2.CX P w) (0 + n) f fd ["_law_found", "_law_due"] (spD K mg (GN_lsame n))
  | 0 => fn_never
  | n + 1 => by
    have D_lsame : Dfn P w K mg base "_law_same" (0 + n) (GN_lsame n) := F.dfn (ok_lsame T F hb n) hb
    exact Fun.okD (k := 0 + n) F.fn sc_lsame fun Φ cdv A outer s H E cn nM => by
      exact (dss_cons (ds_if (dt_truth (de_isi2 (S := "list") (S' := "tuple") T.b_isinstance T.b_list T.b_tuple (de_var (i := 1))).wk) (dss_cons (ds_if (DW.dt (dw_or (dt_ne cn.hu (de_isi (S := "list") T.b_isinstance T.b_list (db_var (i := 0))) (de_isi (S := "list") T.b_isinstance T.b_list (db_var (i := 1))).wk) (dw_or1 (dt_ne cn.hu (de_isi (S := "tuple") T.b_isinstance T.b_tuple (db_var (i := 0))) (de_isi (S := "tuple") T.b_isinstance T.b_tuple (db_var (i := 1))).wk)))) (dss_one (ds_ret de_bl)) dss_nil)
    (dss_one (ds_ret (de_and (de_eqQ cn.hu (de_len T.b_len (db_var (i := 0))) (de_len T.b_len (db_var (i := 1))).wk) (de_one (de_all cn.calm T.b_all (de_lc (own := [("_law_p", 2), ("_law_q", 3)]) cn (blk_ok (N := N_lsame) (sc := defScope s_lsame) (by decide +kernel)) rfl (di_zip T.b_zip (da_cons (de_var (i := 0)) (da_cons (de_var (i := 1)) da_nil))) (fun _ _ _ _ _ => (dgp_tup cn.calm (dgsp_cons (dgp_name (i := 2) cn.nd) (dgsp_cons (dgp_name (i := 3) cn.nd) dgsp_nil)))) (fun _ _ _ _ _ => dts_nil) (fun _ _ _ _ _ => (de_cal (hj := Nat.le_refl _) D_lsame cn.blk (da_cons (de_var (i := 2)) (da_cons (de_var (i := 3)) da_nil)) (by rfl)))).wk)))))) dss_nil)
    (dss_cons (ds_if (dt_truth (de_isi2 (S := "list") (S' := "tuple") T.b_isinstance T.b_list T.b_tuple (de_var (i := 0))).wk) (dss_one (ds_ret de_bl)) dss_nil)
    (dss_cons (ds_if (DW.dt (dw_or (dt_isN (de_var (i := 1)) (de_non).wk) (dw_or1 (dt_isN (de_var (i := 0)) (de_non).wk)))) (dss_one (ds_ret (de_and (de_isN (de_var (i := 1)) (de_non).wk) (de_one (de_isN (de_var (i := 0)) (de_non).wk))))) dss_nil)
    (dss_cons (ds_if (DW.dt (dw_or (dt_truth (de_isi (S := "bool") T.b_isinstance T.b_bool (db_var (i := 1))).wk) (dw_or1 (dt_truth (de_isi (S := "bool") T.b_isinstance T.b_bool (db_var (i := 0))).wk)))) (dss_one (ds_ret (de_and (de_isi (S := "bool") T.b_isinstance T.b_bool (db_var (i := 1))) (de_and (de_isi (S := "bool") T.b_isinstance T.b_bool (db_var (i := 0))) (de_one (de_eqQ cn.hu (de_var (i := 0)) (db_var (i := 1)))))))) dss_nil)
    (dss_cons (ds_if (DW.dt (dw_or (dt_truth (de_isi (S := "int") T.b_isinstance T.b_int (db_var (i := 1))).wk) (dw_or1 (dt_truth (de_isi (S := "int") T.b_isinstance T.b_int (db_var (i := 0))).wk)))) (dss_one (ds_ret (de_and (de_isi (S := "int") T.b_isinstance T.b_int (db_var (i := 1))) (de_and (de_isi (S := "int") T.b_isinstance T.b_int (db_var (i := 0))) (de_one (de_eqQ cn.hu (de_var (i := 0)) (db_var (i := 1)))))))) dss_nil)
    (dss_cons (ds_if (DW.dt (dw_or (dt_truth (de_isi (S := "str") T.b_isinstance T.b_str (db_var (i := 1))).wk) (dw_or1 (dt_truth (de_isi (S := "str") T.b_isinstance T.b_str (db_var (i := 0))).wk)))) (dss_one (ds_ret (de_and (de_isi (S := "str") T.b_isinstance T.b_str (db_var (i := 1))) (de_and (de_isi (S := "str") T.b_isinstance T.b_str (db_var (i := 0))) (de_one (de_eqQ cn.hu (de_var (i := 0)) (db_var (i := 1)))))))) dss_nil)
    (dss_one (ds_ret (de_eqQ cn.hu (de_var (i := 0)) (db_var (i := 1)))))))))))
theorem sc_llimit : FnScope N_llimit ["_law_v", "_law_named"] (defScope s_llimit) := ⟨rfl, rfl, rfl, by decide +kernel, rfl, by decide +kernel, by decide +kernel⟩
theorem ok_llimit {f : Addr} {fd : FuncData} (T : Tx K mg) (F : Fun K "_law_limit" "_law_limit" s_llimit f fd) (D_limit_of : Dfn P w K mg base "limit_of" 3 G_limit_of) (D_limit_of_k0 : DfK P w K mg base "limit_of" 3 G_limit_of 0 ["what"] [0]) : FnOk P w K mg base (L2.CX P w) 4 f fd ["_law_v", "_law_named"] (spD K mg G_llimit) :=
  Fun.okD (k := 3) F sc_llimit fun Φ cdv A outer s H E cn nM => by
    exact (dss_one (ds_try cn T.sub (fun W pn xe cn' => (dss_one (ds_ret (de_tup (da_cons de_str (da_cons (de_if (dt_truth (db_var (i := 1))) (de_callK D_limit_of_k0 cn'.cc da_nil (dk_cons (de_var (i := 0)) dk_nil) (by rfl)) (de_cal D_limit_of cn'.cc (da_cons (de_var (i := 0)) da_nil) (by rfl))) da_nil)))))) (.as (i := 2) (by rfl) T.e_UnknownName (by decide) (by rfl) (by rfl) (fun a dx c o pn EH => (dss_one (ds_ret (de_tup (da_cons (de_exat (i := 2) EH T.xft) (da_cons (de_exat (i := 2) EH T.xft) da_nil)))))) .nil)))
theorem sc_lchecked : FnScope N_lchecked ["_law_v", "_law_n", "_law_named"] (defScope s_lchecked) := ⟨rfl, rfl, rfl, by decide +kernel, rfl, by decide +kernel, by decide +kernel⟩
theorem ok_lchecked {f : Addr} {fd : FuncData} (T : Tx K mg) (F : Fun K "_law_checked" "_law_checked" s_lchecked f fd) (D_check_limit : Dfn P w K mg base "check_limit" 4 G_check_limit) (D_check_limit_k0 : DfK P w K mg base "check_limit" 4 G_check_limit 0 ["count", "what"] [1, 0]) : FnOk P w K mg base (L2.CX P w) 5 f fd ["_law_v", "_law_n", "_law_named"] (spD K mg G_lchecked) :=
  Fun.okD (k := 4) F sc_lchecked fun Φ cdv A outer s H E cn nM => by
    exact (dss_one (ds_try cn T.sub (fun W pn xe cn' => (dss_one (ds_ret (de_tup (da_cons de_str (da_cons (de_if (dt_truth (db_var (i := 2))) (de_callK D_check_limit_k0 cn'.cc da_nil (dk_cons (de_var (i := 1)) (dk_cons (de_var (i := 0)) dk_nil)) (by rfl)) (de_cal D_check_limit cn'.cc (da_cons (de_var (i := 0)) (da_cons (de_var (i := 1)) da_nil)) (by rfl))) da_nil)))))) (.as (i := 3) (by rfl) T.e_UnknownName (by decide) (by rfl) (by rfl) (fun a dx c o pn EH => (dss_one (ds_ret (de_tup (da_cons (de_exat (i := 3) EH T.xft) (da_cons (de_exat (i := 3) EH T.xft) da_nil)))))) (.as (i := 3) (by rfl) T.e_TooMany (by decide) (by rfl) (by rfl) (fun a dx c o pn EH => (dss_one (ds_ret (de_tup (da_cons (de_exat (i := 3) EH T.xft) (da_cons (de_exat (i := 3) EH T.xft) (da_cons (de_exat (i := 3) EH T.xft) da_nil))))))) .nil))))
theorem sc_law : FnScope N_law ["_law_script"] (defScope s_law) := ⟨rfl, rfl, rfl, by decide +kernel, rfl, by decide +kernel, by decide +kernel⟩
theorem ok_law {f : Addr} {fd : FuncData} (T : Tx K mg) (F : Fun K "law" "law" s_law f fd) (D_lbag : Dfn P w K mg base "_law_bag" 1 G_lbag) (D_lsame : Dfn P w K mg base "_law_same" 5 G_lsame) (D_llimit : Dfn P w K mg base "_law_limit" 4 G_llimit) (D_lof : Dfn P w K mg base "_law_of" 2 G_lof) (D_ldraw : Dfn P w K mg base "_law_draw" 1 G_ldraw) (D_lchecked : Dfn P w K mg base "_law_checked" 5 G_lchecked) : RunAt P w K mg base callerA f fd ["_law_script"] (spD K mg G_law) :=
  run_at (k := 5) F sc_law ⟨rfl, by decide, by decide⟩ fun Φ cdv outer s H E cn nM => by
    exact (dss_cons (ds_setF (i := 1) cn.nd (df_cal (i := 1) D_lbag cn.cc (da_cons (de_var (i := 0)) da_nil) (by rfl)))
    (dss_cel (i := 1) (dss_cons (ds_set (i := 2) cn.nd (de_tup (da_cons de_str (da_cons de_str (da_cons de_str (da_cons de_str (da_cons de_str (da_cons de_str (da_cons de_str (da_cons de_str (da_cons de_str (da_cons de_str (da_cons de_str (da_cons de_str (da_cons de_str (da_cons de_str (da_cons de_str da_nil)))))))))))))))))
    (dss_cons (ds_set (i := 3) cn.nd (de_lst (da_cons de_int (da_cons de_int (da_cons de_int (da_cons de_int (da_cons de_int (da_cons de_int (da_cons de_int (da_cons de_int (da_cons de_int (da_cons de_int (da_cons de_int (da_cons de_int (da_cons de_int (da_cons de_int (da_cons de_int da_nil)))))))))))))))))
    (dss_cons (ds_if (dt_not (dt_truth (de_cal D_lsame cn.cc (da_cons (de_lst (da_cons (de_glob T.c_WORDS.gl (by rfl)) (da_cons (de_lc (own := [("_law_p", 15)]) cn (blk_ok (N := N_law) (sc := defScope s_law) (by decide +kernel)) rfl (di_seq (de_glob T.c_WORDS.gl (by rfl))) (fun _ _ _ _ _ => (dgp_name (i := 15) cn.nd)) (fun _ _ _ _ _ => dts_nil) (fun _ _ _ _ _ => (de_cal D_llimit cn.blk (da_cons (de_var (i := 15)) (da_cons de_bl da_nil)) (by rfl)))) da_nil))) (da_cons (de_lst (da_cons (de_var (i := 2)) (da_cons (de_lc (own := [("_law_n", 11)]) cn (blk_ok (N := N_law) (sc := defScope s_law) (by decide +kernel)) rfl (di_seq (de_var (i := 3))) (fun _ _ _ _ _ => (dgp_name (i := 11) cn.nd)) (fun _ _ _ _ _ => dts_nil) (fun _ _ _ _ _ => (de_tup (da_cons de_str (da_cons (de_var (i := 11)) da_nil))))) da_nil))) da_nil)) (by rfl)).wk)) (dss_one (ds_ret de_bl)) dss_nil)
    (dss_cons (ds_for cn (di_rng1 T.b_range (da_cons de_int da_nil)) (dg_name (i := 4) cn.nd) nx_name (dss_cons (ds_set (i := 5) cn.nd (de_cal D_lof cn.cc (da_cons (de_var (i := 1)) (da_cons (de_var (i := 2)) da_nil)) (by rfl)))
    (dss_cons (ds_set (i := 6) cn.nd (de_add (de_add (de_sl (de_var (i := 5)) do_none (do_some (de_cal D_ldraw cn.cc (da_cons (de_var (i := 1)) (da_cons (de_len T.b_len (db_var (i := 5))) da_nil)) (by rfl)))) (de_cal D_lof cn.cc (da_cons (de_var (i := 1)) (da_cons (de_lst (da_cons de_str (da_cons de_str (da_cons de_str (da_cons de_str (da_cons de_str da_nil)))))) da_nil)) (by rfl)).wk) (de_sl (de_var (i := 5)) (do_some (de_cal D_ldraw cn.cc (da_cons (de_var (i := 1)) (da_cons (de_len T.b_len (db_var (i := 5))) da_nil)) (by rfl))) do_none).wk))
    (dss_cons (ds_set (i := 7) cn.nd (de_lst (da_cons de_non (da_cons de_bl (da_cons de_bl (da_cons de_int (da_cons de_int (da_cons de_str (da_cons de_str (da_cons de_str (da_cons de_str (da_cons de_str (da_cons de_str (da_cons (de_var (i := 6)) (da_cons (de_var (i := 6)) (da_cons (de_add (de_var (i := 5)) (de_str).wk) (da_cons (de_add de_str (db_var (i := 5))) (da_cons (de_add (de_var (i := 5)) (de_str).wk) (da_cons (de_upper (de_var (i := 5))) (da_cons (de_add (de_var (i := 5)) (de_str).wk) da_nil))))))))))))))))))))
    (dss_cons (ds_set (i := 7) cn.nd (de_add (de_var (i := 7)) (de_lst (da_cons (de_tup (da_cons (de_var (i := 5)) da_nil)) (da_cons (de_lst (da_cons (de_var (i := 5)) da_nil)) (da_cons (de_disp (dps_cons (de_var (i := 5)) de_int dps_nil)) (da_cons (de_split (de_var (i := 5)) de_str) (da_cons (de_tup da_nil) (da_cons (de_lst da_nil) (da_cons de_new (da_cons (de_tup (da_cons de_str (da_cons de_str da_nil))) (da_cons de_str (da_cons (de_var (i := 2)) (da_cons (de_list T.b_list (db_var (i := 2))) (da_cons (de_rev (de_var (i := 6))) da_nil))))))))))))).wk))
    (dss_cons (ds_set (i := 8) cn.nd (de_if (dt_lt (de_var (i := 4)) (de_int).wk) (de_var (i := 5)) (de_cal D_lof cn.cc (da_cons (de_var (i := 1)) (da_cons (de_var (i := 7)) da_nil)) (by rfl))))
    (dss_cons (ds_set (i := 9) cn.nd (de_and (de_isi (S := "str") T.b_isinstance T.b_str (db_var (i := 8))) (de_one (de_in (de_var (i := 8)) (db_var (i := 2))))))
    (dss_cons (ds_set (i := 10) cn.nd (de_if (dt_truth (db_var (i := 9))) (de_atv (i := 3) (de_tupIx (de_var (i := 2)) (de_var (i := 8)))) de_int))
    (dss_cons (ds_set (i := 11) cn.nd (de_cal D_lof cn.cc (da_cons (de_var (i := 1)) (da_cons (de_lst (da_cons (de_var (i := 10)) (da_cons (de_add (de_var (i := 10)) (de_int).wk) (da_cons (de_sub (de_var (i := 10)) (de_int).wk) (da_cons (de_add (de_var (i := 10)) (de_int).wk) (da_cons de_int (da_cons (de_neg (de_int).wk) (da_cons de_int (da_cons (de_pow de_int (de_int).wk) (da_cons (de_sub de_int (de_pow de_int (de_int).wk).wk) (da_cons (de_cal D_ldraw cn.cc (da_cons (de_var (i := 1)) (da_cons (de_mul de_int (db_var (i := 10))) da_nil)) (by rfl)) (da_cons (de_add (de_var (i := 10)) (de_cal D_ldraw cn.cc (da_cons (de_var (i := 1)) (da_cons (de_pow de_int (de_int).wk) da_nil)) (by rfl)).wk) da_nil)))))))))))) da_nil)) (by rfl)))
    (dss_cons (ds_set (i := 12) cn.nd (de_repr rfl cn.hu T.b_repr (db_var (i := 8))))
    (dss_cons (ds_for cn (di_seq (de_lst (da_cons (de_gt (de_var (i := 4)) (de_int).wk) (da_cons (de_lt (de_var (i := 4)) (de_int).wk) da_nil)))) (dg_name (i := 13) cn.nd) nx_name (dss_cons (ds_if (dt_not (dt_truth (de_cal D_lsame cn.cc (da_cons (de_cal D_llimit cn.cc (da_cons (de_var (i := 8)) (da_cons (de_var (i := 13)) da_nil)) (by rfl)) (da_cons (de_if (dt_truth (db_var (i := 9))) (de_tup (da_cons de_str (da_cons (de_var (i := 10)) da_nil))) (de_tup (da_cons de_str (da_cons (de_var (i := 8)) da_nil)))) da_nil)) (by rfl)).wk)) (dss_one (ds_ret de_bl)) dss_nil)
    (dss_cons (ds_set (i := 14) cn.nd (de_if (dt_le (de_var (i := 11)) (db_var (i := 10))) (de_tup (da_cons de_str (da_cons de_non da_nil))) (de_tup (da_cons de_str (da_cons (de_var (i := 8)) (da_cons (de_var (i := 11)) da_nil))))))
    (dss_one (ds_if (dt_not (dt_truth (de_cal D_lsame cn.cc (da_cons (de_cal D_lchecked cn.cc (da_cons (de_var (i := 8)) (da_cons (de_var (i := 11)) (da_cons (de_var (i := 13)) da_nil))) (by rfl)) (da_cons (de_if (dt_truth (db_var (i := 9))) (de_var (i := 14)) (de_tup (da_cons de_str (da_cons (de_var (i := 8)) da_nil)))) da_nil)) (by rfl)).wk)) (dss_one (ds_ret de_bl)) dss_nil)))))
    (dss_one (ds_if (dt_ne cn.hu (de_repr rfl cn.hu T.b_repr (db_var (i := 8))) (db_var (i := 12))) (dss_one (ds_ret de_bl)) dss_nil)))))))))))))
    (dss_one (ds_ret de_bl)))))) nM))
/-- all defs together, from what the top has written -/
theorem all_mk {h : Heap} (X : K.In h) (G : h.Ns mainGlobals mg) {fa : Addr}
    {a_WORDS : Addr} {its_WORDS : Array Value} {n_WORDS : Nat} {sl_WORDS : Array (Option Value)}
    {a_LIMITS : Addr} {its_LIMITS : Array Value} {n_LIMITS : Nat} {sl_LIMITS : Array (Option Value)}
    {C_UnknownName : Addr}
    {C_TooMany : Addr}
    {i_UnknownName N_UnknownName : Addr} {nm_UnknownName q_UnknownName : Str} {bs_UnknownName bm_UnknownName : List Value} {sn_UnknownName : List Str} {sub_UnknownName : List Value} {ab_UnknownName : Bool} {col_UnknownName : Option Bool} {dd_UnknownName od_UnknownName an_UnknownName : Option Addr} {k0_UnknownName k1_UnknownName k2_UnknownName k3_UnknownName k5_UnknownName : Option Value} {so_UnknownName : Array (Option Value)} {oc_UnknownName kV_UnknownName dc_UnknownName pm_UnknownName cd_UnknownName ct_UnknownName : Value}
    {i_TooMany N_TooMany : Addr} {nm_TooMany q_TooMany : Str} {bs_TooMany bm_TooMany : List Value} {sn_TooMany : List Str} {sub_TooMany : List Value} {ab_TooMany : Bool} {col_TooMany : Option Bool} {dd_TooMany od_TooMany an_TooMany : Option Addr} {k0_TooMany k1_TooMany k2_TooMany k3_TooMany k5_TooMany : Option Value} {so_TooMany : Array (Option Value)} {oc_TooMany kV_TooMany dc_TooMany pm_TooMany cd_TooMany ct_TooMany : Value}
    {f_flimit_of : Addr} {od_flimit_of an_flimit_of : Option Addr} {sl_flimit_of : Array (Option Value)} {oc_flimit_of kV_flimit_of dc_flimit_of pm_flimit_of cd_flimit_of ct_flimit_of : Value}
    {f_fcheck_limit : Addr} {od_fcheck_limit an_fcheck_limit : Option Addr} {sl_fcheck_limit : Array (Option Value)} {oc_fcheck_limit kV_fcheck_limit dc_fcheck_limit pm_fcheck_limit cd_fcheck_limit ct_fcheck_limit : Value}
    {f_flbag : Addr} {od_flbag an_flbag : Option Addr} {sl_flbag : Array (Option Value)} {oc_flbag kV_flbag dc_flbag pm_flbag cd_flbag ct_flbag : Value}
    {f_fldraw : Addr} {od_fldraw an_fldraw : Option Addr} {sl_fldraw : Array (Option Value)} {oc_fldraw kV_fldraw dc_fldraw pm_fldraw cd_fldraw ct_fldraw : Value}
    {f_flof : Addr} {od_flof an_flof : Option Addr} {sl_flof : Array (Option Value)} {oc_flof kV_flof dc_flof pm_flof cd_flof ct_flof : Value}
    {f_flsame : Addr} {od_flsame an_flsame : Option Addr} {sl_flsame : Array (Option Value)} {oc_flsame kV_flsame dc_flsame pm_flsame cd_flsame ct_flsame : Value}
    {f_fllimit : Addr} {od_fllimit an_fllimit : Option Addr} {sl_fllimit : Array (Option Value)} {oc_fllimit kV_fllimit dc_fllimit pm_fllimit cd_fllimit ct_fllimit : Value}
    {f_flchecked : Addr} {od_flchecked an_flchecked : Option Addr} {sl_flchecked : Array (Option Value)} {oc_flchecked kV_flchecked dc_flchecked pm_flchecked cd_flchecked ct_flchecked : Value}
    {f_flaw : Addr} {od_flaw an_flaw : Option Addr} {sl_flaw : Array (Option Value)} {oc_flaw kV_flaw dc_flaw pm_flaw cd_flaw ct_flaw : Value} (hfa : mg "law" = some (.ref fa))
    (g_WORDS : PySem.W.nsIn K mainGlobals "WORDS" = some (some (.ref a_WORDS)))
    (l_WORDS : K.lookup a_WORDS = some ⟨.type "tuple", none, .seq its_WORDS n_WORDS, sl_WORDS⟩)
    (f_WORDS : Flats [V.str "keys", V.str "moments", V.str "rules", V.str "items", V.str "digits", V.str "scripts", V.str "nodes", V.str "edges", V.str "standings", V.str "price keys", V.str "price rows", V.str "more", V.str "unread", V.str "names", V.str "deeds"] its_WORDS.toList [.str "keys", .str "moments", .str "rules", .str "items", .str "digits", .str "scripts", .str "nodes", .str "edges", .str "standings", .str "price keys", .str "price rows", .str "more", .str "unread", .str "names", .str "deeds"])
    (z_WORDS : its_WORDS.size ≤ sizeLine)
    (g_LIMITS : PySem.W.nsIn K mainGlobals "LIMITS" = some (some (.ref a_LIMITS)))
    (l_LIMITS : K.lookup a_LIMITS = some ⟨.type "tuple", none, .seq its_LIMITS n_LIMITS, sl_LIMITS⟩)
    (f_LIMITS : Flats [V.int 12, V.int 60, V.int 40, V.int 6, V.int 30, V.int 5, V.int 30, V.int 60, V.int 400, V.int 5, V.int 6, V.int 5, V.int 10, V.int 20, V.int 60] its_LIMITS.toList [.int 12, .int 60, .int 40, .int 6, .int 30, .int 5, .int 30, .int 60, .int 400, .int 5, .int 6, .int 5, .int 10, .int 20, .int 60])
    (z_LIMITS : its_LIMITS.size ≤ sizeLine)
    (g_UnknownName : PySem.W.nsIn K mainGlobals "UnknownName" = some (some (.ref C_UnknownName)))
    (g_TooMany : PySem.W.nsIn K mainGlobals "TooMany" = some (some (.ref C_TooMany)))
    (xl_UnknownName : K.lookup C_UnknownName = some (excClassObj nm_UnknownName q_UnknownName C_UnknownName N_UnknownName bs_UnknownName bm_UnknownName true sn_UnknownName sub_UnknownName ab_UnknownName col_UnknownName dd_UnknownName k0_UnknownName k1_UnknownName k2_UnknownName k3_UnknownName k5_UnknownName "LookupError.__new__"))
    (xr_UnknownName : refsB [.type "LookupError", .type "Exception", .type "BaseException", .type "object"] bm_UnknownName = true)
    (xo_UnknownName : bm_UnknownName.contains (.type "object") = true)
    (xs_UnknownName : PySem.W.findIn K (.ref C_UnknownName) "__setattr__" = some (some (.builtin "object.__setattr__")))
    (xe_UnknownName : PySem.W.subIn K (.ref C_UnknownName) (.type "BaseException") = some true)
    (xt_UnknownName : PySem.W.typeIn K (.ref C_UnknownName) = some (.type "type"))
    (xk_UnknownName : PySem.W.keepIn K (.ref C_UnknownName) = true)
    (xi_UnknownName : PySem.W.findIn K (.ref C_UnknownName) "__init__" = some (some (.ref i_UnknownName)))
    (xf_UnknownName : PySem.W.typeIn K (.ref i_UnknownName) = some (.type "function"))
    (xc_UnknownName : K.lookup i_UnknownName = some ⟨oc_UnknownName, od_UnknownName, .func (PySem.W.fnOf "__init__" "UnknownName.__init__" (defArgs s_UnknownName) (defBody s_UnknownName) (defScope s_UnknownName) .none kV_UnknownName dc_UnknownName pm_UnknownName an_UnknownName cd_UnknownName ct_UnknownName), so_UnknownName⟩)
    (xd_UnknownName : PySem.W.codeIn K cd_UnknownName "UnknownName.__init__" = true)
    (xp_UnknownName : PySem.W.keepIn K (.ref i_UnknownName) = true)
    (xg_UnknownName : PySem.W.findIn K (.ref C_UnknownName) "__getattribute__" = some (some (.builtin "BaseException.__getattribute__")))
    (xh_UnknownName : PySem.W.findIn K (.ref C_UnknownName) "__getattr__" = some none)
    (xj_UnknownName : PySem.W.hasDictIn K C_UnknownName = true)
    (xn_UnknownName_code : PySem.W.findIn K (.ref C_UnknownName) "code" = some none)
    (xn_UnknownName_count : PySem.W.findIn K (.ref C_UnknownName) "count" = some none)
    (xn_UnknownName_name : PySem.W.findIn K (.ref C_UnknownName) "name" = some none)
    (xn_UnknownName_what : PySem.W.findIn K (.ref C_UnknownName) "what" = some none)
    (xl_TooMany : K.lookup C_TooMany = some (excClassObj nm_TooMany q_TooMany C_TooMany N_TooMany bs_TooMany bm_TooMany true sn_TooMany sub_TooMany ab_TooMany col_TooMany dd_TooMany k0_TooMany k1_TooMany k2_TooMany k3_TooMany k5_TooMany "ValueError.__new__"))
    (xr_TooMany : refsB [.type "ValueError", .type "Exception", .type "BaseException", .type "object"] bm_TooMany = true)
    (xo_TooMany : bm_TooMany.contains (.type "object") = true)
    (xs_TooMany : PySem.W.findIn K (.ref C_TooMany) "__setattr__" = some (some (.builtin "object.__setattr__")))
    (xe_TooMany : PySem.W.subIn K (.ref C_TooMany) (.type "BaseException") = some true)
    (xt_TooMany : PySem.W.typeIn K (.ref C_TooMany) = some (.type "type"))
    (xk_TooMany : PySem.W.keepIn K (.ref C_TooMany) = true)
    (xi_TooMany : PySem.W.findIn K (.ref C_TooMany) "__init__" = some (some (.ref i_TooMany)))
    (xf_TooMany : PySem.W.typeIn K (.ref i_TooMany) = some (.type "function"))
    (xc_TooMany : K.lookup i_TooMany = some ⟨oc_TooMany, od_TooMany, .func (PySem.W.fnOf "__init__" "TooMany.__init__" (defArgs s_TooMany) (defBody s_TooMany) (defScope s_TooMany) .none kV_TooMany dc_TooMany pm_TooMany an_TooMany cd_TooMany ct_TooMany), so_TooMany⟩)
    (xd_TooMany : PySem.W.codeIn K cd_TooMany "TooMany.__init__" = true)
    (xp_TooMany : PySem.W.keepIn K (.ref i_TooMany) = true)
    (xg_TooMany : PySem.W.findIn K (.ref C_TooMany) "__getattribute__" = some (some (.builtin "BaseException.__getattribute__")))
    (xh_TooMany : PySem.W.findIn K (.ref C_TooMany) "__getattr__" = some none)
    (xj_TooMany : PySem.W.hasDictIn K C_TooMany = true)
    (xn_TooMany_code : PySem.W.findIn K (.ref C_TooMany) "code" = some none)
    (xn_TooMany_count : PySem.W.findIn K (.ref C_TooMany) "count" = some none)
    (xn_TooMany_name : PySem.W.findIn K (.ref C_TooMany) "name" = some none)
    (xn_TooMany_what : PySem.W.findIn K (.ref C_TooMany) "what" = some none)
    (ic_UnknownName : PySem.W.isClsIn K C_UnknownName = true)
    (sb_UnknownName_UnknownName : PySem.W.subIn K (.ref C_UnknownName) (.ref C_UnknownName) = some true)
    (sb_TooMany_UnknownName : PySem.W.subIn K (.ref C_TooMany) (.ref C_UnknownName) = some false)
    (ic_TooMany : PySem.W.isClsIn K C_TooMany = true)
    (sb_UnknownName_TooMany : PySem.W.subIn K (.ref C_UnknownName) (.ref C_TooMany) = some false)
    (sb_TooMany_TooMany : PySem.W.subIn K (.ref C_TooMany) (.ref C_TooMany) = some true)
    (bz_abs : PySem.W.nsIn K mainGlobals "abs" = some none)
    (bz_all : PySem.W.nsIn K mainGlobals "all" = some none)
    (bz_bool : PySem.W.nsIn K mainGlobals "bool" = some none)
    (bz_int : PySem.W.nsIn K mainGlobals "int" = some none)
    (bz_isinstance : PySem.W.nsIn K mainGlobals "isinstance" = some none)
    (bz_len : PySem.W.nsIn K mainGlobals "len" = some none)
    (bz_list : PySem.W.nsIn K mainGlobals "list" = some none)
    (bz_range : PySem.W.nsIn K mainGlobals "range" = some none)
    (bz_repr : PySem.W.nsIn K mainGlobals "repr" = some none)
    (bz_str : PySem.W.nsIn K mainGlobals "str" = some none)
    (bz_tuple : PySem.W.nsIn K mainGlobals "tuple" = some none)
    (bz_zip : PySem.W.nsIn K mainGlobals "zip" = some none)
    (a_flimit_of : PySem.W.nsIn K mainGlobals "limit_of" = some (some (.ref f_flimit_of)))
    (l_flimit_of : K.lookup f_flimit_of = some ⟨oc_flimit_of, od_flimit_of, .func (PySem.W.fnOf "limit_of" "limit_of" (defArgs s_limit_of) (defBody s_limit_of) (defScope s_limit_of) .none kV_flimit_of dc_flimit_of pm_flimit_of an_flimit_of cd_flimit_of ct_flimit_of), sl_flimit_of⟩)
    (c_flimit_of : PySem.W.codeIn K cd_flimit_of "limit_of" = true)
    (k_flimit_of : PySem.W.keepIn K (.ref f_flimit_of) = true)
    (a_fcheck_limit : PySem.W.nsIn K mainGlobals "check_limit" = some (some (.ref f_fcheck_limit)))
    (l_fcheck_limit : K.lookup f_fcheck_limit = some ⟨oc_fcheck_limit, od_fcheck_limit, .func (PySem.W.fnOf "check_limit" "check_limit" (defArgs s_check_limit) (defBody s_check_limit) (defScope s_check_limit) .none kV_fcheck_limit dc_fcheck_limit pm_fcheck_limit an_fcheck_limit cd_fcheck_limit ct_fcheck_limit), sl_fcheck_limit⟩)
    (c_fcheck_limit : PySem.W.codeIn K cd_fcheck_limit "check_limit" = true)
    (k_fcheck_limit : PySem.W.keepIn K (.ref f_fcheck_limit) = true)
    (a_flbag : PySem.W.nsIn K mainGlobals "_law_bag" = some (some (.ref f_flbag)))
    (l_flbag : K.lookup f_flbag = some ⟨oc_flbag, od_flbag, .func (PySem.W.fnOf "_law_bag" "_law_bag" (defArgs s_lbag) (defBody s_lbag) (defScope s_lbag) .none kV_flbag dc_flbag pm_flbag an_flbag cd_flbag ct_flbag), sl_flbag⟩)
    (c_flbag : PySem.W.codeIn K cd_flbag "_law_bag" = true)
    (k_flbag : PySem.W.keepIn K (.ref f_flbag) = true)
    (a_fldraw : PySem.W.nsIn K mainGlobals "_law_draw" = some (some (.ref f_fldraw)))
    (l_fldraw : K.lookup f_fldraw = some ⟨oc_fldraw, od_fldraw, .func (PySem.W.fnOf "_law_draw" "_law_draw" (defArgs s_ldraw) (defBody s_ldraw) (defScope s_ldraw) .none kV_fldraw dc_fldraw pm_fldraw an_fldraw cd_fldraw ct_fldraw), sl_fldraw⟩)
    (c_fldraw : PySem.W.codeIn K cd_fldraw "_law_draw" = true)
    (k_fldraw : PySem.W.keepIn K (.ref f_fldraw) = true)
    (a_flof : PySem.W.nsIn K mainGlobals "_law_of" = some (some (.ref f_flof)))
    (l_flof : K.lookup f_flof = some ⟨oc_flof, od_flof, .func (PySem.W.fnOf "_law_of" "_law_of" (defArgs s_lof) (defBody s_lof) (defScope s_lof) .none kV_flof dc_flof pm_flof an_flof cd_flof ct_flof), sl_flof⟩)
    (c_flof : PySem.W.codeIn K cd_flof "_law_of" = true)
    (k_flof : PySem.W.keepIn K (.ref f_flof) = true)
    (a_flsame : PySem.W.nsIn K mainGlobals "_law_same" = some (some (.ref f_flsame)))
    (l_flsame : K.lookup f_flsame = some ⟨oc_flsame, od_flsame, .func (PySem.W.fnOf "_law_same" "_law_same" (defArgs s_lsame) (defBody s_lsame) (defScope s_lsame) .none kV_flsame dc_flsame pm_flsame an_flsame cd_flsame ct_flsame), sl_flsame⟩)
    (c_flsame : PySem.W.codeIn K cd_flsame "_law_same" = true)
    (k_flsame : PySem.W.keepIn K (.ref f_flsame) = true)
    (a_fllimit : PySem.W.nsIn K mainGlobals "_law_limit" = some (some (.ref f_fllimit)))
    (l_fllimit : K.lookup f_fllimit = some ⟨oc_fllimit, od_fllimit, .func (PySem.W.fnOf "_law_limit" "_law_limit" (defArgs s_llimit) (defBody s_llimit) (defScope s_llimit) .none kV_fllimit dc_fllimit pm_fllimit an_fllimit cd_fllimit ct_fllimit), sl_fllimit⟩)
    (c_fllimit : PySem.W.codeIn K cd_fllimit "_law_limit" = true)
    (k_fllimit : PySem.W.keepIn K (.ref f_fllimit) = true)
    (a_flchecked : PySem.W.nsIn K mainGlobals "_law_checked" = some (some (.ref f_flchecked)))
    (l_flchecked : K.lookup f_flchecked = some ⟨oc_flchecked, od_flchecked, .func (PySem.W.fnOf "_law_checked" "_law_checked" (defArgs s_lchecked) (defBody s_lchecked) (defScope s_lchecked) .none kV_flchecked dc_flchecked pm_flchecked an_flchecked cd_flchecked ct_flchecked), sl_flchecked⟩)
    (c_flchecked : PySem.W.codeIn K cd_flchecked "_law_checked" = true)
    (k_flchecked : PySem.W.keepIn K (.ref f_flchecked) = true)
    (a_flaw : PySem.W.nsIn K mainGlobals "law" = some (some (.ref f_flaw)))
    (l_flaw : K.lookup f_flaw = some ⟨oc_flaw, od_flaw, .func (PySem.W.fnOf "law" "law" (defArgs s_law) (defBody s_law) (defScope s_law) .none kV_flaw dc_flaw pm_flaw an_flaw cd_flaw ct_flaw), sl_flaw⟩)
    (c_flaw : PySem.W.codeIn K cd_flaw "law" = true)
    (k_flaw : PySem.W.keepIn K (.ref f_flaw) = true) :
    ∃ fd : FuncData, (∀ (s : Shared) (u : Value), BindsTo s fd ⟨[u], []⟩ [("_law_script", u)]) ∧ ∀ base : Heap, K.In base → base.Ns mainGlobals mg → RunAt P w K mg base callerA fa fd ["_law_script"] (spD K mg G_law) := by
  have e0 : fa = f_flaw := by cases hfa.symm.trans (PySem.W.mg_of X G a_flaw); rfl
  rw [e0]
  have C_WORDS : GlK K mg "WORDS" c_WORDS := glk_tup X G g_WORDS l_WORDS f_WORDS z_WORDS
  have C_LIMITS : GlK K mg "LIMITS" c_LIMITS := glk_tup X G g_LIMITS l_LIMITS f_LIMITS z_LIMITS
  have M_UnknownName := PySem.W.mg_of X G g_UnknownName
  have M_TooMany := PySem.W.mg_of X G g_TooMany
  have E_UnknownName : ErrG K mg "UnknownName" "UnknownName.__init__" s_UnknownName C_UnknownName i_UnknownName _ "LookupError" "LookupError.__new__" "LookupError.__init__" [.type "LookupError", .type "Exception", .type "BaseException", .type "object"] := ⟨M_UnknownName, PySem.F.excBase_LookupError, exc_mk xl_UnknownName PySem.F.store_LookupError.passes xr_UnknownName xo_UnknownName xs_UnknownName xe_UnknownName xt_UnknownName xk_UnknownName, xi_UnknownName, xf_UnknownName, fun_mk (st := s_UnknownName) xc_UnknownName xd_UnknownName xp_UnknownName⟩
  have no_UnknownName : ∀ p ∈ L_UnknownName, PySem.W.findIn K (.ref C_UnknownName) p.1 = some none := by
    intro p hp
    simp only [L_UnknownName, List.mem_cons, List.not_mem_nil, or_false] at hp
    rcases hp with rfl | rfl
    · exact xn_UnknownName_code
    · exact xn_UnknownName_name
  have E_TooMany : ErrG K mg "TooMany" "TooMany.__init__" s_TooMany C_TooMany i_TooMany _ "ValueError" "ValueError.__new__" "ValueError.__init__" [.type "ValueError", .type "Exception", .type "BaseException", .type "object"] := ⟨M_TooMany, PySem.F.excBase_ValueError, exc_mk xl_TooMany PySem.F.store_ValueError.passes xr_TooMany xo_TooMany xs_TooMany xe_TooMany xt_TooMany xk_TooMany, xi_TooMany, xf_TooMany, fun_mk (st := s_TooMany) xc_TooMany xd_TooMany xp_TooMany⟩
  have no_TooMany : ∀ p ∈ L_TooMany, PySem.W.findIn K (.ref C_TooMany) p.1 = some none := by
    intro p hp
    simp only [L_TooMany, List.mem_cons, List.not_mem_nil, or_false] at hp
    rcases hp with rfl | rfl | rfl
    · exact xn_TooMany_code
    · exact xn_TooMany_what
    · exact xn_TooMany_count
  have SB : SubOk K mg subT := by
    intro c h b e Cc Hc m1 m2
    have e := sub_mem e
    simp only [subT, List.mem_cons, List.not_mem_nil, or_false, Prod.mk.injEq] at e
    rcases e with ⟨⟨rfl, rfl⟩, rfl⟩ | ⟨⟨rfl, rfl⟩, rfl⟩ | ⟨⟨rfl, rfl⟩, rfl⟩ | ⟨⟨rfl, rfl⟩, rfl⟩
    · cases M_UnknownName.symm.trans m1; cases M_UnknownName.symm.trans m2; exact exm_mk xe_UnknownName ic_UnknownName xt_UnknownName sb_UnknownName_UnknownName
    · cases M_UnknownName.symm.trans m1; cases M_TooMany.symm.trans m2; exact exm_mk xe_TooMany ic_TooMany xt_TooMany sb_UnknownName_TooMany
    · cases M_TooMany.symm.trans m1; cases M_UnknownName.symm.trans m2; exact exm_mk xe_UnknownName ic_UnknownName xt_UnknownName sb_TooMany_UnknownName
    · cases M_TooMany.symm.trans m1; cases M_TooMany.symm.trans m2; exact exm_mk xe_TooMany ic_TooMany xt_TooMany sb_TooMany_TooMany
  have XF : XfT K mg csT fsT := by
    intro c hc Cc m
    simp only [csT, List.mem_cons, List.not_mem_nil, or_false] at hc
    rcases hc with rfl | rfl
    · cases M_UnknownName.symm.trans m
      refine ⟨⟨xg_UnknownName, xh_UnknownName, xe_UnknownName, xj_UnknownName⟩, fun f hf => ?_⟩
      simp only [fsT, List.mem_cons, List.not_mem_nil, or_false] at hf
      rcases hf with rfl | rfl | rfl | rfl
      · exact xn_UnknownName_code
      · exact xn_UnknownName_count
      · exact xn_UnknownName_name
      · exact xn_UnknownName_what
    · cases M_TooMany.symm.trans m
      refine ⟨⟨xg_TooMany, xh_TooMany, xe_TooMany, xj_TooMany⟩, fun f hf => ?_⟩
      simp only [fsT, List.mem_cons, List.not_mem_nil, or_false] at hf
      rcases hf with rfl | rfl | rfl | rfl
      · exact xn_TooMany_code
      · exact xn_TooMany_count
      · exact xn_TooMany_name
      · exact xn_TooMany_what
  have F_limit_of : FunG K mg "limit_of" s_limit_of f_flimit_of _ := ⟨fun_mk (st := s_limit_of) l_flimit_of c_flimit_of k_flimit_of, PySem.W.mg_of X G a_flimit_of⟩
  have B_limit_of := F_limit_of.fn.binds (ps := ["what"]) fun _ _ _ _ _ _ us hl => match us, hl with | [_], _ => rfl
  have F_check_limit : FunG K mg "check_limit" s_check_limit f_fcheck_limit _ := ⟨fun_mk (st := s_check_limit) l_fcheck_limit c_fcheck_limit k_fcheck_limit, PySem.W.mg_of X G a_fcheck_limit⟩
  have B_check_limit := F_check_limit.fn.binds (ps := ["what", "count"]) fun _ _ _ _ _ _ us hl => match us, hl with | [_, _], _ => rfl
  have F_lbag : FunG K mg "_law_bag" s_lbag f_flbag _ := ⟨fun_mk (st := s_lbag) l_flbag c_flbag k_flbag, PySem.W.mg_of X G a_flbag⟩
  have B_lbag := F_lbag.fn.binds (ps := ["_law_script"]) fun _ _ _ _ _ _ us hl => match us, hl with | [_], _ => rfl
  have F_ldraw : FunG K mg "_law_draw" s_ldraw f_fldraw _ := ⟨fun_mk (st := s_ldraw) l_fldraw c_fldraw k_fldraw, PySem.W.mg_of X G a_fldraw⟩
  have B_ldraw := F_ldraw.fn.binds (ps := ["_law_bag_here", "_law_top"]) fun _ _ _ _ _ _ us hl => match us, hl with | [_, _], _ => rfl
  have F_lof : FunG K mg "_law_of" s_lof f_flof _ := ⟨fun_mk (st := s_lof) l_flof c_flof k_flof, PySem.W.mg_of X G a_flof⟩
  have B_lof := F_lof.fn.binds (ps := ["_law_bag_here", "_law_some"]) fun _ _ _ _ _ _ us hl => match us, hl with | [_, _], _ => rfl
  have F_lsame : FunG K mg "_law_same" s_lsame f_flsame _ := ⟨fun_mk (st := s_lsame) l_flsame c_flsame k_flsame, PySem.W.mg_of X G a_flsame⟩
  have B_lsame := F_lsame.fn.binds (ps := ["_law_found", "_law_due"]) fun _ _ _ _ _ _ us hl => match us, hl with | [_, _], _ => rfl
  have F_llimit : FunG K mg "_law_limit" s_llimit f_fllimit _ := ⟨fun_mk (st := s_llimit) l_fllimit c_fllimit k_fllimit, PySem.W.mg_of X G a_fllimit⟩
  have B_llimit := F_llimit.fn.binds (ps := ["_law_v", "_law_named"]) fun _ _ _ _ _ _ us hl => match us, hl with | [_, _], _ => rfl
  have F_lchecked : FunG K mg "_law_checked" s_lchecked f_flchecked _ := ⟨fun_mk (st := s_lchecked) l_flchecked c_flchecked k_flchecked, PySem.W.mg_of X G a_flchecked⟩
  have B_lchecked := F_lchecked.fn.binds (ps := ["_law_v", "_law_n", "_law_named"]) fun _ _ _ _ _ _ us hl => match us, hl with | [_, _, _], _ => rfl
  have F_law : FunG K mg "law" s_law f_flaw _ := ⟨fun_mk (st := s_law) l_flaw c_flaw k_flaw, PySem.W.mg_of X G a_flaw⟩
  have B_law := F_law.fn.binds (ps := ["_law_script"]) fun _ _ _ _ _ _ us hl => match us, hl with | [_], _ => rfl
  have T : Tx K mg := ⟨PySem.W.mg_none_of X G bz_abs, PySem.W.mg_none_of X G bz_all, PySem.W.mg_none_of X G bz_bool, PySem.W.mg_none_of X G bz_int, PySem.W.mg_none_of X G bz_isinstance, PySem.W.mg_none_of X G bz_len, PySem.W.mg_none_of X G bz_list, PySem.W.mg_none_of X G bz_range, PySem.W.mg_none_of X G bz_repr, PySem.W.mg_none_of X G bz_str, PySem.W.mg_none_of X G bz_tuple, PySem.W.mg_none_of X G bz_zip, C_WORDS, C_LIMITS, ⟨_, M_UnknownName⟩, ⟨_, M_TooMany⟩, SB, XF⟩
  refine ⟨PySem.W.fnOf "law" "law" (defArgs s_law) (defBody s_law) (defScope s_law) .none kV_flaw dc_flaw pm_flaw an_flaw cd_flaw ct_flaw, fun s u => .of_eq rfl, fun base _ _ => ?_⟩
  have R_UnknownName : Erx P w K mg base "UnknownName" 1 1 L_UnknownName := r_UnknownName E_UnknownName no_UnknownName
  have R_TooMany : Erx P w K mg base "TooMany" 1 2 L_TooMany := r_TooMany E_TooMany no_TooMany
  have O_limit_of := ok_limit_of (P := P) (w := w) (base := base) T F_limit_of.fn R_UnknownName
  have D_limit_of : Dfn P w K mg base "limit_of" 3 G_limit_of := F_limit_of.dfn O_limit_of B_limit_of
  have D_limit_of_k0 : DfK P w K mg base "limit_of" 3 G_limit_of 0 ["what"] [0] := F_limit_of.dfk O_limit_of (Fun.kwb F_limit_of.fn fun _ _ _ _ _ _ us ws h1 h2 => match us, ws, h1, h2 with | [], [_], _, _ => rfl)
  have O_check_limit := ok_check_limit (P := P) (w := w) (base := base) T F_check_limit.fn D_limit_of D_limit_of_k0 R_TooMany
  have D_check_limit : Dfn P w K mg base "check_limit" 4 G_check_limit := F_check_limit.dfn O_check_limit B_check_limit
  have D_check_limit_k0 : DfK P w K mg base "check_limit" 4 G_check_limit 0 ["count", "what"] [1, 0] := F_check_limit.dfk O_check_limit (Fun.kwb F_check_limit.fn fun _ _ _ _ _ _ us ws h1 h2 => match us, ws, h1, h2 with | [], [_, _], _, _ => rfl)
  have O_lbag := ok_lbag (P := P) (w := w) (base := base) T F_lbag.fn
  have D_lbag : Dfn P w K mg base "_law_bag" 1 G_lbag := F_lbag.dfn O_lbag B_lbag
  have O_ldraw := ok_ldraw (P := P) (w := w) (base := base) T F_ldraw.fn
  have D_ldraw : Dfn P w K mg base "_law_draw" 1 G_ldraw := F_ldraw.dfn O_ldraw B_ldraw
  have O_lof := ok_lof (P := P) (w := w) (base := base) T F_lof.fn D_ldraw
  have D_lof : Dfn P w K mg base "_law_of" 2 G_lof := F_lof.dfn O_lof B_lof
  have O_lsame := ok_lsame (P := P) (w := w) (base := base) T F_lsame B_lsame 5
  have D_lsame : Dfn P w K mg base "_law_same" 5 G_lsame := F_lsame.dfn O_lsame B_lsame
  have O_llimit := ok_llimit (P := P) (w := w) (base := base) T F_llimit.fn D_limit_of D_limit_of_k0
  have D_llimit : Dfn P w K mg base "_law_limit" 4 G_llimit := F_llimit.dfn O_llimit B_llimit
  have O_lchecked := ok_lchecked (P := P) (w := w) (base := base) T F_lchecked.fn D_check_limit D_check_limit_k0
  have D_lchecked : Dfn P w K mg base "_law_checked" 5 G_lchecked := F_lchecked.dfn O_lchecked B_lchecked
  exact ok_law T F_law.fn D_lbag D_lsame D_llimit D_lof D_ldraw D_lchecked
end L2.DL.K01

namespace L2.DL.K01
open PySem PySem.Spec PyProof.Rows
def bagC (cs : List Int) (p r m k : Int) : Cell := .lst [.lst (cs.map D.int), .int p, .int r, .int m, .int k]
theorem mul_c {i j : Int} (h1 : 0 ≤ i) (h2 : i < 2 ^ 70) (h3 : 0 ≤ j) (h4 : j < 2 ^ 70) : mulC i j = true := by
  have f : ∀ x : Int, 0 ≤ x → x < 2 ^ 70 → x.natAbs.log2 < 71 := fun x a b => by
    by_cases z : x.natAbs = 0
    · rw [z]; decide
    · have := (Nat.log2_lt z (k := 71)).mpr (by omega)
      exact this
  have := f i h1 h2
  have := f j h3 h4
  exact decide_eq_true (by omega)
theorem draw_a {cs : List Int} {p r m k top : Int} (ht : 0 < top) (ht2 : top.natAbs.log2 < 9000) (hr : 0 < r) : G_ldraw [.cell 0, .int top] [bagC cs p r m k] = .ok (.int (r % top)) [bagC cs p (r / top) m (k + 1)] := by
  have e1 : ¬ (r = 0) := by omega
  simp only [G_ldraw, g_ldraw, bagC, runD_ap, List.length_cons, List.length_nil, Nat.reduceAdd, Nat.reduceSub, List.map_cons, List.map_nil, List.replicate_succ, List.replicate_zero, List.cons_append, List.nil_append, seqM_ap, sq_nx, sq_rt, stiM_ap, bnd_ap, bo_ok, op2_ap, op2v_ap, op1_ap, cst_ap, lift_so, ret_ap, pek_ap, lett_ap, pekD, List.getElem?_cons_zero, List.getElem?_cons_succ, ix_l, ix50, ix51, ix52, ix53, ix54, isLst, lstUp, lstAt, lstPut, Option.map_some, add_ii, List.set_cons_zero, List.set_cons_succ, ifS_ap, andM_ap, tst_ap, eq_ii, lt_ii, gt_ii, ge_ii, len_l, asBl_b, bf_t, bf_f, bf_d, if_true, if_false, ite_true, ite_false, decide_true, decide_false, setM_ap, put_ap, skp_ap, rtM_ap, ri_rt, int_i, abs_i, ixN50, ixN51, ixN52, ixN53, ixN54, e1, hr, mod_ii ht, fdiv_ii ht ht2]
/-- what is mixed into the bag's number by a lesser cell -/
def mixC (m c : Int) : Int := (m * 43889 + c % 1000639 * 773 + 31) % 2147483587
def mixD (m k : Int) : Int := (m ^ 3 + m * 47111 + k * 110323 + 60089) % 2147483549
def outD (m : Int) : Int := m / 71 + m % 8017 * 59
theorem draw_b {cs : List Int} {p m k top : Int} (ht : 0 < top) (ht2 : top.natAbs.log2 < 9000) (hp : ¬ p < cs.length) (hm : 0 ≤ m) (hm2 : m < 2147483587) (hk : 0 ≤ k) (hk2 : k < 1000000) :
    G_ldraw [.cell 0, .int top] [bagC cs p 0 m k] = .ok (.int (outD (mixD m (k + 1)) % top)) [bagC cs p 0 (mixD m (k + 1)) (k + 1)] := by
  have p0 : powC m 3 = true := by
    unfold powC
    rw [decide_eq_true (by decide : (0 : Int) ≤ 3), decide_eq_true (by decide : (3 : Int) ≤ 1000000), decide_eq_true (by omega : m.natAbs < 2 ^ 64)] <;> rfl
  have c1 : mulC m 47111 = true := mul_c hm (by omega) (by decide) (by decide)
  have c2 : mulC (k + 1) 110323 = true := mul_c (by omega) (by omega) (by decide) (by decide)
  have q1 : (0 : Int) < 2147483549 := by decide
  have q2 : (0 : Int) < 71 := by decide
  have q3 : (0 : Int) < 8017 := by decide
  have q5 : (71 : Int).natAbs.log2 < 9000 := by decide
  have m1 : 0 ≤ mixD m (k + 1) ∧ mixD m (k + 1) < 2147483549 := ⟨Int.emod_nonneg _ (by decide), Int.emod_lt_of_pos _ (by decide)⟩
  have c3 : mulC (mixD m (k + 1) % 8017) 59 = true := mul_c (Int.emod_nonneg _ (by decide)) (by have := Int.emod_lt_of_pos (mixD m (k + 1)) q3; omega) (by decide) (by decide)
  have z3 : ((3 : Int).toNat) = 3 := rfl
  have z0 : ¬ ((0 : Int) < 0) := by decide
  simp only [G_ldraw, g_ldraw, bagC, runD_ap, List.length_cons, List.length_nil, Nat.reduceAdd, Nat.reduceSub, List.map_cons, List.map_nil, List.replicate_succ, List.replicate_zero, List.cons_append, List.nil_append, seqM_ap, sq_nx, sq_rt, stiM_ap, bnd_ap, bo_ok, op2_ap, op2v_ap, op1_ap, cst_ap, lift_so, ret_ap, pek_ap, lett_ap, pekD, List.getElem?_cons_zero, List.getElem?_cons_succ, ix_l, ix50, ix51, ix52, ix53, ix54, isLst, lstUp, lstAt, lstPut, Option.map_some, add_ii, List.set_cons_zero, List.set_cons_succ, ifS_ap, andM_ap, tst_ap, eq_ii, lt_ii, gt_ii, ge_ii, len_l, asBl_b, bf_t, bf_f, bf_d, if_true, if_false, ite_true, ite_false, decide_true, decide_false, setM_ap, put_ap, skp_ap, rtM_ap, ri_rt, int_i, abs_i, ixN50, ixN51, ixN52, ixN53, ixN54, hp, z0, List.length_map, pow_ii p0, mul_ii c1, mul_ii c2, mod_ii q1, mod_ii q3, fdiv_ii q2 q5, z3]
  rw [← show mixD m (k + 1) = (m ^ 3 + m * 47111 + (k + 1) * 110323 + 60089) % 2147483549 from rfl]
  simp only [runD_ap, List.length_cons, List.length_nil, Nat.reduceAdd, Nat.reduceSub, List.map_cons, List.map_nil, List.replicate_succ, List.replicate_zero, List.cons_append, List.nil_append, seqM_ap, sq_nx, sq_rt, stiM_ap, bnd_ap, bo_ok, op2_ap, op2v_ap, op1_ap, cst_ap, lift_so, ret_ap, pek_ap, lett_ap, pekD, List.getElem?_cons_zero, List.getElem?_cons_succ, ix_l, ix50, ix51, ix52, ix53, ix54, isLst, lstUp, lstAt, lstPut, Option.map_some, add_ii, List.set_cons_zero, List.set_cons_succ, ifS_ap, andM_ap, tst_ap, eq_ii, lt_ii, gt_ii, ge_ii, len_l, asBl_b, bf_t, bf_f, bf_d, if_true, if_false, ite_true, ite_false, decide_true, decide_false, setM_ap, put_ap, skp_ap, rtM_ap, ri_rt, int_i, abs_i, ixN50, ixN51, ixN52, ixN53, ixN54, mul_ii c3, mod_ii ht, mod_ii q3, fdiv_ii q2 q5]
  rfl
theorem draw_c {cs : List Int} {p m k top c : Int} (ht : 0 < top) (ht2 : top.natAbs.log2 < 9000) (hp : p < cs.length) (hc : L2.atI (cs.map D.int) p = some (.int c)) (hA : ¬ (10 : Int) ^ 18 ≤ (if c < 0 then -c else c)) (hm : 0 ≤ m) (hm2 : m < 2147483587) (hk : 0 ≤ k) (hk2 : k < 1000000) :
    G_ldraw [.cell 0, .int top] [bagC cs p 0 m k] = .ok (.int (outD (mixD (mixC m c) (k + 1)) % top)) [bagC cs (p + 1) 0 (mixD (mixC m c) (k + 1)) (k + 1)] := by
  have a1 : 0 ≤ mixC m c ∧ mixC m c < 2147483587 := ⟨Int.emod_nonneg _ (by decide), Int.emod_lt_of_pos _ (by decide)⟩
  have p0 : powC (mixC m c) 3 = true := by
    unfold powC
    rw [decide_eq_true (by decide : (0 : Int) ≤ 3), decide_eq_true (by decide : (3 : Int) ≤ 1000000), decide_eq_true (by omega : (mixC m c).natAbs < 2 ^ 64)] <;> rfl
  have p1 : powC 10 18 = true := by decide
  have c1 : mulC (mixC m c) 47111 = true := mul_c a1.1 (by omega) (by decide) (by decide)
  have c2 : mulC (k + 1) 110323 = true := mul_c (by omega) (by omega) (by decide) (by decide)
  have c4 : mulC m 43889 = true := mul_c hm (by omega) (by decide) (by decide)
  have q1 : (0 : Int) < 2147483549 := by decide
  have q2 : (0 : Int) < 71 := by decide
  have q3 : (0 : Int) < 8017 := by decide
  have q4 : (0 : Int) < 1000639 := by decide
  have q6 : (0 : Int) < 2147483587 := by decide
  have q5 : (71 : Int).natAbs.log2 < 9000 := by decide
  have c5 : mulC (c % 1000639) 773 = true := mul_c (Int.emod_nonneg _ (by decide)) (by have := Int.emod_lt_of_pos c q4; omega) (by decide) (by decide)
  have m1 : 0 ≤ mixD (mixC m c) (k + 1) ∧ mixD (mixC m c) (k + 1) < 2147483549 := ⟨Int.emod_nonneg _ (by decide), Int.emod_lt_of_pos _ (by decide)⟩
  have c3 : mulC (mixD (mixC m c) (k + 1) % 8017) 59 = true := mul_c (Int.emod_nonneg _ (by decide)) (by have := Int.emod_lt_of_pos (mixD (mixC m c) (k + 1)) q3; omega) (by decide) (by decide)
  have z3 : ((3 : Int).toNat) = 3 := rfl
  have z18 : ((18 : Int).toNat) = 18 := rfl
  have z0 : ¬ ((0 : Int) < 0) := by decide
  simp only [G_ldraw, g_ldraw, bagC, runD_ap, List.length_cons, List.length_nil, Nat.reduceAdd, Nat.reduceSub, List.map_cons, List.map_nil, List.replicate_succ, List.replicate_zero, List.cons_append, List.nil_append, seqM_ap, sq_nx, sq_rt, stiM_ap, bnd_ap, bo_ok, op2_ap, op2v_ap, op1_ap, cst_ap, lift_so, ret_ap, pek_ap, lett_ap, pekD, List.getElem?_cons_zero, List.getElem?_cons_succ, ix_l, ix50, ix51, ix52, ix53, ix54, isLst, lstUp, lstAt, lstPut, Option.map_some, add_ii, List.set_cons_zero, List.set_cons_succ, ifS_ap, andM_ap, tst_ap, eq_ii, lt_ii, gt_ii, ge_ii, len_l, asBl_b, bf_t, bf_f, bf_d, if_true, if_false, ite_true, ite_false, decide_true, decide_false, setM_ap, put_ap, skp_ap, rtM_ap, ri_rt, int_i, abs_i, ixN50, ixN51, ixN52, ixN53, ixN54, hp, z0, List.length_map, hc, pow_ii p1, z18, hA, mul_ii c4, mul_ii c5, mod_ii q4, mod_ii q6]
  rw [← show mixC m c = (m * 43889 + c % 1000639 * 773 + 31) % 2147483587 from rfl]
  simp only [runD_ap, List.length_cons, List.length_nil, Nat.reduceAdd, Nat.reduceSub, List.map_cons, List.map_nil, List.replicate_succ, List.replicate_zero, List.cons_append, List.nil_append, seqM_ap, sq_nx, sq_rt, stiM_ap, bnd_ap, bo_ok, op2_ap, op2v_ap, op1_ap, cst_ap, lift_so, ret_ap, pek_ap, lett_ap, pekD, List.getElem?_cons_zero, List.getElem?_cons_succ, ix_l, ix50, ix51, ix52, ix53, ix54, isLst, lstUp, lstAt, lstPut, Option.map_some, add_ii, List.set_cons_zero, List.set_cons_succ, ifS_ap, andM_ap, tst_ap, eq_ii, lt_ii, gt_ii, ge_ii, len_l, asBl_b, bf_t, bf_f, bf_d, if_true, if_false, ite_true, ite_false, decide_true, decide_false, setM_ap, put_ap, skp_ap, rtM_ap, ri_rt, int_i, abs_i, ixN50, ixN51, ixN52, ixN53, ixN54, pow_ii p0, mul_ii c1, mul_ii c2, mod_ii q1, z3, z0]
  rw [← show mixD (mixC m c) (k + 1) = (mixC m c ^ 3 + mixC m c * 47111 + (k + 1) * 110323 + 60089) % 2147483549 from rfl]
  simp only [runD_ap, List.length_cons, List.length_nil, Nat.reduceAdd, Nat.reduceSub, List.map_cons, List.map_nil, List.replicate_succ, List.replicate_zero, List.cons_append, List.nil_append, seqM_ap, sq_nx, sq_rt, stiM_ap, bnd_ap, bo_ok, op2_ap, op2v_ap, op1_ap, cst_ap, lift_so, ret_ap, pek_ap, lett_ap, pekD, List.getElem?_cons_zero, List.getElem?_cons_succ, ix_l, ix50, ix51, ix52, ix53, ix54, isLst, lstUp, lstAt, lstPut, Option.map_some, add_ii, List.set_cons_zero, List.set_cons_succ, ifS_ap, andM_ap, tst_ap, eq_ii, lt_ii, gt_ii, ge_ii, len_l, asBl_b, bf_t, bf_f, bf_d, if_true, if_false, ite_true, ite_false, decide_true, decide_false, setM_ap, put_ap, skp_ap, rtM_ap, ri_rt, int_i, abs_i, ixN50, ixN51, ixN52, ixN53, ixN54, mul_ii c3, mod_ii ht, mod_ii q3, fdiv_ii q2 q5]
  rfl
theorem draw_d {cs : List Int} {p m k top c : Int} (ht : 0 < top) (ht2 : top.natAbs.log2 < 9000) (hp : p < cs.length) (hc : L2.atI (cs.map D.int) p = some (.int c)) (hA : (10 : Int) ^ 18 ≤ (if c < 0 then -c else c)) :
    G_ldraw [.cell 0, .int top] [bagC cs p 0 m k] = .ok (.int ((if c < 0 then -c else c) % top)) [bagC cs (p + 1) ((if c < 0 then -c else c) / top) m (k + 1)] := by
  have p1 : powC 10 18 = true := by decide
  have z18 : ((18 : Int).toNat) = 18 := rfl
  generalize hB : (if c < 0 then -c else c) = B at hA ⊢
  have hB0 : 0 < B := Int.lt_of_lt_of_le (by decide) hA
  simp only [G_ldraw, g_ldraw, bagC, runD_ap, List.length_cons, List.length_nil, Nat.reduceAdd, Nat.reduceSub, List.map_cons, List.map_nil, List.replicate_succ, List.replicate_zero, List.cons_append, List.nil_append, seqM_ap, sq_nx, sq_rt, stiM_ap, bnd_ap, bo_ok, op2_ap, op2v_ap, op1_ap, cst_ap, lift_so, ret_ap, pek_ap, lett_ap, pekD, List.getElem?_cons_zero, List.getElem?_cons_succ, ix_l, ix50, ix51, ix52, ix53, ix54, isLst, lstUp, lstAt, lstPut, Option.map_some, add_ii, List.set_cons_zero, List.set_cons_succ, ifS_ap, andM_ap, tst_ap, eq_ii, lt_ii, gt_ii, ge_ii, len_l, asBl_b, bf_t, bf_f, bf_d, if_true, if_false, ite_true, ite_false, decide_true, decide_false, setM_ap, put_ap, skp_ap, rtM_ap, ri_rt, int_i, abs_i, ixN50, ixN51, ixN52, ixN53, ixN54, hp, List.length_map, hc, pow_ii p1, z18, hB, hA, hB0, mod_ii ht, fdiv_ii ht ht2]
/-- what holds of the bag after at most n draws -/
def Bag (n : Int) (μ : Sto) : Prop := ∃ (cs : List Int) (p r m k : Int), μ = [bagC cs p r m k] ∧ 0 ≤ p ∧ 0 ≤ r ∧ 0 ≤ m ∧ m < 2147483587 ∧ 0 ≤ k ∧ k ≤ n
theorem draw_ok {n top : Int} {μ : Sto} (B : Bag n μ) (hn : n < 1000000) (ht : 0 < top) (ht2 : top.natAbs.log2 < 9000) : ∃ d μ', G_ldraw [.cell 0, .int top] μ = .ok (.int d) μ' ∧ 0 ≤ d ∧ d < top ∧ Bag (n + 1) μ' := by
  obtain ⟨cs, p, r, m, k, rfl, h1, h2, h3, h4, h5, h6⟩ := B
  have out : ∀ x : Int, 0 ≤ x % top ∧ x % top < top := fun x => ⟨Int.emod_nonneg _ (by omega), Int.emod_lt_of_pos _ ht⟩
  have mD : ∀ x y : Int, 0 ≤ mixD x y ∧ mixD x y < 2147483587 := fun x y => ⟨Int.emod_nonneg _ (by decide), Int.lt_of_lt_of_le (Int.emod_lt_of_pos _ (by decide)) (by decide)⟩
  by_cases hr : 0 < r
  · exact ⟨_, _, draw_a ht ht2 hr, (out _).1, (out _).2, cs, p, r / top, m, k + 1, rfl, h1, Int.ediv_nonneg h2 (by omega), h3, h4, by omega, by omega⟩
  · have er : r = 0 := by omega
    subst er
    by_cases hp : p < cs.length
    · have hl : p.toNat < cs.length := by omega
      have hc : L2.atI (cs.map D.int) p = some (.int cs[p.toNat]) := atI_nat h1 (by rw [List.getElem?_map, List.getElem?_eq_getElem hl] <;> rfl)
      by_cases hA : (10 : Int) ^ 18 ≤ (if cs[p.toNat] < 0 then -cs[p.toNat] else cs[p.toNat])
      · exact ⟨_, _, draw_d ht ht2 hp hc hA, (out _).1, (out _).2, cs, p + 1, _, m, k + 1, rfl, by omega, Int.ediv_nonneg (Int.le_trans (by decide) hA) (by omega), h3, h4, by omega, by omega⟩
      · exact ⟨_, _, draw_c ht ht2 hp hc hA h3 h4 h5 (by omega), (out _).1, (out _).2, cs, p + 1, 0, _, k + 1, rfl, by omega, by omega, (mD _ _).1, (mD _ _).2, by omega, by omega⟩
    · exact ⟨_, _, draw_b ht ht2 hp h3 h4 h5 (by omega), (out _).1, (out _).2, cs, p, 0, _, k + 1, rfl, h1, by omega, (mD _ _).1, (mD _ _).2, by omega, by omega⟩
end L2.DL.K01

namespace L2.DL.K01
open PySem PySem.Spec PyProof.Rows
/-- trees that _law_same tells to be the same as themselves -/
inductive Sm : Nat → D → Prop
  | non (n : Nat) : Sm (n + 1) .non
  | bl (n : Nat) (b : Bool) : Sm (n + 1) (.bl b)
  | int (n : Nat) (i : Int) : Sm (n + 1) (.int i)
  | str (n : Nat) (s : Str) : Sm (n + 1) (.str s)
  | dct (n : Nat) {ks : List Key} {vs : List D} (h : ks.Nodup) (e : samesS vs vs = true) : Sm (n + 1) (.dct ks vs)
  | tup (n : Nat) {ds : List D} (hl : ds.length ≤ 1000) (h : ∀ d ∈ ds, Sm n d) : Sm (n + 1) (.tup ds)
  | lst (n : Nat) {ds : List D} (hl : ds.length ≤ 1000) (h : ∀ d ∈ ds, Sm n d) : Sm (n + 1) (.lst ds)
theorem Sm.up {n : Nat} {d : D} (h : Sm n d) : Sm (n + 1) d := by
  induction h with
  | non n => exact .non _
  | bl n b => exact .bl _ b
  | int n i => exact .int _ i
  | str n s => exact .str _ s
  | dct n h e => exact .dct _ h e
  | tup n hl _ ih => exact .tup _ hl ih
  | lst n hl _ ih => exact .lst _ hl ih
theorem lc_same {G : Fn} {μ : Sto} {a b : Option Ent} : ∀ (ds acc : List D), (∀ d ∈ ds, G [d, d] μ = .ok (.bl true) μ) → acc.length + ds.length < lineN →
    lcGo [2, 3] (tgT 2 (tgCons (tgN 2) (tgCons (tgN 3) tgNil))) (ret true) (calM G (acons (lett 2) (acons (lett 3) anil))) (zipL ds ds) acc [a, b, none, none] μ = .ok (acc ++ List.replicate ds.length (.bl true)) [a, b, none, none] μ
  | [], acc, _, _ => by
    show O.ok acc _ _ = _
    rw [List.length_nil, List.replicate_zero, List.append_nil]
  | d :: ds, acc, h, hl => by
    have e1 := h d List.mem_cons_self
    have ih := lc_same (a := a) (b := b) ds (acc ++ [.bl true]) (fun x hx => h x (List.mem_cons_of_mem _ hx)) (by rw [List.length_append, List.length_singleton]; rw [List.length_cons] at hl; omega)
    have hacc : acc.length < lineN := by rw [List.length_cons] at hl; omega
    have e2 : calM G (acons (lett 2) (acons (lett 3) anil)) [a, b, some (.sh d), some (.sh d)] μ = .ok (.bl true) [a, b, some (.sh d), some (.sh d)] μ := by
      simp only [runD_ap, List.length_cons, List.length_nil, Nat.reduceAdd, Nat.reduceSub, List.map_cons, List.map_nil, List.replicate_succ, List.replicate_zero, List.cons_append, List.nil_append, seqM_ap, sq_nx, sq_rt, stiM_ap, bnd_ap, bo_ok, op2_ap, op2v_ap, op1_ap, cst_ap, lift_so, ret_ap, pek_ap, lett_ap, pekD, List.getElem?_cons_zero, List.getElem?_cons_succ, ix_l, ix50, ix51, ix52, ix53, ix54, isLst, lstUp, lstAt, lstPut, Option.map_some, add_ii, List.set_cons_zero, List.set_cons_succ, ifS_ap, andM_ap, tst_ap, eq_ii, lt_ii, gt_ii, ge_ii, len_l, asBl_b, bf_t, bf_f, bf_d, if_true, if_false, ite_true, ite_false, decide_true, decide_false, setM_ap, put_ap, skp_ap, rtM_ap, ri_rt, int_i, abs_i, ixN50, ixN51, ixN52, ixN53, ixN54, calM_ap, acons_ap, anil_ap, e1, rb_ok]
    have e3 : zipL (d :: ds) (d :: ds) = .tup [d, d] :: zipL ds ds := rfl
    have e4 : tgT 2 (tgCons (tgN 2) (tgCons (tgN 3) tgNil)) (.tup [d, d]) [a, b, none, none] μ = .ok () [a, b, some (.sh d), some (.sh d)] μ := rfl
    rw [e3]
    unfold lcGo
    simp only [e4, ret_ap, e2, hacc, if_true]
    have e5 : wipD [a, b, some (.sh d), some (.sh d)] [2, 3] = [a, b, none, none] := rfl
    rw [e5, ih, List.append_assoc, List.length_cons, List.replicate_succ] <;> rfl
theorem all_true : ∀ n : Nat, allD (.lst (List.replicate n (.bl true))) = some (.bl true) := fun n => by
  have h : ∀ n : Nat, blsOf (List.replicate n (.bl true)) = some (List.replicate n true) := fun n => by
    induction n with
    | zero => rfl
    | succ n ih =>
      rw [List.replicate_succ, List.replicate_succ]
      show (blsOf (List.replicate n (D.bl true))).map (true :: ·) = _
      rw [ih] <;> rfl
  show (blsOf (List.replicate n (D.bl true))).map _ = _
  rw [h n]
  show some (D.bl _) = _
  congr 2
  rw [List.all_eq_true]
  intro x hx
  exact List.eq_of_mem_replicate hx
theorem same_seq {G : Fn} {μ : Sto} {ds : List D} (mk : List D → D) (hmk : mk = D.tup ∨ mk = D.lst) (hl : ds.length ≤ 1000) (h : ∀ d ∈ ds, G [d, d] μ = .ok (.bl true) μ) : runD 2 4 (g_lsame G) [mk ds, mk ds] μ = .ok (.bl true) μ := by
  have lc := lc_same (a := some (.sh (mk ds))) (b := some (.sh (mk ds))) ds [] h (by show 0 + ds.length < 16777216; omega)
  have z : zipD [mk ds, mk ds] = some (zipL ds ds) := by rcases hmk with rfl | rfl <;> rfl
  have i1 : isiD ["list", "tuple"] (mk ds) = some (.bl true) := by rcases hmk with rfl | rfl <;> rfl
  have i2 : ∃ k, isiD ["list"] (mk ds) = some (.bl k) := by rcases hmk with rfl | rfl <;> exact ⟨_, rfl⟩
  have i3 : ∃ k, isiD ["tuple"] (mk ds) = some (.bl k) := by rcases hmk with rfl | rfl <;> exact ⟨_, rfl⟩
  obtain ⟨k2, i2⟩ := i2
  obtain ⟨k3, i3⟩ := i3
  have n2 : neD (.bl k2) (.bl k2) = some (.bl false) := by rw [ne_bb, decide_eq_true rfl] <;> rfl
  have n3 : neD (.bl k3) (.bl k3) = some (.bl false) := by rw [ne_bb, decide_eq_true rfl] <;> rfl
  have ln : lenD (mk ds) = some (.int ds.length) := by rcases hmk with rfl | rfl <;> rfl
  have pk : pekD (mk ds) μ = some (mk ds) := by rcases hmk with rfl | rfl <;> rfl
  have lcA : lcAll [2, 3] (tgT 2 (tgCons (tgN 2) (tgCons (tgN 3) tgNil))) (ret true) (calM G (acons (lett 2) (acons (lett 3) anil))) (zipL ds ds) [some (.sh (mk ds)), some (.sh (mk ds)), none, none] μ = .ok (.lst (List.replicate ds.length (.bl true))) [some (.sh (mk ds)), some (.sh (mk ds)), none, none] μ := by
    unfold lcAll
    have e5 : wipD [some (.sh (mk ds)), some (.sh (mk ds)), none, none] [2, 3] = [some (.sh (mk ds)), some (.sh (mk ds)), none, none] := rfl
    rw [e5, lc]
    show O.ok (D.lst ([] ++ List.replicate ds.length (.bl true))) _ μ = _
    rw [List.nil_append] <;> rfl
  simp only [g_lsame, runD_ap, List.length_cons, List.length_nil, Nat.reduceAdd, Nat.reduceSub, List.map_cons, List.map_nil, List.replicate_succ, List.replicate_zero, List.cons_append, List.nil_append, seqM_ap, sq_nx, sq_rt, stiM_ap, bnd_ap, bo_ok, op2_ap, op2v_ap, op1_ap, cst_ap, lift_so, ret_ap, pek_ap, lett_ap, List.getElem?_cons_zero, List.getElem?_cons_succ, ix_l, ix50, ix51, ix52, ix53, ix54, isLst, lstUp, lstAt, lstPut, Option.map_some, add_ii, List.set_cons_zero, List.set_cons_succ, ifS_ap, andM_ap, tst_ap, eq_ii, lt_ii, gt_ii, ge_ii, len_l, asBl_b, bf_t, bf_f, bf_d, if_true, if_false, ite_true, ite_false, decide_true, decide_false, setM_ap, put_ap, skp_ap, rtM_ap, ri_rt, int_i, abs_i, ixN50, ixN51, ixN52, ixN53, ixN54, pk, i1, i2, i3, n2, n3, orM_ap, tru_ap, tru_b, eq_ii, ln, andV_ap, zipM_ap, acons_ap, anil_ap, lcM_ap, z, lcA, all_true]
theorem same_ok {μ : Sto} : ∀ {n : Nat} {d : D}, Sm n d → GN_lsame n [d, d] μ = .ok (.bl true) μ := by
  intro n d h
  induction h with
  | non n => rfl
  | bl n b =>
    have e : GN_lsame (n + 1) [.bl b, .bl b] μ = .ok (.bl (decide (b = b))) μ := rfl
    rw [e, decide_eq_true rfl]
  | int n i =>
    have e : GN_lsame (n + 1) [.int i, .int i] μ = .ok (.bl (decide (i = i))) μ := rfl
    rw [e, decide_eq_true rfl]
  | str n s =>
    have e : GN_lsame (n + 1) [.str s, .str s] μ = .ok (.bl (decide (s = s))) μ := rfl
    rw [e, decide_eq_true rfl]
  | @dct n ks vs h e =>
    have q : eqQ (.dct ks vs) (.dct ks vs) = some (.bl true) := by
      show (eqD (.dct ks vs) (.dct ks vs)).or (dctT (.dct ks vs) (.dct ks vs)) = _
      have e1 : eqD (.dct ks vs) (.dct ks vs) = none := rfl
      have e2 : dctT (.dct ks vs) (.dct ks vs) = some (.bl true) := if_pos ⟨rfl, h, e⟩
      rw [e1, e2] <;> rfl
    have i1 : ∀ x ∈ [["list", "tuple"], ["bool"], ["int"], ["str"]], isiD x (.dct ks vs) = some (.bl false) := by
      intro x hx
      simp only [List.mem_cons, List.not_mem_nil, or_false] at hx
      rcases hx with rfl | rfl | rfl | rfl <;> rfl
    have j1 := i1 ["list", "tuple"] (by simp)
    have j2 := i1 ["bool"] (by simp)
    have j3 := i1 ["int"] (by simp)
    have j4 := i1 ["str"] (by simp)
    have nn : isND false (.dct ks vs) .non = some (.bl false) := rfl
    show runD 2 4 (g_lsame (GN_lsame n)) _ μ = _
    simp only [g_lsame, runD_ap, List.length_cons, List.length_nil, Nat.reduceAdd, Nat.reduceSub, List.map_cons, List.map_nil, List.replicate_succ, List.replicate_zero, List.cons_append, List.nil_append, seqM_ap, sq_nx, sq_rt, stiM_ap, bnd_ap, bo_ok, op2_ap, op2v_ap, op1_ap, cst_ap, lift_so, ret_ap, pek_ap, lett_ap, pekD, List.getElem?_cons_zero, List.getElem?_cons_succ, ix_l, ix50, ix51, ix52, ix53, ix54, isLst, lstUp, lstAt, lstPut, Option.map_some, add_ii, List.set_cons_zero, List.set_cons_succ, ifS_ap, andM_ap, tst_ap, eq_ii, lt_ii, gt_ii, ge_ii, len_l, asBl_b, bf_t, bf_f, bf_d, if_true, if_false, ite_true, ite_false, decide_true, decide_false, setM_ap, put_ap, skp_ap, rtM_ap, ri_rt, int_i, abs_i, ixN50, ixN51, ixN52, ixN53, ixN54, j1, j2, j3, j4, orM_ap, tru_ap, tru_b, nn, q]
  | @tup n ds hl _ ih => exact same_seq D.tup (.inl rfl) hl ih
  | @lst n ds hl _ ih => exact same_seq D.lst (.inr rfl) hl ih
end L2.DL.K01

namespace L2.DL.K01
open PySem PySem.Spec PyProof.Rows
def words : List Str := ["keys", "moments", "rules", "items", "digits", "scripts", "nodes", "edges", "standings", "price keys", "price rows", "more", "unread", "names", "deeds"]
def lims : List Int := [12, 60, 40, 6, 30, 5, 30, 60, 400, 5, 6, 5, 10, 20, 60]
def lim (s : Str) : Int := ((words.zip lims).lookup s).getD 0
theorem limit_known {s : Str} {μ : Sto} (h : s ∈ words) : G_limit_of [.str s] μ = .ok (.int (lim s)) μ := by
  simp only [words, List.mem_cons, List.not_mem_nil, or_false] at h
  rcases h with rfl | rfl | rfl | rfl | rfl | rfl | rfl | rfl | rfl | rfl | rfl | rfl | rfl | rfl | rfl <;> rfl
theorem any_str (s : Str) : ∀ ws : List Str, ((ws.map D.str).any fun d => eqF d (.str s)) = decide (s ∈ ws)
  | [] => by simp
  | w :: ws => by
    have ih := any_str s ws
    rw [List.map_cons, List.any_cons, ih]
    by_cases h : w = s
    · subst h
      simp [eqF]
    · have e : eqF (D.str w) (D.str s) = false := by
        show (w == s) = false
        simpa using h
      rw [e, Bool.false_or]
      have : (s ∈ w :: ws) ↔ s ∈ ws := by
        rw [List.mem_cons]
        exact ⟨fun z => z.elim (fun z => (h z.symm).elim) id, .inr⟩
      simp only [this]
theorem in_words (s : Str) (ws : List Str) : inD (.str s) (.tup (ws.map D.str)) = some (.bl (decide (s ∈ ws))) := by
  have f : (flatD (D.str s) && (ws.map D.str).all flatD) = true := by
    rw [show flatD (D.str s) = true from rfl, Bool.true_and, List.all_map, List.all_eq_true]
    exact fun _ _ => rfl
  show (inL false (.str s) (ws.map D.str)).or _ = _
  have e : inL false (.str s) (ws.map D.str) = some (.bl (decide (s ∈ ws))) := by
    unfold inL
    rw [if_pos f, any_str]
    rfl
  rw [e] <;> rfl
theorem nin_words (s : Str) (ws : List Str) : ninD (.str s) (.tup (ws.map D.str)) = some (.bl (!decide (s ∈ ws))) := by
  have f : (flatD (D.str s) && (ws.map D.str).all flatD) = true := by
    rw [show flatD (D.str s) = true from rfl, Bool.true_and, List.all_map, List.all_eq_true]
    exact fun _ _ => rfl
  show (inL true (.str s) (ws.map D.str)).or _ = _
  have e : inL true (.str s) (ws.map D.str) = some (.bl (!decide (s ∈ ws))) := by
    unfold inL
    rw [if_pos f, any_str]
    rfl
  rw [e] <;> rfl
theorem words_c : c_WORDS = .tup (words.map D.str) := rfl
/-- no word of a limit -/
def Unk (v : D) : Prop := (∀ μ, pekD v μ = some v) ∧ (isiD ["str"] v = some (.bl false) ∨ ∃ s, v = .str s ∧ s ∉ words)
theorem limit_unknown {v : D} {μ : Sto} (h : Unk v) : G_limit_of [v] μ = .ex "UnknownName" ["name", "code"] [v, .str "UnknownName"] μ := by
  obtain ⟨pk, h | ⟨s, rfl, h⟩⟩ := h
  · have pk := pk μ
    simp only [G_limit_of, g_limit_of, runD_ap, List.length_cons, List.length_nil, Nat.reduceAdd, Nat.reduceSub, List.map_cons, List.map_nil, List.replicate_succ, List.replicate_zero, List.cons_append, List.nil_append, seqM_ap, sq_nx, sq_rt, stiM_ap, bnd_ap, bo_ok, op2_ap, op2v_ap, op1_ap, cst_ap, lift_so, ret_ap, pek_ap, lett_ap, List.getElem?_cons_zero, List.getElem?_cons_succ, ix_l, ix50, ix51, ix52, ix53, ix54, isLst, lstUp, lstAt, lstPut, Option.map_some, add_ii, List.set_cons_zero, List.set_cons_succ, ifS_ap, andM_ap, tst_ap, eq_ii, lt_ii, gt_ii, ge_ii, len_l, asBl_b, bf_t, bf_f, bf_d, if_true, if_false, ite_true, ite_false, decide_true, decide_false, setM_ap, put_ap, skp_ap, rtM_ap, ri_rt, int_i, abs_i, ixN50, ixN51, ixN52, ixN53, ixN54, orM_ap, notM_ap, tru_ap, tru_b, pk, h, Bool.not_false, raiM_ap, acons_ap, anil_ap]
    rfl
  · have pk := pk μ
    have i1 : isiD ["str"] (.str s) = some (.bl true) := rfl
    have n1 : ninD (.str s) c_WORDS = some (.bl true) := by
      rw [words_c, nin_words, decide_eq_false h] <;> rfl
    simp only [G_limit_of, g_limit_of, runD_ap, List.length_cons, List.length_nil, Nat.reduceAdd, Nat.reduceSub, List.map_cons, List.map_nil, List.replicate_succ, List.replicate_zero, List.cons_append, List.nil_append, seqM_ap, sq_nx, sq_rt, stiM_ap, bnd_ap, bo_ok, op2_ap, op2v_ap, op1_ap, cst_ap, lift_so, ret_ap, pek_ap, lett_ap, List.getElem?_cons_zero, List.getElem?_cons_succ, ix_l, ix50, ix51, ix52, ix53, ix54, isLst, lstUp, lstAt, lstPut, Option.map_some, add_ii, List.set_cons_zero, List.set_cons_succ, ifS_ap, andM_ap, tst_ap, eq_ii, lt_ii, gt_ii, ge_ii, len_l, asBl_b, bf_t, bf_f, bf_d, if_true, if_false, ite_true, ite_false, decide_true, decide_false, setM_ap, put_ap, skp_ap, rtM_ap, ri_rt, int_i, abs_i, ixN50, ixN51, ixN52, ixN53, ixN54, orM_ap, notM_ap, tru_ap, tru_b, pk, i1, n1, Bool.not_true, raiM_ap, acons_ap, anil_ap]
    rfl
theorem check_known {s : Str} {n : Int} {μ : Sto} (h : s ∈ words) : G_check_limit [.str s, .int n] μ = if lim s < n then .ex "TooMany" ["count", "what", "code"] [.int n, .str s, .str "TooMany"] μ else .ok .non μ := by
  have e := limit_known (μ := μ) h
  by_cases c : lim s < n
  · rw [if_pos c]
    simp only [G_check_limit, g_check_limit, runD_ap, List.length_cons, List.length_nil, Nat.reduceAdd, Nat.reduceSub, List.map_cons, List.map_nil, List.replicate_succ, List.replicate_zero, List.cons_append, List.nil_append, seqM_ap, sq_nx, sq_rt, stiM_ap, bnd_ap, bo_ok, op2_ap, op2v_ap, op1_ap, cst_ap, lift_so, ret_ap, pek_ap, lett_ap, pekD, List.getElem?_cons_zero, List.getElem?_cons_succ, ix_l, ix50, ix51, ix52, ix53, ix54, isLst, lstUp, lstAt, lstPut, Option.map_some, add_ii, List.set_cons_zero, List.set_cons_succ, ifS_ap, andM_ap, tst_ap, eq_ii, lt_ii, gt_ii, ge_ii, len_l, asBl_b, bf_t, bf_f, bf_d, if_true, if_false, ite_true, ite_false, decide_true, decide_false, setM_ap, put_ap, skp_ap, rtM_ap, ri_rt, int_i, abs_i, ixN50, ixN51, ixN52, ixN53, ixN54, calM_ap, acons_ap, anil_ap, e, rb_ok, c, raiM_ap]
    rfl
  · rw [if_neg c]
    simp only [G_check_limit, g_check_limit, runD_ap, List.length_cons, List.length_nil, Nat.reduceAdd, Nat.reduceSub, List.map_cons, List.map_nil, List.replicate_succ, List.replicate_zero, List.cons_append, List.nil_append, seqM_ap, sq_nx, sq_rt, stiM_ap, bnd_ap, bo_ok, op2_ap, op2v_ap, op1_ap, cst_ap, lift_so, ret_ap, pek_ap, lett_ap, pekD, List.getElem?_cons_zero, List.getElem?_cons_succ, ix_l, ix50, ix51, ix52, ix53, ix54, isLst, lstUp, lstAt, lstPut, Option.map_some, add_ii, List.set_cons_zero, List.set_cons_succ, ifS_ap, andM_ap, tst_ap, eq_ii, lt_ii, gt_ii, ge_ii, len_l, asBl_b, bf_t, bf_f, bf_d, if_true, if_false, ite_true, ite_false, decide_true, decide_false, setM_ap, put_ap, skp_ap, rtM_ap, ri_rt, int_i, abs_i, ixN50, ixN51, ixN52, ixN53, ixN54, calM_ap, acons_ap, anil_ap, e, rb_ok, c, raiM_ap, ri_nx]
theorem check_unknown {v : D} {n : Int} {μ : Sto} (h : Unk v) : G_check_limit [v, .int n] μ = .ex "UnknownName" ["name", "code"] [v, .str "UnknownName"] μ := by
  have e := limit_unknown (μ := μ) h
  simp only [G_check_limit, g_check_limit, runD_ap, List.length_cons, List.length_nil, Nat.reduceAdd, Nat.reduceSub, List.map_cons, List.map_nil, List.replicate_succ, List.replicate_zero, List.cons_append, List.nil_append, seqM_ap, sq_nx, sq_rt, stiM_ap, bnd_ap, bo_ok, op2_ap, op2v_ap, op1_ap, cst_ap, lift_so, ret_ap, pek_ap, lett_ap, pekD, List.getElem?_cons_zero, List.getElem?_cons_succ, ix_l, ix50, ix51, ix52, ix53, ix54, isLst, lstUp, lstAt, lstPut, Option.map_some, add_ii, List.set_cons_zero, List.set_cons_succ, ifS_ap, andM_ap, tst_ap, eq_ii, lt_ii, gt_ii, ge_ii, len_l, asBl_b, bf_t, bf_f, bf_d, if_true, if_false, ite_true, ite_false, decide_true, decide_false, setM_ap, put_ap, skp_ap, rtM_ap, ri_rt, int_i, abs_i, ixN50, ixN51, ixN52, ixN53, ixN54, calM_ap, acons_ap, anil_ap, e, rb_ex, bo_ex]
  rfl
theorem told_known {s : Str} {b : Bool} {μ : Sto} (h : s ∈ words) : G_llimit [.str s, .bl b] μ = .ok (.tup [.str "told", .int (lim s)]) μ := by
  have e := limit_known (μ := μ) h
  have k : pick [0] ([D.str s]) = [D.str s] := rfl
  have mk : mkT [D.str "told", D.int (lim s)] = some (.tup [.str "told", .int (lim s)]) := rfl
  cases b <;> simp only [G_llimit, g_llimit, runD_ap, List.length_cons, List.length_nil, Nat.reduceAdd, Nat.reduceSub, List.map_cons, List.map_nil, List.replicate_succ, List.replicate_zero, List.cons_append, List.nil_append, seqM_ap, sq_nx, sq_rt, stiM_ap, bnd_ap, bo_ok, op2_ap, op2v_ap, op1_ap, cst_ap, lift_so, ret_ap, pek_ap, lett_ap, pekD, List.getElem?_cons_zero, List.getElem?_cons_succ, ix_l, ix50, ix51, ix52, ix53, ix54, isLst, lstUp, lstAt, lstPut, Option.map_some, add_ii, List.set_cons_zero, List.set_cons_succ, ifS_ap, andM_ap, tst_ap, eq_ii, lt_ii, gt_ii, ge_ii, len_l, asBl_b, bf_t, bf_f, bf_d, if_true, if_false, ite_true, ite_false, decide_true, decide_false, setM_ap, put_ap, skp_ap, rtM_ap, ri_rt, int_i, abs_i, ixN50, ixN51, ixN52, ixN53, ixN54, calM_ap, kwA_ap, acons_ap, anil_ap, e, k, rb_ok, tupM_ap, ifM_ap, tru_ap, tru_b, tryM_ap, tr_ok, mk, true_and, and_self, and_true]
theorem told_unknown {v : D} {b : Bool} {μ : Sto} (h : Unk v) : G_llimit [v, .bl b] μ = .ok (.tup [.str "UnknownName", v]) μ := by
  have e := limit_unknown (μ := μ) h
  have k : pick [0] ([v]) = [v] := rfl
  cases b <;> simp only [G_llimit, g_llimit, runD_ap, List.length_cons, List.length_nil, Nat.reduceAdd, Nat.reduceSub, List.map_cons, List.map_nil, List.replicate_succ, List.replicate_zero, List.cons_append, List.nil_append, seqM_ap, sq_nx, sq_rt, stiM_ap, bnd_ap, bo_ok, op2_ap, op2v_ap, op1_ap, cst_ap, lift_so, ret_ap, pek_ap, lett_ap, pekD, List.getElem?_cons_zero, List.getElem?_cons_succ, ix_l, ix50, ix51, ix52, ix53, ix54, isLst, lstUp, lstAt, lstPut, Option.map_some, add_ii, List.set_cons_zero, List.set_cons_succ, ifS_ap, andM_ap, tst_ap, eq_ii, lt_ii, gt_ii, ge_ii, len_l, asBl_b, bf_t, bf_f, bf_d, if_true, if_false, ite_true, ite_false, decide_true, decide_false, setM_ap, put_ap, skp_ap, rtM_ap, ri_rt, int_i, abs_i, ixN50, ixN51, ixN52, ixN53, ixN54, calM_ap, kwA_ap, acons_ap, anil_ap, e, k, rb_ex, bo_ex, tupM_ap, ifM_ap, tru_ap, tru_b, tryM_ap, tr_ex, true_and, and_self, and_true] <;> rfl
theorem chk_let {s : Str} {n : Int} {b : Bool} {μ : Sto} (h : s ∈ words) (hn : n ≤ lim s) : G_lchecked [.str s, .int n, .bl b] μ = .ok (.tup [.str "let", .non]) μ := by
  have e := check_known (μ := μ) (n := n) h
  rw [if_neg (by omega)] at e
  have k : pick [1, 0] ([D.int n, D.str s]) = [D.str s, D.int n] := rfl
  have mk : mkT [D.str "let", D.non] = some (.tup [.str "let", .non]) := rfl
  cases b <;> simp only [G_lchecked, g_lchecked, runD_ap, List.length_cons, List.length_nil, Nat.reduceAdd, Nat.reduceSub, List.map_cons, List.map_nil, List.replicate_succ, List.replicate_zero, List.cons_append, List.nil_append, seqM_ap, sq_nx, sq_rt, stiM_ap, bnd_ap, bo_ok, op2_ap, op2v_ap, op1_ap, cst_ap, lift_so, ret_ap, pek_ap, lett_ap, pekD, List.getElem?_cons_zero, List.getElem?_cons_succ, ix_l, ix50, ix51, ix52, ix53, ix54, isLst, lstUp, lstAt, lstPut, Option.map_some, add_ii, List.set_cons_zero, List.set_cons_succ, ifS_ap, andM_ap, tst_ap, eq_ii, lt_ii, gt_ii, ge_ii, len_l, asBl_b, bf_t, bf_f, bf_d, if_true, if_false, ite_true, ite_false, decide_true, decide_false, setM_ap, put_ap, skp_ap, rtM_ap, ri_rt, int_i, abs_i, ixN50, ixN51, ixN52, ixN53, ixN54, calM_ap, kwA_ap, acons_ap, anil_ap, e, k, rb_ok, tupM_ap, ifM_ap, tru_ap, tru_b, tryM_ap, tr_ok, mk, true_and, and_self, and_true]
theorem chk_many {s : Str} {n : Int} {b : Bool} {μ : Sto} (h : s ∈ words) (hn : ¬ n ≤ lim s) : G_lchecked [.str s, .int n, .bl b] μ = .ok (.tup [.str "TooMany", .str s, .int n]) μ := by
  have e := check_known (μ := μ) (n := n) h
  rw [if_pos (by omega)] at e
  have k : pick [1, 0] ([D.int n, D.str s]) = [D.str s, D.int n] := rfl
  cases b <;> simp only [G_lchecked, g_lchecked, runD_ap, List.length_cons, List.length_nil, Nat.reduceAdd, Nat.reduceSub, List.map_cons, List.map_nil, List.replicate_succ, List.replicate_zero, List.cons_append, List.nil_append, seqM_ap, sq_nx, sq_rt, stiM_ap, bnd_ap, bo_ok, op2_ap, op2v_ap, op1_ap, cst_ap, lift_so, ret_ap, pek_ap, lett_ap, pekD, List.getElem?_cons_zero, List.getElem?_cons_succ, ix_l, ix50, ix51, ix52, ix53, ix54, isLst, lstUp, lstAt, lstPut, Option.map_some, add_ii, List.set_cons_zero, List.set_cons_succ, ifS_ap, andM_ap, tst_ap, eq_ii, lt_ii, gt_ii, ge_ii, len_l, asBl_b, bf_t, bf_f, bf_d, if_true, if_false, ite_true, ite_false, decide_true, decide_false, setM_ap, put_ap, skp_ap, rtM_ap, ri_rt, int_i, abs_i, ixN50, ixN51, ixN52, ixN53, ixN54, calM_ap, kwA_ap, acons_ap, anil_ap, e, k, rb_ex, bo_ex, tupM_ap, ifM_ap, tru_ap, tru_b, tryM_ap, tr_ex, true_and, and_self, and_true] <;> rfl
theorem chk_unknown {v : D} {n : Int} {b : Bool} {μ : Sto} (h : Unk v) : G_lchecked [v, .int n, .bl b] μ = .ok (.tup [.str "UnknownName", v]) μ := by
  have e := check_unknown (μ := μ) (n := n) h
  have k : pick [1, 0] ([D.int n, v]) = [v, D.int n] := rfl
  cases b <;> simp only [G_lchecked, g_lchecked, runD_ap, List.length_cons, List.length_nil, Nat.reduceAdd, Nat.reduceSub, List.map_cons, List.map_nil, List.replicate_succ, List.replicate_zero, List.cons_append, List.nil_append, seqM_ap, sq_nx, sq_rt, stiM_ap, bnd_ap, bo_ok, op2_ap, op2v_ap, op1_ap, cst_ap, lift_so, ret_ap, pek_ap, lett_ap, pekD, List.getElem?_cons_zero, List.getElem?_cons_succ, ix_l, ix50, ix51, ix52, ix53, ix54, isLst, lstUp, lstAt, lstPut, Option.map_some, add_ii, List.set_cons_zero, List.set_cons_succ, ifS_ap, andM_ap, tst_ap, eq_ii, lt_ii, gt_ii, ge_ii, len_l, asBl_b, bf_t, bf_f, bf_d, if_true, if_false, ite_true, ite_false, decide_true, decide_false, setM_ap, put_ap, skp_ap, rtM_ap, ri_rt, int_i, abs_i, ixN50, ixN51, ixN52, ixN53, ixN54, calM_ap, kwA_ap, acons_ap, anil_ap, e, k, rb_ex, bo_ex, tupM_ap, ifM_ap, tru_ap, tru_b, tryM_ap, tr_ex, true_and, and_self, and_true] <;> rfl
end L2.DL.K01

namespace L2.DL.K01
open PySem PySem.Spec PyProof.Rows
/-! ### the values of the menu -/
def okR (d : D) : Bool := match toR d with
  | some p => p.showable && p.leavesShort 13 && decide (p.weight ≤ 1048576) && decide (p.depth ≤ 60)
  | none => false
theorem okR_repr {d : D} (h : okR d = true) : ∃ t, reprD d = some (.str t) := by
  unfold okR at h
  unfold reprD
  cases e : toR d with
  | none => simp only [e] at h; cases h
  | some p =>
    simp only [e] at h ⊢
    exact ⟨_, if_pos h⟩
def smallS (s : Str) : Bool := decide (s.cps.toList.length ≤ 60) && s.cps.toList.all fun c => decide (c < 1114112)
theorem okR_str {s : Str} (h : smallS s = true) : okR (.str s) = true := by
  unfold smallS at h
  rw [Bool.and_eq_true, decide_eq_true_iff] at h
  have l : PyData.leavesShort 13 (.str s) = true := by
    show (s.cps.toList.all fun c => decide (c < 16 ^ 8)) = true
    rw [List.all_eq_true] at h ⊢
    intro c hc
    have := of_decide_eq_true (h.2 c hc)
    exact decide_eq_true (by omega)
  have w : PyData.weight (.str s) ≤ 1048576 := by
    show s.cps.size ≤ _
    have := h.1
    rw [Array.length_toList] at this
    omega
  show (true && PyData.leavesShort 13 (.str s) && decide (PyData.weight (.str s) ≤ 1048576) && decide (PyData.depth (.str s) ≤ 60)) = true
  rw [l, decide_eq_true w] <;> rfl
/-- what the law needs of a value of the menu -/
structure Gd (v : D) : Prop where
  pk : ∀ μ, pekD v μ = some v
  ty : (∃ s, v = .str s) ∨ isiD ["str"] v = some (.bl false)
  sm : Sm 3 v
  rp : ∃ t, reprD v = some (.str t)
theorem gd_str {s : Str} (h : smallS s = true) : Gd (.str s) := ⟨fun _ => rfl, .inl ⟨s, rfl⟩, .str _ s, okR_repr (okR_str h)⟩
theorem small_app {a b : Str} (h1 : a.cps.toList.length + b.cps.toList.length ≤ 60) (h2 : ∀ c ∈ a.cps.toList, c < 1114112) (h3 : ∀ c ∈ b.cps.toList, c < 1114112) : smallS (a ++ b) = true := by
  have e : (a ++ b).cps.toList = a.cps.toList ++ b.cps.toList := by rw [Str.cps_append, Array.toList_append]
  unfold smallS
  rw [e, Bool.and_eq_true, decide_eq_true_iff, List.length_append, List.all_eq_true]
  refine ⟨h1, fun c hc => decide_eq_true ?_⟩
  rcases List.mem_append.mp hc with z | z
  · exact h2 c z
  · exact h3 c z
theorem small_iff {s : Str} : smallS s = true ↔ s.cps.toList.length ≤ 60 ∧ ∀ c ∈ s.cps.toList, c < 1114112 := by
  unfold smallS
  rw [Bool.and_eq_true, decide_eq_true_iff, List.all_eq_true]
  exact ⟨fun h => ⟨h.1, fun c hc => of_decide_eq_true (h.2 c hc)⟩, fun h => ⟨h.1, fun c hc => decide_eq_true (h.2 c hc)⟩⟩
theorem cut_mem {s : Str} {lo hi : Option Int} {c : Nat} (h : c ∈ (cutS s lo hi).cps.toList) : c ∈ s.cps.toList := by
  unfold cutS at h
  rw [List.toList_toArray] at h
  exact List.mem_of_mem_drop (List.mem_of_mem_take h)
theorem cut_len {s : Str} {lo hi : Option Int} : (cutS s lo hi).cps.toList.length ≤ s.cps.toList.length := by
  unfold cutS
  rw [List.toList_toArray, List.length_take, List.length_drop]
  omega
theorem small_rev {s : Str} (h : smallS s = true) : smallS (revS s) = true := by
  rw [small_iff] at h ⊢
  have e : (revS s).cps.toList = (Builtin.Str.strSliceIndices none none (-1) s.length).filterMap (s.cps[·]?) := by unfold revS; rw [List.toList_toArray]
  refine ⟨?_, fun c hc => ?_⟩
  · have := rev_len s
    have e1 : (revS s).length = (revS s).cps.toList.length := by rw [Array.length_toList]; rfl
    have e2 : s.length = s.cps.toList.length := by rw [Array.length_toList]; rfl
    have := h.1
    omega
  · rw [e] at hc
    obtain ⟨i, _, hi⟩ := List.mem_filterMap.mp hc
    exact h.2 c (Array.mem_toList_iff.mpr (Array.mem_of_getElem? hi))
theorem near_all : ∀ s ∈ words, (okR (.tup [.str s]) && okR (.lst [.str s]) && okR (.dct [.inr s] [.int 12]) && okR (.lst (txts (Txt.split s " "))) && (Txt.split s " ").all smallS && decide ((Txt.split s " ").length ≤ 60) &&
    smallS (Txt.upper s) && smallS s && decide (s.cps.toList.length ≤ 12) && decide (0 < s.cps.toList.length)) = true := by decide +kernel
theorem sm_strs {n : Nat} {ss : List Str} : ∀ d ∈ txts ss, Sm (n + 1) d := fun d hd => by
  obtain ⟨s, _, rfl⟩ := List.mem_map.mp hd
  exact .str _ s
def five : List D := [.str "", .str " ", .str "s", .str "S", .str "\n"]
def menu (near far : Str) : List D := [.non, .bl true, .bl false, .int 0, .int 12, .str "", .str "Keys", .str "key", .str "price", .str "prices", .str "KEYS", .str far, .str far, .str (near ++ "s"), .str (" " ++ near), .str (near ++ " "), .str (Txt.upper near), .str (near ++ "\n")] ++
  [.tup [.str near], .lst [.str near], .dct [.inr near] [.int 12], .lst (txts (Txt.split near " ")), .tup [], .lst [], .dct [] [], .tup [.str "price", .str "rows"], .str "rows", .tup (words.map D.str), .lst (words.map D.str), .str (revS far)]
theorem menu_gd {near far : Str} (h : near ∈ words) (hf : smallS far = true) : ∀ v ∈ menu near far, Gd v := by
  have a := near_all near h
  simp only [Bool.and_eq_true, decide_eq_true_eq] at a
  obtain ⟨⟨⟨⟨⟨⟨⟨⟨⟨a1, a2⟩, a3⟩, a4⟩, a5⟩, a6⟩, a7⟩, a8⟩, a9⟩, a10⟩ := a
  have sn := small_iff.mp a8
  have ap1 : ∀ t : Str, t.cps.toList.length ≤ 1 → (∀ c ∈ t.cps.toList, c < 1114112) → Gd (.str (near ++ t)) := fun t h1 h2 => gd_str (small_app (by omega) sn.2 h2)
  have ap2 : ∀ t : Str, t.cps.toList.length ≤ 1 → (∀ c ∈ t.cps.toList, c < 1114112) → Gd (.str (t ++ near)) := fun t h1 h2 => gd_str (small_app (by omega) h2 sn.2)
  have wl : words.length = 15 := rfl
  intro v hv
  simp only [menu, List.mem_append, List.mem_cons, List.not_mem_nil, or_false] at hv
  rcases hv with (rfl | rfl | rfl | rfl | rfl | rfl | rfl | rfl | rfl | rfl | rfl | rfl | rfl | rfl | rfl | rfl | rfl | rfl) | (rfl | rfl | rfl | rfl | rfl | rfl | rfl | rfl | rfl | rfl | rfl | rfl)
  · exact ⟨fun _ => rfl, .inr rfl, .non _, okR_repr (by decide +kernel)⟩
  · exact ⟨fun _ => rfl, .inr rfl, .bl _ _, okR_repr (by decide +kernel)⟩
  · exact ⟨fun _ => rfl, .inr rfl, .bl _ _, okR_repr (by decide +kernel)⟩
  · exact ⟨fun _ => rfl, .inr rfl, .int _ _, okR_repr (by decide +kernel)⟩
  · exact ⟨fun _ => rfl, .inr rfl, .int _ _, okR_repr (by decide +kernel)⟩
  · exact gd_str (by decide +kernel)
  · exact gd_str (by decide +kernel)
  · exact gd_str (by decide +kernel)
  · exact gd_str (by decide +kernel)
  · exact gd_str (by decide +kernel)
  · exact gd_str (by decide +kernel)
  · exact gd_str hf
  · exact gd_str hf
  · exact ap1 "s" (by decide +kernel) (by decide +kernel)
  · exact ap2 " " (by decide +kernel) (by decide +kernel)
  · exact ap1 " " (by decide +kernel) (by decide +kernel)
  · exact gd_str a7
  · exact ap1 "\n" (by decide +kernel) (by decide +kernel)
  · exact ⟨fun _ => rfl, .inr rfl, .tup _ (by simp) (fun d hd => by rw [List.mem_singleton.mp hd]; exact .str _ _), okR_repr a1⟩
  · exact ⟨fun _ => rfl, .inr rfl, .lst _ (by simp) (fun d hd => by rw [List.mem_singleton.mp hd]; exact .str _ _), okR_repr a2⟩
  · exact ⟨fun _ => rfl, .inr rfl, .dct _ (by simp) rfl, okR_repr a3⟩
  · exact ⟨fun _ => rfl, .inr rfl, .lst _ (by unfold txts; rw [List.length_map]; omega) sm_strs, okR_repr a4⟩
  · exact ⟨fun _ => rfl, .inr rfl, .tup _ (by simp) (fun d hd => by cases hd), okR_repr (by decide +kernel)⟩
  · exact ⟨fun _ => rfl, .inr rfl, .lst _ (by simp) (fun d hd => by cases hd), okR_repr (by decide +kernel)⟩
  · exact ⟨fun _ => rfl, .inr rfl, .dct _ (by simp) rfl, okR_repr (by decide +kernel)⟩
  · exact ⟨fun _ => rfl, .inr rfl, .tup _ (by simp) (sm_strs (ss := ["price", "rows"])), okR_repr (by decide +kernel)⟩
  · exact gd_str (by decide +kernel)
  · exact ⟨fun _ => rfl, .inr rfl, .tup _ (by rw [List.length_map, wl]; omega) (sm_strs (ss := words)), okR_repr (by decide +kernel)⟩
  · exact ⟨fun _ => rfl, .inr rfl, .lst _ (by rw [List.length_map, wl]; omega) (sm_strs (ss := words)), okR_repr (by decide +kernel)⟩
  · exact gd_str (small_rev hf)
end L2.DL.K01

namespace L2.DL.K01
open PySem PySem.Spec PyProof.Rows
theorem draw_pick {n : Int} {μ : Sto} {ds : List D} (B : Bag n μ) (hn : n < 1000000) (h0 : 0 < ds.length) (h1 : ds.length ≤ 1000) : ∃ d i μ', d ∈ ds ∧ G_ldraw [.cell 0, .int ds.length] μ = .ok (.int i) μ' ∧ L2.atI ds i = some d ∧ Bag (n + 1) μ' := by
  have lg : (ds.length : Int).natAbs.log2 < 9000 := by
    have : (ds.length : Int).natAbs = ds.length := Int.natAbs_natCast _
    rw [this]
    exact Nat.lt_of_lt_of_le ((Nat.log2_lt (by omega) (k := 10)).mpr (by omega)) (by decide)
  obtain ⟨i, μ', e, i0, i1, B'⟩ := draw_ok (top := ds.length) B hn (by omega) lg
  have hl : i.toNat < ds.length := by omega
  exact ⟨ds[i.toNat], i, μ', List.getElem_mem hl, e, atI_nat i0 (List.getElem?_eq_getElem hl), B'⟩
theorem of_lst {n : Int} {μ : Sto} {ds : List D} (B : Bag n μ) (hn : n < 1000000) (h0 : 0 < ds.length) (h1 : ds.length ≤ 1000) : ∃ d μ', d ∈ ds ∧ G_lof [.cell 0, .lst ds] μ = .ok d μ' ∧ Bag (n + 1) μ' := by
  obtain ⟨d, i, μ', hd, e, ea, B'⟩ := draw_pick B hn h0 h1
  have e2 : G_lof [.cell 0, .lst ds] μ = .ok d μ' := by
    simp only [G_lof, g_lof, runD_ap, List.length_cons, List.length_nil, Nat.reduceAdd, Nat.reduceSub, List.map_cons, List.map_nil, List.replicate_succ, List.replicate_zero, List.cons_append, List.nil_append, seqM_ap, sq_nx, sq_rt, stiM_ap, bnd_ap, bo_ok, op2_ap, op2v_ap, op1_ap, cst_ap, lift_so, ret_ap, pek_ap, lett_ap, pekD, List.getElem?_cons_zero, List.getElem?_cons_succ, ix_l, ix50, ix51, ix52, ix53, ix54, isLst, lstUp, lstAt, lstPut, Option.map_some, add_ii, List.set_cons_zero, List.set_cons_succ, ifS_ap, andM_ap, tst_ap, eq_ii, lt_ii, gt_ii, ge_ii, len_l, asBl_b, bf_t, bf_f, bf_d, if_true, if_false, ite_true, ite_false, decide_true, decide_false, setM_ap, put_ap, skp_ap, rtM_ap, ri_rt, int_i, abs_i, ixN50, ixN51, ixN52, ixN53, ixN54, calM_ap, acons_ap, anil_ap, e, rb_ok, ea]
  exact ⟨d, μ', hd, e2, B'⟩
theorem of_tup {n : Int} {μ : Sto} {ds : List D} (B : Bag n μ) (hn : n < 1000000) (h0 : 0 < ds.length) (h1 : ds.length ≤ 1000) : ∃ d μ', d ∈ ds ∧ G_lof [.cell 0, .tup ds] μ = .ok d μ' ∧ Bag (n + 1) μ' := by
  obtain ⟨d, i, μ', hd, e, ea, B'⟩ := draw_pick B hn h0 h1
  have e2 : G_lof [.cell 0, .tup ds] μ = .ok d μ' := by
    simp only [G_lof, g_lof, runD_ap, List.length_cons, List.length_nil, Nat.reduceAdd, Nat.reduceSub, List.map_cons, List.map_nil, List.replicate_succ, List.replicate_zero, List.cons_append, List.nil_append, seqM_ap, sq_nx, sq_rt, stiM_ap, bnd_ap, bo_ok, op2_ap, op2v_ap, op1_ap, cst_ap, lift_so, ret_ap, pek_ap, lett_ap, pekD, List.getElem?_cons_zero, List.getElem?_cons_succ, ix_l, ix50, ix51, ix52, ix53, ix54, isLst, lstUp, lstAt, lstPut, Option.map_some, add_ii, List.set_cons_zero, List.set_cons_succ, ifS_ap, andM_ap, tst_ap, eq_ii, lt_ii, gt_ii, ge_ii, len_l, asBl_b, bf_t, bf_f, bf_d, if_true, if_false, ite_true, ite_false, decide_true, decide_false, setM_ap, put_ap, skp_ap, rtM_ap, ri_rt, int_i, abs_i, ixN50, ixN51, ixN52, ixN53, ixN54, calM_ap, acons_ap, anil_ap, e, rb_ok, ea, len_t, ix_t]
  exact ⟨d, μ', hd, e2, B'⟩
/-! ### the bag -/
def mixB (x c : Int) : Int := (x * 48271 + c % 1000639 * 883 + 59) % 2147483579
theorem bag_loop {a : D} {μ : Sto} : ∀ (cs : List Int) (x : Int) (t : Option Ent), 0 ≤ x → x < 2147483579 → ∃ y t', 0 ≤ y ∧ y < 2147483579 ∧
    forL (tgN 2) (setM 1 (op2 modD (op1 intD (op2 addD (op2 addD (op2 mulD (lett 1) (cst (.int 48271))) (op2 mulD (op2 modD (op1 intD (pek 2)) (cst (.int 1000639))) (cst (.int 883)))) (cst (.int 59)))) (cst (.int 2147483579)))) (cs.map D.int)
      [some (.sh a), some (.sh (.int x)), t] μ = .ok .nx [some (.sh a), some (.sh (.int y)), t'] μ
  | [], x, t, h0, h1 => ⟨x, t, h0, h1, rfl⟩
  | c :: cs, x, t, h0, h1 => by
    have q4 : (0 : Int) < 1000639 := by decide
    have q6 : (0 : Int) < 2147483579 := by decide
    have c4 : mulC x 48271 = true := mul_c h0 (by omega) (by decide) (by decide)
    have c5 : mulC (c % 1000639) 883 = true := mul_c (Int.emod_nonneg _ (by decide)) (by have := Int.emod_lt_of_pos c q4; omega) (by decide) (by decide)
    have m1 : 0 ≤ mixB x c ∧ mixB x c < 2147483579 := ⟨Int.emod_nonneg _ (by decide), Int.emod_lt_of_pos _ (by decide)⟩
    obtain ⟨y, t', y0, y1, e⟩ := bag_loop cs (mixB x c) (some (.sh (.int c))) m1.1 m1.2
    refine ⟨y, t', y0, y1, ?_⟩
    rw [← e, List.map_cons, forL_cons]
    simp only [runD_ap, List.length_cons, List.length_nil, Nat.reduceAdd, Nat.reduceSub, List.map_cons, List.map_nil, List.replicate_succ, List.replicate_zero, List.cons_append, List.nil_append, seqM_ap, sq_nx, sq_rt, stiM_ap, bnd_ap, bo_ok, op2_ap, op2v_ap, op1_ap, cst_ap, lift_so, ret_ap, pek_ap, lett_ap, pekD, List.getElem?_cons_zero, List.getElem?_cons_succ, ix_l, ix50, ix51, ix52, ix53, ix54, isLst, lstUp, lstAt, lstPut, Option.map_some, add_ii, List.set_cons_zero, List.set_cons_succ, ifS_ap, andM_ap, tst_ap, eq_ii, lt_ii, gt_ii, ge_ii, len_l, asBl_b, bf_t, bf_f, bf_d, if_true, if_false, ite_true, ite_false, decide_true, decide_false, setM_ap, put_ap, skp_ap, rtM_ap, ri_rt, int_i, abs_i, ixN50, ixN51, ixN52, ixN53, ixN54, tgN_ap, mul_ii c4, mul_ii c5, mod_ii q4, mod_ii q6]
    rfl
theorem cut_ints (ns : List Int) (lo hi : OI) : ∃ cs : List Int, cutD (ns.map D.int) lo hi = cs.map D.int := by
  unfold cutD
  rw [List.length_map]
  exact ⟨_, by rw [← List.map_drop, ← List.map_take]⟩
theorem bag_ok (ns : List Int) (h : ns.length ≤ 63) : ∃ (cs : List Int) (m : Int), G_lbag [.frz (ns.map D.int)] [] = .ow (.lst [.lst (cs.map D.int), .int 0, .int 0, .int m, .int 0]) [] ∧ 0 ≤ m ∧ m < 2147483579 := by
  obtain ⟨cs, ec⟩ := cut_ints ns none (some 63)
  obtain ⟨y, t', y0, y1, e⟩ := bag_loop (a := .frz (ns.map D.int)) (μ := []) cs 12039 none (by decide) (by decide)
  have es : slD (.frz (ns.map D.int)) none (some 63) = some (.lst (cs.map D.int)) := by
    show some (D.lst (cutD (ns.map D.int) none (some 63))) = _
    rw [ec]
  have mk : mkL [.lst (cs.map D.int), .int 0, .int 0, .int y, .int 0] = some (.lst [.lst (cs.map D.int), .int 0, .int 0, .int y, .int 0]) := rfl
  have sq : seqD (.lst (cs.map D.int)) = some (cs.map D.int) := rfl
  have ls : listD (.lst (cs.map D.int)) = some (.lst (cs.map D.int)) := rfl
  have ai : asI (.int 63) = some (some 63) := rfl
  refine ⟨cs, y, ?_, y0, y1⟩
  simp only [G_lbag, g_lbag, runD_ap, List.length_cons, List.length_nil, Nat.reduceAdd, Nat.reduceSub, List.map_cons, List.map_nil, List.replicate_succ, List.replicate_zero, List.cons_append, List.nil_append, seqM_ap, sq_nx, sq_rt, stiM_ap, bnd_ap, bo_ok, op2_ap, op2v_ap, op1_ap, cst_ap, lift_so, ret_ap, pek_ap, lett_ap, pekD, List.getElem?_cons_zero, List.getElem?_cons_succ, ix_l, ix50, ix51, ix52, ix53, ix54, isLst, lstUp, lstAt, lstPut, Option.map_some, add_ii, List.set_cons_zero, List.set_cons_succ, ifS_ap, andM_ap, tst_ap, eq_ii, lt_ii, gt_ii, ge_ii, len_l, asBl_b, bf_t, bf_f, bf_d, if_true, if_false, ite_true, ite_false, decide_true, decide_false, setM_ap, put_ap, skp_ap, rtM_ap, ri_rt, int_i, abs_i, ixN50, ixN51, ixN52, ixN53, ixN54, forM_ap, walk_ap, slM_ap, noP_ap, prt_ap, ai, es, sq, e, rtF_ap, lstM_ap, acons_ap, anil_ap, ls, mk, ri_ro]
end L2.DL.K01

namespace L2.DL.K01
open PySem PySem.Spec PyProof.Rows
def b0 : Mo Fl := (setM 5 (calM G_lof (acons (lett 1) (acons (lett 2) anil))))
def b1 : Mo Fl := (setM 6 (op2 addD (op2 addD (slM (lett 5) noP (prt (calM G_ldraw (acons (lett 1) (acons (op1 lenD (pek 5)) anil))))) (calM G_lof (acons (lett 1) (acons (lstM (acons (cst (.str "")) (acons (cst (.str " ")) (acons (cst (.str "s")) (acons (cst (.str "S")) (acons (cst (.str "\n")) anil)))))) anil)))) (slM (lett 5) (prt (calM G_ldraw (acons (lett 1) (acons (op1 lenD (pek 5)) anil)))) noP)))
def b2 : Mo Fl := (setM 7 (lstM (acons (cst .non) (acons (cst (.bl true)) (acons (cst (.bl false)) (acons (cst (.int 0)) (acons (cst (.int 12)) (acons (cst (.str "")) (acons (cst (.str "Keys")) (acons (cst (.str "key")) (acons (cst (.str "price")) (acons (cst (.str "prices")) (acons (cst (.str "KEYS")) (acons (lett 6) (acons (lett 6) (acons (op2 addD (lett 5) (cst (.str "s"))) (acons (op2 addD (cst (.str " ")) (pek 5)) (acons (op2 addD (lett 5) (cst (.str " "))) (acons (met0 upperD (lett 5)) (acons (op2 addD (lett 5) (cst (.str "\n"))) anil))))))))))))))))))))
def b3 : Mo Fl := (setM 7 (op2 addD (lett 7) (lstM (acons (tupM (acons (lett 5) anil)) (acons (lstM (acons (lett 5) anil)) (acons (dspM (((lett 5), (cst (.int 12))) :: [])) (acons (met1 splitD (lett 5) (cst (.str " "))) (acons (tupM anil) (acons (lstM anil) (acons newD (acons (tupM (acons (cst (.str "price")) (acons (cst (.str "rows")) anil))) (acons (cst (.str "rows")) (acons (lett 2) (acons (op1 listD (pek 2)) (acons (op1 revD (lett 6)) anil)))))))))))))))
def b4 : Mo Fl := (setM 8 (ifM (tst (op2 ltA (lett 4) (cst (.int 6)))) (lett 5) (calM G_lof (acons (lett 1) (acons (lett 7) anil)))))
def b5 : Mo Fl := (setM 9 (andV (op1 (isiD ["str"]) (pek 8)) (op2 inD (lett 8) (pek 2))))
def b6 : Mo Fl := (setM 10 (ifM (tru (pek 9)) (op2v ixD 3 (metT tupIxD (lett 2) (lett 8))) (cst (.int 12))))
def b7 : Mo Fl := (setM 11 (calM G_lof (acons (lett 1) (acons (lstM (acons (lett 10) (acons (op2 addD (lett 10) (cst (.int 1))) (acons (op2 subD (lett 10) (cst (.int 1))) (acons (op2 addD (lett 10) (cst (.int 2))) (acons (cst (.int 0)) (acons (op1 negD (cst (.int 1))) (acons (cst (.int 1)) (acons (op2 powD (cst (.int 10)) (cst (.int 39))) (acons (op2 subD (cst (.int 0)) (op2 powD (cst (.int 10)) (cst (.int 39)))) (acons (calM G_ldraw (acons (lett 1) (acons (op2 mulD (cst (.int 2)) (pek 10)) anil))) (acons (op2 addD (lett 10) (calM G_ldraw (acons (lett 1) (acons (op2 powD (cst (.int 10)) (cst (.int 39))) anil)))) anil)))))))))))) anil))))
def b8 : Mo Fl := (setM 12 (op1 reprD (pek 8)))
def b10 : Mo Fl := (ifS (tst (op2 neD (op1 reprD (pek 8)) (pek 12))) (rtM (cst (.bl false))) skp)
def i0 : Mo Fl := (ifS (notM (tru (calM G_lsame (acons (calM G_llimit (acons (lett 8) (acons (lett 13) anil))) (acons (ifM (tru (pek 9)) (tupM (acons (cst (.str "told")) (acons (lett 10) anil))) (tupM (acons (cst (.str "UnknownName")) (acons (lett 8) anil)))) anil))))) (rtM (cst (.bl false))) skp)
def i1 : Mo Fl := (setM 14 (ifM (tst (op2 leD (lett 11) (pek 10))) (tupM (acons (cst (.str "let")) (acons (cst .non) anil))) (tupM (acons (cst (.str "TooMany")) (acons (lett 8) (acons (lett 11) anil))))))
def i2 : Mo Fl := (ifS (notM (tru (calM G_lsame (acons (calM G_lchecked (acons (lett 8) (acons (lett 11) (acons (lett 13) anil)))) (acons (ifM (tru (pek 9)) (lett 14) (tupM (acons (cst (.str "UnknownName")) (acons (lett 8) anil)))) anil))))) (rtM (cst (.bl false))) skp)
def inT : Mo Fl := seqM i0 (seqM i1 i2)
def b9 : Mo Fl := forM (walk (lstM (acons (op2 gtD (lett 4) (cst (.int 2))) (acons (op2 ltA (lett 4) (cst (.int 9))) anil)))) (tgN 13) inT
def bodyT : Mo Fl := seqM b0 (seqM b1 (seqM b2 (seqM b3 (seqM b4 (seqM b5 (seqM b6 (seqM b7 (seqM b8 (seqM b9 b10)))))))))
def h0 : Mo Fl := (setM 2 (tupM (acons (cst (.str "keys")) (acons (cst (.str "moments")) (acons (cst (.str "rules")) (acons (cst (.str "items")) (acons (cst (.str "digits")) (acons (cst (.str "scripts")) (acons (cst (.str "nodes")) (acons (cst (.str "edges")) (acons (cst (.str "standings")) (acons (cst (.str "price keys")) (acons (cst (.str "price rows")) (acons (cst (.str "more")) (acons (cst (.str "unread")) (acons (cst (.str "names")) (acons (cst (.str "deeds")) anil)))))))))))))))))
def h1 : Mo Fl := (setM 3 (lstM (acons (cst (.int 12)) (acons (cst (.int 60)) (acons (cst (.int 40)) (acons (cst (.int 6)) (acons (cst (.int 30)) (acons (cst (.int 5)) (acons (cst (.int 30)) (acons (cst (.int 60)) (acons (cst (.int 400)) (acons (cst (.int 5)) (acons (cst (.int 6)) (acons (cst (.int 5)) (acons (cst (.int 10)) (acons (cst (.int 20)) (acons (cst (.int 60)) anil)))))))))))))))))
def h2 : Mo Fl := (ifS (notM (tru (calM G_lsame (acons (lstM (acons (cst c_WORDS) (acons (lcM [15] (walk (cst c_WORDS)) (tgN 15) (ret true) (calM G_llimit (acons (lett 15) (acons (cst (.bl false)) anil)))) anil))) (acons (lstM (acons (lett 2) (acons (lcM [11] (walk (lett 3)) (tgN 11) (ret true) (tupM (acons (cst (.str "told")) (acons (lett 11) anil)))) anil))) anil))))) (rtM (cst (.bl false))) skp)
theorem law_g : g_law = seqM (setF 1 (cawM G_lbag (acons (lett 0) anil))) (celM 1 (seqM h0 (seqM h1 (seqM h2 (seqM (forM (rngM1 (acons (cst (.int 12)) anil)) (tgN 4) bodyT) (rtM (cst (.bl true)))))))) := rfl
abbrev W : D := .tup (words.map D.str)
abbrev M : D := .lst (lims.map D.int)
abbrev env (a : D) (e4 e5 e6 e7 e8 e9 e10 e11 e12 e13 e14 e15 : Option Ent) : Env := [some (.sh a), some (.sh (.cell 0)), some (.sh W), some (.sh M), e4, e5, e6, e7, e8, e9, e10, e11, e12, e13, e14, e15]
theorem Bag.up {n k : Int} {μ : Sto} (B : Bag n μ) (h : n ≤ k) : Bag k μ := by
  obtain ⟨cs, p, r, m, j, e, h1, h2, h3, h4, h5, h6⟩ := B
  exact ⟨cs, p, r, m, j, e, h1, h2, h3, h4, h5, by omega⟩
section
variable {a : D} {e4 e5 e6 e7 e8 e9 e10 e11 e12 e13 e14 e15 : Option Ent} {μ : Sto} {n : Int}
theorem b0_ok (B : Bag n μ) (hn : n < 999000) : ∃ near μ', near ∈ words ∧ b0 (env a e4 e5 e6 e7 e8 e9 e10 e11 e12 e13 e14 e15) μ = .ok .nx (env a e4 (some (.sh (.str near))) e6 e7 e8 e9 e10 e11 e12 e13 e14 e15) μ' ∧ Bag (n + 1) μ' := by
  obtain ⟨d, μ', hd, e, B'⟩ := of_tup (ds := words.map D.str) B (by omega) (by decide) (by decide)
  obtain ⟨near, hw, rfl⟩ := List.mem_map.mp hd
  refine ⟨near, μ', hw, ?_, B'⟩
  simp only [b0, runD_ap, List.length_cons, List.length_nil, Nat.reduceAdd, Nat.reduceSub, List.map_cons, List.map_nil, List.replicate_succ, List.replicate_zero, List.cons_append, List.nil_append, seqM_ap, sq_nx, sq_rt, stiM_ap, bnd_ap, bo_ok, op2_ap, op2v_ap, op1_ap, cst_ap, lift_so, ret_ap, pek_ap, lett_ap, pekD, List.getElem?_cons_zero, List.getElem?_cons_succ, ix_l, ix50, ix51, ix52, ix53, ix54, isLst, lstUp, lstAt, lstPut, Option.map_some, add_ii, List.set_cons_zero, List.set_cons_succ, ifS_ap, andM_ap, tst_ap, eq_ii, lt_ii, gt_ii, ge_ii, len_l, asBl_b, bf_t, bf_f, bf_d, if_true, if_false, ite_true, ite_false, decide_true, decide_false, setM_ap, put_ap, skp_ap, rtM_ap, ri_rt, int_i, abs_i, ixN50, ixN51, ixN52, ixN53, ixN54, calM_ap, acons_ap, anil_ap, e, rb_ok]
theorem add_ss {s t : Str} (h : s.length + t.length ≤ lineN) : addD (.str s) (.str t) = some (.str (s ++ t)) := by
  show (addS (.str s) (.str t)).or _ = _
  have e : addS (.str s) (.str t) = some (.str (s ++ t)) := if_pos h
  rw [e] <;> rfl
theorem add_ll {s t : List D} (h : s.length + t.length ≤ lineN) : addD (.lst s) (.lst t) = some (.lst (s ++ t)) := by
  show (addL (.lst s) (.lst t)).or _ = _
  have e : addL (.lst s) (.lst t) = some (.lst (s ++ t)) := if_pos h
  rw [e] <;> rfl
theorem len_ls (s : Str) : s.length = s.cps.toList.length := by rw [Array.length_toList]; rfl
theorem b1_ok {near : Str} (hw : near ∈ words) (B : Bag n μ) (hn : n < 999000) : ∃ far μ', smallS far = true ∧ b1 (env a e4 (some (.sh (.str near))) e6 e7 e8 e9 e10 e11 e12 e13 e14 e15) μ = .ok .nx (env a e4 (some (.sh (.str near))) (some (.sh (.str far))) e7 e8 e9 e10 e11 e12 e13 e14 e15) μ' ∧ Bag (n + 3) μ' := by
  have q := near_all near hw
  simp only [Bool.and_eq_true, decide_eq_true_eq] at q
  obtain ⟨⟨⟨_, q8⟩, q9⟩, q10⟩ := q
  have sn := small_iff.mp q8
  have l1 : near.length ≤ 12 := by rw [len_ls]; exact q9
  have l2 : 0 < near.length := by rw [len_ls]; exact q10
  have lg : (near.length : Int).natAbs.log2 < 9000 := by
    have : (near.length : Int).natAbs = near.length := Int.natAbs_natCast _
    rw [this]
    exact Nat.lt_of_lt_of_le ((Nat.log2_lt (by omega) (k := 10)).mpr (by omega)) (by decide)
  obtain ⟨d1, μ1, x1, _, _, B1⟩ := draw_ok (top := near.length) B (by omega) (by omega) lg
  obtain ⟨dx, μ2, hx, x2, B2⟩ := of_lst (ds := five) B1 (by omega) (by decide) (by decide)
  obtain ⟨d2, μ3, x3, _, _, B3⟩ := draw_ok (top := near.length) B2 (by omega) (by omega) lg
  obtain ⟨x, xl, xc, rfl⟩ : ∃ x : Str, x.cps.toList.length ≤ 1 ∧ (∀ c ∈ x.cps.toList, c < 1114112) ∧ dx = .str x := by
    simp only [five, List.mem_cons, List.not_mem_nil, or_false] at hx
    rcases hx with rfl | rfl | rfl | rfl | rfl <;> exact ⟨_, by decide +kernel, by decide +kernel, rfl⟩
  have c1 := cut_len (s := near) (lo := none) (hi := some d1)
  have c2 := cut_len (s := near) (lo := some d2) (hi := none)
  have ln : lenD (.str near) = some (.int near.length) := if_pos (by show near.length ≤ 16777216; omega)
  have s1 : slD (.str near) none (some d1) = some (.str (cutS near none (some d1))) := if_pos (by show near.length ≤ 16777216; omega)
  have s2 : slD (.str near) (some d2) none = some (.str (cutS near (some d2) none)) := if_pos (by show near.length ≤ 16777216; omega)
  have ap : ∀ u v : Str, (u ++ v).cps.toList = u.cps.toList ++ v.cps.toList := fun u v => by rw [Str.cps_append, Array.toList_append]
  have a1 : addD (.str (cutS near none (some d1))) (.str x) = some (.str (cutS near none (some d1) ++ x)) := add_ss (by rw [len_ls, len_ls]; show _ ≤ 16777216; omega)
  have a2 : addD (.str (cutS near none (some d1) ++ x)) (.str (cutS near (some d2) none)) = some (.str (cutS near none (some d1) ++ x ++ cutS near (some d2) none)) := add_ss (by rw [len_ls, len_ls, ap, List.length_append]; show _ ≤ 16777216; omega)
  have m5 : mkL [.str "", .str " ", .str "s", .str "S", .str "\n"] = some (.lst five) := rfl
  have ai : ∀ i : Int, asI (.int i) = some (some i) := fun _ => rfl
  refine ⟨cutS near none (some d1) ++ x ++ cutS near (some d2) none, μ3, ?_, ?_, B3.up (by omega)⟩
  rotate_left
  · simp only [b1, runD_ap, List.length_cons, List.length_nil, Nat.reduceAdd, Nat.reduceSub, List.map_cons, List.map_nil, List.replicate_succ, List.replicate_zero, List.cons_append, List.nil_append, seqM_ap, sq_nx, sq_rt, stiM_ap, bnd_ap, bo_ok, op2_ap, op2v_ap, op1_ap, cst_ap, lift_so, ret_ap, pek_ap, lett_ap, pekD, List.getElem?_cons_zero, List.getElem?_cons_succ, ix_l, ix50, ix51, ix52, ix53, ix54, isLst, lstUp, lstAt, lstPut, Option.map_some, add_ii, List.set_cons_zero, List.set_cons_succ, ifS_ap, andM_ap, tst_ap, eq_ii, lt_ii, gt_ii, ge_ii, len_l, asBl_b, bf_t, bf_f, bf_d, if_true, if_false, ite_true, ite_false, decide_true, decide_false, setM_ap, put_ap, skp_ap, rtM_ap, ri_rt, int_i, abs_i, ixN50, ixN51, ixN52, ixN53, ixN54, slM_ap, noP_ap, prt_ap, calM_ap, acons_ap, anil_ap, ln, x1, x2, x3, rb_ok, ai, s1, s2, lstM_ap, m5, a1, a2]
  · refine small_app ?_ ?_ ?_
    · rw [ap, List.length_append]; omega
    · intro c hc
      rw [ap] at hc
      rcases List.mem_append.mp hc with z | z
      · exact sn.2 c (cut_mem z)
      · exact xc c z
    · exact fun c hc => sn.2 c (cut_mem hc)
theorem b2_ok {near far : Str} (hw : near ∈ words) : b2 (env a e4 (some (.sh (.str near))) (some (.sh (.str far))) e7 e8 e9 e10 e11 e12 e13 e14 e15) μ = .ok .nx (env a e4 (some (.sh (.str near))) (some (.sh (.str far))) (some (.sh (.lst ((menu near far).take 18)))) e8 e9 e10 e11 e12 e13 e14 e15) μ := by
  have q := near_all near hw
  simp only [Bool.and_eq_true, decide_eq_true_eq] at q
  obtain ⟨⟨⟨_, q8⟩, q9⟩, q10⟩ := q
  have l1 : near.length ≤ 12 := by rw [len_ls]; exact q9
  have a1 : addD (.str near) (.str "s") = some (.str (near ++ "s")) := add_ss (by show near.length + 1 ≤ 16777216; omega)
  have a2 : addD (.str " ") (.str near) = some (.str (" " ++ near)) := add_ss (by show 1 + near.length ≤ 16777216; omega)
  have a3 : addD (.str near) (.str " ") = some (.str (near ++ " ")) := add_ss (by show near.length + 1 ≤ 16777216; omega)
  have a4 : addD (.str near) (.str "\n") = some (.str (near ++ "\n")) := add_ss (by show near.length + 1 ≤ 16777216; omega)
  have up : upperD (.str near) [] = some (.str (Txt.upper near)) := if_pos (by omega)
  have is : isStr (.str near) = some () := rfl
  have mk : mkL [.non, .bl true, .bl false, .int 0, .int 12, .str "", .str "Keys", .str "key", .str "price", .str "prices", .str "KEYS", .str far, .str far, .str (near ++ "s"), .str (" " ++ near), .str (near ++ " "), .str (Txt.upper near), .str (near ++ "\n")] = some (.lst ((menu near far).take 18)) := rfl
  simp only [b2, runD_ap, List.length_cons, List.length_nil, Nat.reduceAdd, Nat.reduceSub, List.map_cons, List.map_nil, List.replicate_succ, List.replicate_zero, List.cons_append, List.nil_append, seqM_ap, sq_nx, sq_rt, stiM_ap, bnd_ap, bo_ok, op2_ap, op2v_ap, op1_ap, cst_ap, lift_so, ret_ap, pek_ap, lett_ap, pekD, List.getElem?_cons_zero, List.getElem?_cons_succ, ix_l, ix50, ix51, ix52, ix53, ix54, isLst, lstUp, lstAt, lstPut, Option.map_some, add_ii, List.set_cons_zero, List.set_cons_succ, ifS_ap, andM_ap, tst_ap, eq_ii, lt_ii, gt_ii, ge_ii, len_l, asBl_b, bf_t, bf_f, bf_d, if_true, if_false, ite_true, ite_false, decide_true, decide_false, setM_ap, put_ap, skp_ap, rtM_ap, ri_rt, int_i, abs_i, ixN50, ixN51, ixN52, ixN53, ixN54, lstM_ap, acons_ap, anil_ap, met0_ap, a1, a2, a3, a4, up, is, mk]
theorem b3_ok {near far : Str} (hw : near ∈ words) (hf : smallS far = true) : b3 (env a e4 (some (.sh (.str near))) (some (.sh (.str far))) (some (.sh (.lst ((menu near far).take 18)))) e8 e9 e10 e11 e12 e13 e14 e15) μ =
    .ok .nx (env a e4 (some (.sh (.str near))) (some (.sh (.str far))) (some (.sh (.lst (menu near far)))) e8 e9 e10 e11 e12 e13 e14 e15) μ := by
  have q := near_all near hw
  simp only [Bool.and_eq_true, decide_eq_true_eq] at q
  obtain ⟨⟨⟨_, q8⟩, q9⟩, q10⟩ := q
  have l1 : near.length ≤ 12 := by rw [len_ls]; exact q9
  have sf := small_iff.mp hf
  have is : isStr (.str near) = some () := rfl
  have m1 : mkT [.str near] = some (.tup [.str near]) := rfl
  have m2 : mkL [.str near] = some (.lst [.str near]) := rfl
  have m3 : mkT [] = some (.tup []) := rfl
  have m4 : mkL [] = some (.lst []) := rfl
  have m5 : mkT [.str "price", .str "rows"] = some (.tup [.str "price", .str "rows"]) := rfl
  have kd : keyD (.str near) = some (.inr near) := rfl
  have nd : (([Sum.inr near] : List Key).Nodup ∧ 1 ≤ 15) = True := by
    simp
  have sp : splitD (.str near) [.str " "] = some (.lst (txts (Txt.split near " "))) := if_pos ⟨rfl, by show near.length + 2 ≤ 16777216; omega⟩
  have ls : listD W = some (.lst (words.map D.str)) := rfl
  have rv : revD (.str far) = some (.str (revS far)) := if_pos (by rw [len_ls]; show _ ≤ 16777216; omega)
  have mk : mkL [.tup [.str near], .lst [.str near], .dct [.inr near] [.int 12], .lst (txts (Txt.split near " ")), .tup [], .lst [], .dct [] [], .tup [.str "price", .str "rows"], .str "rows", W, .lst (words.map D.str), .str (revS far)] = some (.lst ((menu near far).drop 18)) := rfl
  have ad : addD (.lst ((menu near far).take 18)) (.lst ((menu near far).drop 18)) = some (.lst (menu near far)) := by
    rw [add_ll (by show (18 + 12 : Nat) ≤ 16777216; decide), List.take_append_drop]
  simp only [b3, runD_ap, List.length_cons, List.length_nil, Nat.reduceAdd, Nat.reduceSub, List.map_cons, List.map_nil, List.replicate_succ, List.replicate_zero, List.cons_append, List.nil_append, seqM_ap, sq_nx, sq_rt, stiM_ap, bnd_ap, bo_ok, op2_ap, op2v_ap, op1_ap, cst_ap, lift_so, ret_ap, pek_ap, lett_ap, pekD, List.getElem?_cons_zero, List.getElem?_cons_succ, ix_l, ix50, ix51, ix52, ix53, ix54, isLst, lstUp, lstAt, lstPut, Option.map_some, add_ii, List.set_cons_zero, List.set_cons_succ, ifS_ap, andM_ap, tst_ap, eq_ii, lt_ii, gt_ii, ge_ii, len_l, asBl_b, bf_t, bf_f, bf_d, if_true, if_false, ite_true, ite_false, decide_true, decide_false, setM_ap, put_ap, skp_ap, rtM_ap, ri_rt, int_i, abs_i, ixN50, ixN51, ixN52, ixN53, ixN54, lstM_ap, tupM_ap, acons_ap, anil_ap, met1_ap, dspM_ap, prsM_cons, prsM_nil, newD_ap, is, m1, m2, m3, m4, m5, kd, nd, sp, ls, rv, mk, ad]
theorem b4_ok {near far : Str} {t : Int} (hw : near ∈ words) (hf : smallS far = true) (B : Bag n μ) (hn : n < 999000) : ∃ v μ', Gd v ∧ b4 (env a (some (.sh (.int t))) (some (.sh (.str near))) e6 (some (.sh (.lst (menu near far)))) e8 e9 e10 e11 e12 e13 e14 e15) μ =
    .ok .nx (env a (some (.sh (.int t))) (some (.sh (.str near))) e6 (some (.sh (.lst (menu near far)))) (some (.sh v)) e9 e10 e11 e12 e13 e14 e15) μ' ∧ Bag (n + 1) μ' := by
  have q := near_all near hw
  simp only [Bool.and_eq_true, decide_eq_true_eq] at q
  obtain ⟨⟨⟨_, q8⟩, q9⟩, q10⟩ := q
  by_cases c : t < 6
  · refine ⟨.str near, μ, gd_str q8, ?_, B.up (by omega)⟩
    simp only [b4, runD_ap, List.length_cons, List.length_nil, Nat.reduceAdd, Nat.reduceSub, List.map_cons, List.map_nil, List.replicate_succ, List.replicate_zero, List.cons_append, List.nil_append, seqM_ap, sq_nx, sq_rt, stiM_ap, bnd_ap, bo_ok, op2_ap, op2v_ap, op1_ap, cst_ap, lift_so, ret_ap, pek_ap, lett_ap, pekD, List.getElem?_cons_zero, List.getElem?_cons_succ, ix_l, ix50, ix51, ix52, ix53, ix54, isLst, lstUp, lstAt, lstPut, Option.map_some, add_ii, List.set_cons_zero, List.set_cons_succ, ifS_ap, andM_ap, tst_ap, eq_ii, lt_ii, gt_ii, ge_ii, len_l, asBl_b, bf_t, bf_f, bf_d, if_true, if_false, ite_true, ite_false, decide_true, decide_false, setM_ap, put_ap, skp_ap, rtM_ap, ri_rt, int_i, abs_i, ixN50, ixN51, ixN52, ixN53, ixN54, ifM_ap, calM_ap, acons_ap, anil_ap, c]
  · obtain ⟨v, μ', hv, e, B'⟩ := of_lst (ds := menu near far) B (by omega) (by show (0 : Nat) < 30; decide) (by show (30 : Nat) ≤ 1000; decide)
    refine ⟨v, μ', menu_gd hw hf v hv, ?_, B'⟩
    simp only [b4, runD_ap, List.length_cons, List.length_nil, Nat.reduceAdd, Nat.reduceSub, List.map_cons, List.map_nil, List.replicate_succ, List.replicate_zero, List.cons_append, List.nil_append, seqM_ap, sq_nx, sq_rt, stiM_ap, bnd_ap, bo_ok, op2_ap, op2v_ap, op1_ap, cst_ap, lift_so, ret_ap, pek_ap, lett_ap, pekD, List.getElem?_cons_zero, List.getElem?_cons_succ, ix_l, ix50, ix51, ix52, ix53, ix54, isLst, lstUp, lstAt, lstPut, Option.map_some, add_ii, List.set_cons_zero, List.set_cons_succ, ifS_ap, andM_ap, tst_ap, eq_ii, lt_ii, gt_ii, ge_ii, len_l, asBl_b, bf_t, bf_f, bf_d, if_true, if_false, ite_true, ite_false, decide_true, decide_false, setM_ap, put_ap, skp_ap, rtM_ap, ri_rt, int_i, abs_i, ixN50, ixN51, ixN52, ixN53, ixN54, ifM_ap, calM_ap, acons_ap, anil_ap, c, e, rb_ok]
/-- a value, whether it is known, and its limit -/
def Kn (v : D) (k : Bool) (top : Int) : Prop := (k = true ∧ ∃ s, v = .str s ∧ s ∈ words ∧ top = lim s) ∨ (k = false ∧ Unk v ∧ top = 12)
theorem b5_ok {v : D} (g : Gd v) : ∃ k top, Kn v k top ∧ b5 (env a e4 e5 e6 e7 (some (.sh v)) e9 e10 e11 e12 e13 e14 e15) μ = .ok .nx (env a e4 e5 e6 e7 (some (.sh v)) (some (.sh (.bl k))) e10 e11 e12 e13 e14 e15) μ := by
  have pk := g.pk μ
  have pw : pekD W μ = some W := rfl
  by_cases h : isiD ["str"] v = some (.bl false)
  · refine ⟨false, 12, .inr ⟨rfl, ⟨g.pk, .inl h⟩, rfl⟩, ?_⟩
    simp only [b5, runD_ap, List.length_cons, List.length_nil, Nat.reduceAdd, Nat.reduceSub, List.map_cons, List.map_nil, List.replicate_succ, List.replicate_zero, List.cons_append, List.nil_append, seqM_ap, sq_nx, sq_rt, stiM_ap, bnd_ap, bo_ok, op2_ap, op2v_ap, op1_ap, cst_ap, lift_so, ret_ap, pek_ap, lett_ap, List.getElem?_cons_zero, List.getElem?_cons_succ, ix_l, ix50, ix51, ix52, ix53, ix54, isLst, lstUp, lstAt, lstPut, Option.map_some, add_ii, List.set_cons_zero, List.set_cons_succ, ifS_ap, andM_ap, tst_ap, eq_ii, lt_ii, gt_ii, ge_ii, len_l, asBl_b, bf_t, bf_f, bf_d, if_true, if_false, ite_true, ite_false, decide_true, decide_false, setM_ap, put_ap, skp_ap, rtM_ap, ri_rt, int_i, abs_i, ixN50, ixN51, ixN52, ixN53, ixN54, andV_ap, pk, h, Bool.false_eq_true]
  · obtain ⟨s, rfl⟩ := g.ty.resolve_right h
    have i1 : isiD ["str"] (.str s) = some (.bl true) := rfl
    have i2 : inD (.str s) W = some (.bl (decide (s ∈ words))) := in_words s words
    by_cases hw : s ∈ words
    · rw [decide_eq_true hw] at i2
      refine ⟨true, lim s, .inl ⟨rfl, s, rfl, hw, rfl⟩, ?_⟩
      simp only [b5, runD_ap, List.length_cons, List.length_nil, Nat.reduceAdd, Nat.reduceSub, List.map_cons, List.map_nil, List.replicate_succ, List.replicate_zero, List.cons_append, List.nil_append, seqM_ap, sq_nx, sq_rt, stiM_ap, bnd_ap, bo_ok, op2_ap, op2v_ap, op1_ap, cst_ap, lift_so, ret_ap, pek_ap, lett_ap, List.getElem?_cons_zero, List.getElem?_cons_succ, ix_l, ix50, ix51, ix52, ix53, ix54, isLst, lstUp, lstAt, lstPut, Option.map_some, add_ii, List.set_cons_zero, List.set_cons_succ, ifS_ap, andM_ap, tst_ap, eq_ii, lt_ii, gt_ii, ge_ii, len_l, asBl_b, bf_t, bf_f, bf_d, if_true, if_false, ite_true, ite_false, decide_true, decide_false, setM_ap, put_ap, skp_ap, rtM_ap, ri_rt, int_i, abs_i, ixN50, ixN51, ixN52, ixN53, ixN54, andV_ap, pk, pw, i1, i2]
    · rw [decide_eq_false hw] at i2
      refine ⟨false, 12, .inr ⟨rfl, ⟨g.pk, .inr ⟨s, rfl, hw⟩⟩, rfl⟩, ?_⟩
      simp only [b5, runD_ap, List.length_cons, List.length_nil, Nat.reduceAdd, Nat.reduceSub, List.map_cons, List.map_nil, List.replicate_succ, List.replicate_zero, List.cons_append, List.nil_append, seqM_ap, sq_nx, sq_rt, stiM_ap, bnd_ap, bo_ok, op2_ap, op2v_ap, op1_ap, cst_ap, lift_so, ret_ap, pek_ap, lett_ap, List.getElem?_cons_zero, List.getElem?_cons_succ, ix_l, ix50, ix51, ix52, ix53, ix54, isLst, lstUp, lstAt, lstPut, Option.map_some, add_ii, List.set_cons_zero, List.set_cons_succ, ifS_ap, andM_ap, tst_ap, eq_ii, lt_ii, gt_ii, ge_ii, len_l, asBl_b, bf_t, bf_f, bf_d, if_true, if_false, ite_true, ite_false, decide_true, decide_false, setM_ap, put_ap, skp_ap, rtM_ap, ri_rt, int_i, abs_i, ixN50, ixN51, ixN52, ixN53, ixN54, andV_ap, pk, pw, i1, i2]
theorem lim_at {s : Str} (h : s ∈ words) : (∃ j, tupIxD W [.str s] = some j ∧ ixD M j = some (.int (lim s))) ∧ 0 < lim s ∧ lim s ≤ 400 := by
  simp only [words, List.mem_cons, List.not_mem_nil, or_false] at h
  rcases h with rfl | rfl | rfl | rfl | rfl | rfl | rfl | rfl | rfl | rfl | rfl | rfl | rfl | rfl | rfl <;> exact ⟨⟨_, rfl, rfl⟩, by decide +kernel, by decide +kernel⟩
theorem b6_ok {v : D} {k : Bool} {top : Int} (h : Kn v k top) : 0 < top ∧ top ≤ 400 ∧ b6 (env a e4 e5 e6 e7 (some (.sh v)) (some (.sh (.bl k))) e10 e11 e12 e13 e14 e15) μ = .ok .nx (env a e4 e5 e6 e7 (some (.sh v)) (some (.sh (.bl k))) (some (.sh (.int top))) e11 e12 e13 e14 e15) μ := by
  have pb : pekD (.bl k) μ = some (.bl k) := rfl
  have pm : pekD M μ = some M := rfl
  rcases h with ⟨rfl, s, rfl, hw, rfl⟩ | ⟨rfl, _, rfl⟩
  · obtain ⟨⟨j, j1, j2⟩, h0, h1⟩ := lim_at hw
    have it : isTup W = some () := rfl
    refine ⟨h0, h1, ?_⟩
    simp only [b6, runD_ap, List.length_cons, List.length_nil, Nat.reduceAdd, Nat.reduceSub, List.map_cons, List.map_nil, List.replicate_succ, List.replicate_zero, List.cons_append, List.nil_append, seqM_ap, sq_nx, sq_rt, stiM_ap, bnd_ap, bo_ok, op2_ap, op2v_ap, op1_ap, cst_ap, lift_so, ret_ap, pek_ap, lett_ap, List.getElem?_cons_zero, List.getElem?_cons_succ, ix_l, ix50, ix51, ix52, ix53, ix54, isLst, lstUp, lstAt, lstPut, Option.map_some, add_ii, List.set_cons_zero, List.set_cons_succ, ifS_ap, andM_ap, tst_ap, eq_ii, lt_ii, gt_ii, ge_ii, len_l, asBl_b, bf_t, bf_f, bf_d, if_true, if_false, ite_true, ite_false, decide_true, decide_false, setM_ap, put_ap, skp_ap, rtM_ap, ri_rt, int_i, abs_i, ixN50, ixN51, ixN52, ixN53, ixN54, ifM_ap, tru_ap, tru_b, pb, pm, metT_ap, it, j1, j2]
  · refine ⟨by decide, by decide, ?_⟩
    simp only [b6, runD_ap, List.length_cons, List.length_nil, Nat.reduceAdd, Nat.reduceSub, List.map_cons, List.map_nil, List.replicate_succ, List.replicate_zero, List.cons_append, List.nil_append, seqM_ap, sq_nx, sq_rt, stiM_ap, bnd_ap, bo_ok, op2_ap, op2v_ap, op1_ap, cst_ap, lift_so, ret_ap, pek_ap, lett_ap, List.getElem?_cons_zero, List.getElem?_cons_succ, ix_l, ix50, ix51, ix52, ix53, ix54, isLst, lstUp, lstAt, lstPut, Option.map_some, add_ii, List.set_cons_zero, List.set_cons_succ, ifS_ap, andM_ap, tst_ap, eq_ii, lt_ii, gt_ii, ge_ii, len_l, asBl_b, bf_t, bf_f, bf_d, if_true, if_false, ite_true, ite_false, decide_true, decide_false, setM_ap, put_ap, skp_ap, rtM_ap, ri_rt, int_i, abs_i, ixN50, ixN51, ixN52, ixN53, ixN54, ifM_ap, tru_ap, tru_b, pb]
theorem b7_ok {top : Int} (h0 : 0 < top) (h1 : top ≤ 400) (B : Bag n μ) (hn : n < 999000) : ∃ (x : Int) (μ' : Sto), b7 (env a e4 e5 e6 e7 e8 e9 (some (.sh (.int top))) e11 e12 e13 e14 e15) μ = .ok .nx (env a e4 e5 e6 e7 e8 e9 (some (.sh (.int top))) (some (.sh (.int x))) e12 e13 e14 e15) μ' ∧ Bag (n + 3) μ' := by
  have p39 : powC 10 39 = true := by decide
  have z39 : ((39 : Int).toNat) = 39 := rfl
  have c2 : mulC 2 top = true := mul_c (by decide) (by decide) (by omega) (by omega)
  have lg1 : (2 * top).natAbs.log2 < 9000 := Nat.lt_of_lt_of_le ((Nat.log2_lt (by omega) (k := 10)).mpr (by omega)) (by decide)
  have lg2 : ((10 : Int) ^ 39).natAbs.log2 < 9000 := by decide +kernel
  obtain ⟨d1, μ1, x1, _, _, B1⟩ := draw_ok (top := 2 * top) B (by omega) (by omega) lg1
  obtain ⟨d2, μ2, x2, _, _, B2⟩ := draw_ok (top := (10 : Int) ^ 39) B1 (by omega) (by decide +kernel) lg2
  have mk : mkL [.int top, .int (top + 1), .int (top - 1), .int (top + 2), .int 0, .int (-1), .int 1, .int (10 ^ 39), .int (0 - 10 ^ 39), .int d1, .int (top + d2)] =
    some (.lst ([top, top + 1, top - 1, top + 2, 0, -1, 1, 10 ^ 39, 0 - 10 ^ 39, d1, top + d2].map D.int)) := rfl
  obtain ⟨d, μ3, hd, x3, B3⟩ := of_lst (ds := [top, top + 1, top - 1, top + 2, 0, -1, 1, (10 : Int) ^ 39, 0 - 10 ^ 39, d1, top + d2].map D.int) B2 (by omega) (by rw [List.length_map]; show (0 : Nat) < 11; decide) (by rw [List.length_map]; show (11 : Nat) ≤ 1000; decide)
  obtain ⟨x, _, rfl⟩ := List.mem_map.mp hd
  have ng : negD (.int 1) = some (.int (-1)) := rfl
  simp only [List.map_cons, List.map_nil] at x3 mk
  refine ⟨x, μ3, ?_, B3.up (by omega)⟩
  simp only [b7, runD_ap, List.length_cons, List.length_nil, Nat.reduceAdd, Nat.reduceSub, List.map_cons, List.map_nil, List.replicate_succ, List.replicate_zero, List.cons_append, List.nil_append, seqM_ap, sq_nx, sq_rt, stiM_ap, bnd_ap, bo_ok, op2_ap, op2v_ap, op1_ap, cst_ap, lift_so, ret_ap, pek_ap, lett_ap, pekD, List.getElem?_cons_zero, List.getElem?_cons_succ, ix_l, ix50, ix51, ix52, ix53, ix54, isLst, lstUp, lstAt, lstPut, Option.map_some, add_ii, List.set_cons_zero, List.set_cons_succ, ifS_ap, andM_ap, tst_ap, eq_ii, lt_ii, gt_ii, ge_ii, len_l, asBl_b, bf_t, bf_f, bf_d, if_true, if_false, ite_true, ite_false, decide_true, decide_false, setM_ap, put_ap, skp_ap, rtM_ap, ri_rt, int_i, abs_i, ixN50, ixN51, ixN52, ixN53, ixN54, calM_ap, acons_ap, anil_ap, lstM_ap, sub_ii, ng, pow_ii p39, z39, mul_ii c2, x1, x2, rb_ok, mk, x3]
theorem told_ok {v : D} {k b : Bool} {top : Int} (h : Kn v k top) : G_llimit [v, .bl b] μ = .ok (if k then .tup [.str "told", .int top] else .tup [.str "UnknownName", v]) μ := by
  rcases h with ⟨rfl, s, rfl, hw, rfl⟩ | ⟨rfl, hu, rfl⟩
  · rw [if_pos rfl]
    exact told_known hw
  · rw [if_neg Bool.false_ne_true]
    exact told_unknown hu
/-- what check_limit tells -/
def duo (v : D) (x top : Int) : D := if x ≤ top then .tup [.str "let", .non] else .tup [.str "TooMany", v, .int x]
theorem chk_ok {v : D} {k b : Bool} {top x : Int} (h : Kn v k top) : G_lchecked [v, .int x, .bl b] μ = .ok (if k then duo v x top else .tup [.str "UnknownName", v]) μ := by
  rcases h with ⟨rfl, s, rfl, hw, rfl⟩ | ⟨rfl, hu, rfl⟩
  · rw [if_pos rfl]
    unfold duo
    by_cases c : x ≤ lim s
    · rw [if_pos c]
      exact chk_let hw c
    · rw [if_neg c]
      exact chk_many hw c
  · rw [if_neg Bool.false_ne_true]
    exact chk_unknown hu
theorem sm2 {s : Str} {v : D} (h : Sm 3 v) : Sm 5 (.tup [.str s, v]) := .tup _ (by simp) (fun d hd => by
  simp only [List.mem_cons, List.not_mem_nil, or_false] at hd
  rcases hd with rfl | rfl
  · exact .str _ _
  · exact h.up)
theorem sm3 {s : Str} {v : D} {x : Int} (h : Sm 3 v) : Sm 5 (.tup [.str s, v, .int x]) := .tup _ (by simp) (fun d hd => by
  simp only [List.mem_cons, List.not_mem_nil, or_false] at hd
  rcases hd with rfl | rfl | rfl
  · exact .str _ _
  · exact h.up
  · exact .int _ _)
theorem in_ok {v : D} {k b : Bool} {top x : Int} (h : Kn v k top) (g : Gd v) : inT (env a e4 e5 e6 e7 (some (.sh v)) (some (.sh (.bl k))) (some (.sh (.int top))) (some (.sh (.int x))) e12 (some (.sh (.bl b))) e14 e15) μ =
    .ok .nx (env a e4 e5 e6 e7 (some (.sh v)) (some (.sh (.bl k))) (some (.sh (.int top))) (some (.sh (.int x))) e12 (some (.sh (.bl b))) (some (.sh (duo v x top))) e15) μ := by
  have t1 := told_ok (b := b) (μ := μ) h
  have c1 := chk_ok (b := b) (x := x) (μ := μ) h
  have pb : pekD (.bl k) μ = some (.bl k) := rfl
  have pt : pekD (.int top) μ = some (.int top) := rfl
  have m1 : mkT [.str "told", .int top] = some (.tup [.str "told", .int top]) := rfl
  have m2 : mkT [.str "UnknownName", v] = some (.tup [.str "UnknownName", v]) := rfl
  have m3 : mkT [.str "let", .non] = some (.tup [.str "let", .non]) := rfl
  have m4 : mkT [.str "TooMany", v, .int x] = some (.tup [.str "TooMany", v, .int x]) := rfl
  have s1 : G_lsame [.tup [.str "told", .int top], .tup [.str "told", .int top]] μ = .ok (.bl true) μ := same_ok (sm2 (.int _ _))
  have s2 : G_lsame [.tup [.str "UnknownName", v], .tup [.str "UnknownName", v]] μ = .ok (.bl true) μ := same_ok (sm2 g.sm)
  have s3 : G_lsame [duo v x top, duo v x top] μ = .ok (.bl true) μ := by
    unfold duo
    by_cases c : x ≤ top
    · rw [if_pos c]; exact same_ok (sm2 (.non _))
    · rw [if_neg c]; exact same_ok (sm3 g.sm)
  have f0 : i0 (env a e4 e5 e6 e7 (some (.sh v)) (some (.sh (.bl k))) (some (.sh (.int top))) (some (.sh (.int x))) e12 (some (.sh (.bl b))) e14 e15) μ = .ok .nx (env a e4 e5 e6 e7 (some (.sh v)) (some (.sh (.bl k))) (some (.sh (.int top))) (some (.sh (.int x))) e12 (some (.sh (.bl b))) e14 e15) μ := by
    cases k <;> simp only [i0, runD_ap, List.length_cons, List.length_nil, Nat.reduceAdd, Nat.reduceSub, List.map_cons, List.map_nil, List.replicate_succ, List.replicate_zero, List.cons_append, List.nil_append, seqM_ap, sq_nx, sq_rt, stiM_ap, bnd_ap, bo_ok, op2_ap, op2v_ap, op1_ap, cst_ap, lift_so, ret_ap, pek_ap, lett_ap, List.getElem?_cons_zero, List.getElem?_cons_succ, ix_l, ix50, ix51, ix52, ix53, ix54, isLst, lstUp, lstAt, lstPut, Option.map_some, add_ii, List.set_cons_zero, List.set_cons_succ, ifS_ap, andM_ap, tst_ap, eq_ii, lt_ii, gt_ii, ge_ii, len_l, asBl_b, bf_t, bf_f, bf_d, if_true, if_false, ite_true, ite_false, decide_true, decide_false, setM_ap, put_ap, skp_ap, rtM_ap, ri_rt, int_i, abs_i, ixN50, ixN51, ixN52, ixN53, ixN54, notM_ap, tru_ap, tru_b, calM_ap, acons_ap, anil_ap, ifM_ap, tupM_ap, pb, t1, rb_ok, m1, m2, s1, s2, Bool.not_true, Bool.false_eq_true]
  have f1 : i1 (env a e4 e5 e6 e7 (some (.sh v)) (some (.sh (.bl k))) (some (.sh (.int top))) (some (.sh (.int x))) e12 (some (.sh (.bl b))) e14 e15) μ = .ok .nx (env a e4 e5 e6 e7 (some (.sh v)) (some (.sh (.bl k))) (some (.sh (.int top))) (some (.sh (.int x))) e12 (some (.sh (.bl b))) (some (.sh (duo v x top))) e15) μ := by
    unfold duo
    by_cases c : x ≤ top <;> simp only [i1, runD_ap, List.length_cons, List.length_nil, Nat.reduceAdd, Nat.reduceSub, List.map_cons, List.map_nil, List.replicate_succ, List.replicate_zero, List.cons_append, List.nil_append, seqM_ap, sq_nx, sq_rt, stiM_ap, bnd_ap, bo_ok, op2_ap, op2v_ap, op1_ap, cst_ap, lift_so, ret_ap, pek_ap, lett_ap, List.getElem?_cons_zero, List.getElem?_cons_succ, ix_l, ix50, ix51, ix52, ix53, ix54, isLst, lstUp, lstAt, lstPut, Option.map_some, add_ii, List.set_cons_zero, List.set_cons_succ, ifS_ap, andM_ap, tst_ap, eq_ii, lt_ii, gt_ii, ge_ii, len_l, asBl_b, bf_t, bf_f, bf_d, if_true, if_false, ite_true, ite_false, decide_true, decide_false, setM_ap, put_ap, skp_ap, rtM_ap, ri_rt, int_i, abs_i, ixN50, ixN51, ixN52, ixN53, ixN54, acons_ap, anil_ap, ifM_ap, tupM_ap, pt, le_ii, c, m3, m4]
  have f2 : i2 (env a e4 e5 e6 e7 (some (.sh v)) (some (.sh (.bl k))) (some (.sh (.int top))) (some (.sh (.int x))) e12 (some (.sh (.bl b))) (some (.sh (duo v x top))) e15) μ = .ok .nx (env a e4 e5 e6 e7 (some (.sh v)) (some (.sh (.bl k))) (some (.sh (.int top))) (some (.sh (.int x))) e12 (some (.sh (.bl b))) (some (.sh (duo v x top))) e15) μ := by
    cases k <;> simp only [i2, runD_ap, List.length_cons, List.length_nil, Nat.reduceAdd, Nat.reduceSub, List.map_cons, List.map_nil, List.replicate_succ, List.replicate_zero, List.cons_append, List.nil_append, seqM_ap, sq_nx, sq_rt, stiM_ap, bnd_ap, bo_ok, op2_ap, op2v_ap, op1_ap, cst_ap, lift_so, ret_ap, pek_ap, lett_ap, List.getElem?_cons_zero, List.getElem?_cons_succ, ix_l, ix50, ix51, ix52, ix53, ix54, isLst, lstUp, lstAt, lstPut, Option.map_some, add_ii, List.set_cons_zero, List.set_cons_succ, ifS_ap, andM_ap, tst_ap, eq_ii, lt_ii, gt_ii, ge_ii, len_l, asBl_b, bf_t, bf_f, bf_d, if_true, if_false, ite_true, ite_false, decide_true, decide_false, setM_ap, put_ap, skp_ap, rtM_ap, ri_rt, int_i, abs_i, ixN50, ixN51, ixN52, ixN53, ixN54, notM_ap, tru_ap, tru_b, calM_ap, acons_ap, anil_ap, ifM_ap, tupM_ap, pb, c1, rb_ok, m2, s2, s3, Bool.not_true, Bool.false_eq_true]
  unfold inT
  rw [seqM_ap, f0, sq_nx, seqM_ap, f1, sq_nx, f2]
theorem body_ok {t : Int} (B : Bag n μ) (hn : n < 900000) : ∃ (f4 f5 f6 f7 f8 f9 f10 f11 f12 f13 f14 f15 : Option Ent) (μ' : Sto), bodyT (env a (some (.sh (.int t))) e5 e6 e7 e8 e9 e10 e11 e12 e13 e14 e15) μ = .ok .nx (env a f4 f5 f6 f7 f8 f9 f10 f11 f12 f13 f14 f15) μ' ∧ Bag (n + 10) μ' := by
  obtain ⟨near, μ1, hw, x0, B1⟩ := b0_ok (a := a) (e4 := some (.sh (.int t))) (e5 := e5) (e6 := e6) (e7 := e7) (e8 := e8) (e9 := e9) (e10 := e10) (e11 := e11) (e12 := e12) (e13 := e13) (e14 := e14) (e15 := e15) B (by omega)
  obtain ⟨far, μ2, hf, x1, B2⟩ := b1_ok (a := a) (e4 := some (.sh (.int t))) (e6 := e6) (e7 := e7) (e8 := e8) (e9 := e9) (e10 := e10) (e11 := e11) (e12 := e12) (e13 := e13) (e14 := e14) (e15 := e15) hw B1 (by omega)
  have x2 := b2_ok (a := a) (e4 := some (.sh (.int t))) (e7 := e7) (e8 := e8) (e9 := e9) (e10 := e10) (e11 := e11) (e12 := e12) (e13 := e13) (e14 := e14) (e15 := e15) (μ := μ2) (far := far) hw
  have x3 := b3_ok (a := a) (e4 := some (.sh (.int t))) (e8 := e8) (e9 := e9) (e10 := e10) (e11 := e11) (e12 := e12) (e13 := e13) (e14 := e14) (e15 := e15) (μ := μ2) hw hf
  obtain ⟨v, μ3, g, x4, B3⟩ := b4_ok (a := a) (t := t) (e6 := some (.sh (.str far))) (e8 := e8) (e9 := e9) (e10 := e10) (e11 := e11) (e12 := e12) (e13 := e13) (e14 := e14) (e15 := e15) hw hf B2 (by omega)
  obtain ⟨k, top, h, x5⟩ := b5_ok (a := a) (e4 := some (.sh (.int t))) (e5 := some (.sh (.str near))) (e6 := some (.sh (.str far))) (e7 := some (.sh (.lst (menu near far)))) (e9 := e9) (e10 := e10) (e11 := e11) (e12 := e12) (e13 := e13) (e14 := e14) (e15 := e15) (μ := μ3) g
  obtain ⟨h0, h1, x6⟩ := b6_ok (a := a) (e4 := some (.sh (.int t))) (e5 := some (.sh (.str near))) (e6 := some (.sh (.str far))) (e7 := some (.sh (.lst (menu near far)))) (e10 := e10) (e11 := e11) (e12 := e12) (e13 := e13) (e14 := e14) (e15 := e15) (μ := μ3) h
  obtain ⟨x, μ4, x7, B4⟩ := b7_ok (a := a) (e4 := some (.sh (.int t))) (e5 := some (.sh (.str near))) (e6 := some (.sh (.str far))) (e7 := some (.sh (.lst (menu near far)))) (e8 := some (.sh v)) (e9 := some (.sh (.bl k))) (e11 := e11) (e12 := e12) (e13 := e13) (e14 := e14) (e15 := e15) h0 h1 B3 (by omega)
  obtain ⟨s, hs⟩ := g.rp
  have pv := g.pk μ4
  have ps : pekD (.str s) μ4 = some (.str s) := rfl
  have x8 : b8 (env a (some (.sh (.int t))) (some (.sh (.str near))) (some (.sh (.str far))) (some (.sh (.lst (menu near far)))) (some (.sh v)) (some (.sh (.bl k))) (some (.sh (.int top))) (some (.sh (.int x))) e12 e13 e14 e15) μ4 =
      .ok .nx (env a (some (.sh (.int t))) (some (.sh (.str near))) (some (.sh (.str far))) (some (.sh (.lst (menu near far)))) (some (.sh v)) (some (.sh (.bl k))) (some (.sh (.int top))) (some (.sh (.int x))) (some (.sh (.str s))) e13 e14 e15) μ4 := by
    simp only [b8, runD_ap, List.length_cons, List.length_nil, Nat.reduceAdd, Nat.reduceSub, List.map_cons, List.map_nil, List.replicate_succ, List.replicate_zero, List.cons_append, List.nil_append, seqM_ap, sq_nx, sq_rt, stiM_ap, bnd_ap, bo_ok, op2_ap, op2v_ap, op1_ap, cst_ap, lift_so, ret_ap, pek_ap, lett_ap, List.getElem?_cons_zero, List.getElem?_cons_succ, ix_l, ix50, ix51, ix52, ix53, ix54, isLst, lstUp, lstAt, lstPut, Option.map_some, add_ii, List.set_cons_zero, List.set_cons_succ, ifS_ap, andM_ap, tst_ap, eq_ii, lt_ii, gt_ii, ge_ii, len_l, asBl_b, bf_t, bf_f, bf_d, if_true, if_false, ite_true, ite_false, decide_true, decide_false, setM_ap, put_ap, skp_ap, rtM_ap, ri_rt, int_i, abs_i, ixN50, ixN51, ixN52, ixN53, ixN54, pv, hs]
  have mk : mkL [.bl (decide (2 < t)), .bl (decide (t < 9))] = some (.lst [.bl (decide (2 < t)), .bl (decide (t < 9))]) := rfl
  have sq' : seqD (.lst [.bl (decide (2 < t)), .bl (decide (t < 9))]) = some [.bl (decide (2 < t)), .bl (decide (t < 9))] := rfl
  have i1 := in_ok (a := a) (e4 := some (.sh (.int t))) (e5 := some (.sh (.str near))) (e6 := some (.sh (.str far))) (e7 := some (.sh (.lst (menu near far)))) (e12 := some (.sh (.str s))) (e14 := e14) (e15 := e15) (b := decide (2 < t)) (x := x) (μ := μ4) h g
  have i2 := in_ok (a := a) (e4 := some (.sh (.int t))) (e5 := some (.sh (.str near))) (e6 := some (.sh (.str far))) (e7 := some (.sh (.lst (menu near far)))) (e12 := some (.sh (.str s))) (e14 := some (.sh (duo v x top))) (e15 := e15) (b := decide (t < 9)) (x := x) (μ := μ4) h g
  have x9 : b9 (env a (some (.sh (.int t))) (some (.sh (.str near))) (some (.sh (.str far))) (some (.sh (.lst (menu near far)))) (some (.sh v)) (some (.sh (.bl k))) (some (.sh (.int top))) (some (.sh (.int x))) (some (.sh (.str s))) e13 e14 e15) μ4 =
      .ok .nx (env a (some (.sh (.int t))) (some (.sh (.str near))) (some (.sh (.str far))) (some (.sh (.lst (menu near far)))) (some (.sh v)) (some (.sh (.bl k))) (some (.sh (.int top))) (some (.sh (.int x))) (some (.sh (.str s))) (some (.sh (.bl (decide (t < 9))))) (some (.sh (duo v x top))) e15) μ4 := by
    simp only [b9, runD_ap, List.length_cons, List.length_nil, Nat.reduceAdd, Nat.reduceSub, List.map_cons, List.map_nil, List.replicate_succ, List.replicate_zero, List.cons_append, List.nil_append, seqM_ap, sq_nx, sq_rt, stiM_ap, bnd_ap, bo_ok, op2_ap, op2v_ap, op1_ap, cst_ap, lift_so, ret_ap, pek_ap, lett_ap, List.getElem?_cons_zero, List.getElem?_cons_succ, ix_l, ix50, ix51, ix52, ix53, ix54, isLst, lstUp, lstAt, lstPut, Option.map_some, add_ii, List.set_cons_zero, List.set_cons_succ, ifS_ap, andM_ap, tst_ap, eq_ii, lt_ii, gt_ii, ge_ii, len_l, asBl_b, bf_t, bf_f, bf_d, if_true, if_false, ite_true, ite_false, decide_true, decide_false, setM_ap, put_ap, skp_ap, rtM_ap, ri_rt, int_i, abs_i, ixN50, ixN51, ixN52, ixN53, ixN54, forM_ap, walk_ap, lstM_ap, acons_ap, anil_ap, mk, sq', forL_cons, forL_nil, tgN_ap, i1, i2, fo]
  have ns : neD (.str s) (.str s) = some (.bl false) := by rw [ne_ss, decide_eq_true rfl] <;> rfl
  have x10 : b10 (env a (some (.sh (.int t))) (some (.sh (.str near))) (some (.sh (.str far))) (some (.sh (.lst (menu near far)))) (some (.sh v)) (some (.sh (.bl k))) (some (.sh (.int top))) (some (.sh (.int x))) (some (.sh (.str s))) (some (.sh (.bl (decide (t < 9))))) (some (.sh (duo v x top))) e15) μ4 =
      .ok .nx (env a (some (.sh (.int t))) (some (.sh (.str near))) (some (.sh (.str far))) (some (.sh (.lst (menu near far)))) (some (.sh v)) (some (.sh (.bl k))) (some (.sh (.int top))) (some (.sh (.int x))) (some (.sh (.str s))) (some (.sh (.bl (decide (t < 9))))) (some (.sh (duo v x top))) e15) μ4 := by
    simp only [b10, runD_ap, List.length_cons, List.length_nil, Nat.reduceAdd, Nat.reduceSub, List.map_cons, List.map_nil, List.replicate_succ, List.replicate_zero, List.cons_append, List.nil_append, seqM_ap, sq_nx, sq_rt, stiM_ap, bnd_ap, bo_ok, op2_ap, op2v_ap, op1_ap, cst_ap, lift_so, ret_ap, pek_ap, lett_ap, List.getElem?_cons_zero, List.getElem?_cons_succ, ix_l, ix50, ix51, ix52, ix53, ix54, isLst, lstUp, lstAt, lstPut, Option.map_some, add_ii, List.set_cons_zero, List.set_cons_succ, ifS_ap, andM_ap, tst_ap, eq_ii, lt_ii, gt_ii, ge_ii, len_l, asBl_b, bf_t, bf_f, bf_d, if_true, if_false, ite_true, ite_false, decide_true, decide_false, setM_ap, put_ap, skp_ap, rtM_ap, ri_rt, int_i, abs_i, ixN50, ixN51, ixN52, ixN53, ixN54, pv, ps, hs, ns]
  refine ⟨some (.sh (.int t)), some (.sh (.str near)), some (.sh (.str far)), some (.sh (.lst (menu near far))), some (.sh v), some (.sh (.bl k)), some (.sh (.int top)), some (.sh (.int x)), some (.sh (.str s)), some (.sh (.bl (decide (t < 9)))), some (.sh (duo v x top)), e15, μ4, ?_, B4.up (by omega)⟩
  unfold bodyT
  rw [seqM_ap, x0, sq_nx, seqM_ap, x1, sq_nx, seqM_ap, x2, sq_nx, seqM_ap, x3, sq_nx, seqM_ap, x4, sq_nx, seqM_ap, x5, sq_nx, seqM_ap, x6, sq_nx, seqM_ap, x7, sq_nx, seqM_ap, x8, sq_nx, seqM_ap, x9, sq_nx, x10]
theorem turns : ∀ (ts : List Int) (n : Int) (μ : Sto) (e4 e5 e6 e7 e8 e9 e10 e11 e12 e13 e14 e15 : Option Ent), Bag n μ → n + 10 * ts.length < 900000 →
    ∃ (f4 f5 f6 f7 f8 f9 f10 f11 f12 f13 f14 f15 : Option Ent) (μ' : Sto), forL (tgN 4) bodyT (ts.map D.int) (env a e4 e5 e6 e7 e8 e9 e10 e11 e12 e13 e14 e15) μ = .ok .nx (env a f4 f5 f6 f7 f8 f9 f10 f11 f12 f13 f14 f15) μ'
  | [], n, μ, e4, e5, e6, e7, e8, e9, e10, e11, e12, e13, e14, e15, _, _ => ⟨e4, e5, e6, e7, e8, e9, e10, e11, e12, e13, e14, e15, μ, rfl⟩
  | t :: ts, n, μ, e4, e5, e6, e7, e8, e9, e10, e11, e12, e13, e14, e15, B, hn => by
    rw [List.length_cons] at hn
    obtain ⟨f4, f5, f6, f7, f8, f9, f10, f11, f12, f13, f14, f15, μ1, x, B1⟩ := body_ok (a := a) (t := t) (e5 := e5) (e6 := e6) (e7 := e7) (e8 := e8) (e9 := e9) (e10 := e10) (e11 := e11) (e12 := e12) (e13 := e13) (e14 := e14) (e15 := e15) B (by omega)
    obtain ⟨g4, g5, g6, g7, g8, g9, g10, g11, g12, g13, g14, g15, μ2, y⟩ := turns ts (n + 10) μ1 f4 f5 f6 f7 f8 f9 f10 f11 f12 f13 f14 f15 B1 (by omega)
    refine ⟨g4, g5, g6, g7, g8, g9, g10, g11, g12, g13, g14, g15, μ2, ?_⟩
    rw [← y, List.map_cons, forL_cons, tgN_ap, bo_ok]
    show fo (bodyT (env a (some (.sh (.int t))) e5 e6 e7 e8 e9 e10 e11 e12 e13 e14 e15) μ) _ _ _ = _
    rw [x]
    rfl
end
end L2.DL.K01

namespace L2.DL.K01
open PySem PySem.Spec PyProof.Rows
def told : D := .lst (words.map fun s => .tup [.str "told", .int (lim s)])
theorem told_sm : Sm 5 (.lst [W, told]) := .lst _ (by simp) (fun d hd => by
  simp only [List.mem_cons, List.not_mem_nil, or_false] at hd
  rcases hd with rfl | rfl
  · exact .tup _ (by rw [List.length_map]; decide) (sm_strs (ss := words))
  · refine .lst _ (by rw [List.length_map]; decide) fun d hd => ?_
    obtain ⟨s, _, rfl⟩ := List.mem_map.mp hd
    refine .tup _ (by simp) fun d hd => ?_
    simp only [List.mem_cons, List.not_mem_nil, or_false] at hd
    rcases hd with rfl | rfl
    · exact .str _ _
    · exact .int _ _)
abbrev env0 (a : D) : Env := env a none none none none none none none none none none none none
theorem lc_told {a : D} {μ : Sto} : ∀ (ws : List Str) (acc : List D), (∀ s ∈ ws, s ∈ words) → acc.length + ws.length < lineN →
    lcGo [15] (tgN 15) (ret true) (calM G_llimit (acons (lett 15) (acons (cst (.bl false)) anil))) (ws.map D.str) acc (env0 a) μ = .ok (acc ++ ws.map fun s => .tup [.str "told", .int (lim s)]) (env0 a) μ
  | [], acc, _, _ => by
    show O.ok acc _ _ = _
    rw [List.map_nil, List.append_nil]
  | w :: ws, acc, h, hl => by
    rw [List.length_cons] at hl
    have e1 := told_known (b := false) (μ := μ) (h w List.mem_cons_self)
    have ih := lc_told (a := a) (μ := μ) ws (acc ++ [.tup [.str "told", .int (lim w)]]) (fun x hx => h x (List.mem_cons_of_mem _ hx)) (by rw [List.length_append, List.length_singleton]; omega)
    have hacc : acc.length < lineN := by omega
    have e4 : tgN 15 (.str w) (env0 a) μ = .ok () (env a none none none none none none none none none none none (some (.sh (.str w)))) μ := rfl
    have e2 : calM G_llimit (acons (lett 15) (acons (cst (.bl false)) anil)) (env a none none none none none none none none none none none (some (.sh (.str w)))) μ = .ok (.tup [.str "told", .int (lim w)]) (env a none none none none none none none none none none none (some (.sh (.str w)))) μ := by
      simp only [runD_ap, List.length_cons, List.length_nil, Nat.reduceAdd, Nat.reduceSub, List.map_cons, List.map_nil, List.replicate_succ, List.replicate_zero, List.cons_append, List.nil_append, seqM_ap, sq_nx, sq_rt, stiM_ap, bnd_ap, bo_ok, op2_ap, op2v_ap, op1_ap, cst_ap, lift_so, ret_ap, pek_ap, lett_ap, pekD, List.getElem?_cons_zero, List.getElem?_cons_succ, ix_l, ix50, ix51, ix52, ix53, ix54, isLst, lstUp, lstAt, lstPut, Option.map_some, add_ii, List.set_cons_zero, List.set_cons_succ, ifS_ap, andM_ap, tst_ap, eq_ii, lt_ii, gt_ii, ge_ii, len_l, asBl_b, bf_t, bf_f, bf_d, if_true, if_false, ite_true, ite_false, decide_true, decide_false, setM_ap, put_ap, skp_ap, rtM_ap, ri_rt, int_i, abs_i, ixN50, ixN51, ixN52, ixN53, ixN54, calM_ap, acons_ap, anil_ap, e1, rb_ok]
    have e5 : wipD (env a none none none none none none none none none none none (some (.sh (.str w)))) [15] = env0 a := rfl
    rw [List.map_cons]
    unfold lcGo
    simp only [e4, ret_ap, e2, hacc, if_true]
    rw [e5, ih, List.append_assoc] <;> rfl
theorem lc_lims {a : D} {μ : Sto} : ∀ (ls : List Int) (acc : List D), acc.length + ls.length < lineN →
    lcGo [11] (tgN 11) (ret true) (tupM (acons (cst (.str "told")) (acons (lett 11) anil))) (ls.map D.int) acc (env0 a) μ = .ok (acc ++ ls.map fun s => .tup [.str "told", .int s]) (env0 a) μ
  | [], acc, _ => by
    show O.ok acc _ _ = _
    rw [List.map_nil, List.append_nil]
  | w :: ws, acc, hl => by
    rw [List.length_cons] at hl
    have ih := lc_lims (a := a) (μ := μ) ws (acc ++ [.tup [.str "told", .int w]]) (by rw [List.length_append, List.length_singleton]; omega)
    have hacc : acc.length < lineN := by omega
    have mk : mkT [.str "told", .int w] = some (.tup [.str "told", .int w]) := rfl
    have e4 : tgN 11 (.int w) (env0 a) μ = .ok () (env a none none none none none none none (some (.sh (.int w))) none none none none) μ := rfl
    have e2 : tupM (acons (cst (.str "told")) (acons (lett 11) anil)) (env a none none none none none none none (some (.sh (.int w))) none none none none) μ = .ok (.tup [.str "told", .int w]) (env a none none none none none none none (some (.sh (.int w))) none none none none) μ := by
      simp only [runD_ap, List.length_cons, List.length_nil, Nat.reduceAdd, Nat.reduceSub, List.map_cons, List.map_nil, List.replicate_succ, List.replicate_zero, List.cons_append, List.nil_append, seqM_ap, sq_nx, sq_rt, stiM_ap, bnd_ap, bo_ok, op2_ap, op2v_ap, op1_ap, cst_ap, lift_so, ret_ap, pek_ap, lett_ap, pekD, List.getElem?_cons_zero, List.getElem?_cons_succ, ix_l, ix50, ix51, ix52, ix53, ix54, isLst, lstUp, lstAt, lstPut, Option.map_some, add_ii, List.set_cons_zero, List.set_cons_succ, ifS_ap, andM_ap, tst_ap, eq_ii, lt_ii, gt_ii, ge_ii, len_l, asBl_b, bf_t, bf_f, bf_d, if_true, if_false, ite_true, ite_false, decide_true, decide_false, setM_ap, put_ap, skp_ap, rtM_ap, ri_rt, int_i, abs_i, ixN50, ixN51, ixN52, ixN53, ixN54, tupM_ap, acons_ap, anil_ap, mk]
    have e5 : wipD (env a none none none none none none none (some (.sh (.int w))) none none none none) [11] = env0 a := rfl
    rw [List.map_cons]
    unfold lcGo
    simp only [e4, ret_ap, e2, hacc, if_true]
    rw [e5, ih, List.append_assoc] <;> rfl
theorem head_ok {a : D} {μ : Sto} : h2 (env a none none none none none none none none none none none none) μ = .ok .nx (env a none none none none none none none none none none none none) μ := by
  have sw : seqD W = some (words.map D.str) := rfl
  have sm : seqD M = some (lims.map D.int) := rfl
  have l1 : lcAll [15] (tgN 15) (ret true) (calM G_llimit (acons (lett 15) (acons (cst (.bl false)) anil))) (words.map D.str) (env0 a) μ = .ok told (env0 a) μ := by
    unfold lcAll
    have e5 : wipD (env0 a) [15] = env0 a := rfl
    rw [e5, lc_told words [] (fun _ h => h) (by decide)]
    rfl
  have tl : (D.lst (([] : List D) ++ lims.map fun s => .tup [.str "told", .int s])) = told := rfl
  have l2 : lcAll [11] (tgN 11) (ret true) (tupM (acons (cst (.str "told")) (acons (lett 11) anil))) (lims.map D.int) (env0 a) μ = .ok told (env0 a) μ := by
    unfold lcAll
    have e5 : wipD (env0 a) [11] = env0 a := rfl
    rw [e5, lc_lims lims [] (by decide), ← tl]
    rfl
  have s := same_ok (μ := μ) told_sm
  have m : mkL [W, told] = some (.lst [W, told]) := rfl
  have s' : G_lsame [.lst [W, told], .lst [W, told]] μ = .ok (.bl true) μ := s
  have wc : c_WORDS = W := rfl
  simp only [h2, wc, runD_ap, List.length_cons, List.length_nil, Nat.reduceAdd, Nat.reduceSub, List.map_cons, List.map_nil, List.replicate_succ, List.replicate_zero, List.cons_append, List.nil_append, seqM_ap, sq_nx, sq_rt, stiM_ap, bnd_ap, bo_ok, op2_ap, op2v_ap, op1_ap, cst_ap, lift_so, ret_ap, pek_ap, lett_ap, List.getElem?_cons_zero, List.getElem?_cons_succ, ix_l, ix50, ix51, ix52, ix53, ix54, isLst, lstUp, lstAt, lstPut, Option.map_some, add_ii, List.set_cons_zero, List.set_cons_succ, ifS_ap, andM_ap, tst_ap, eq_ii, lt_ii, gt_ii, ge_ii, len_l, asBl_b, bf_t, bf_f, bf_d, if_true, if_false, ite_true, ite_false, decide_true, decide_false, setM_ap, put_ap, skp_ap, rtM_ap, ri_rt, int_i, abs_i, ixN50, ixN51, ixN52, ixN53, ixN54, notM_ap, tru_ap, tru_b, calM_ap, acons_ap, anil_ap, lstM_ap, lcM_ap, walk_ap, sw, sm, l1, l2, m, s', rb_ok, Bool.not_true]
theorem answer (ns : List Int) (h : ns.length ≤ 63) : ∃ μ, G_law [.frz (ns.map D.int)] [] = .ok (.bl true) μ := by
  obtain ⟨cs, m, e, m0, m1⟩ := bag_ok ns h
  have B : Bag 0 [bagC cs 0 0 m 0] := ⟨cs, 0, 0, m, 0, rfl, by decide, by decide, m0, by omega, by decide, by decide⟩
  obtain ⟨f4, f5, f6, f7, f8, f9, f10, f11, f12, f13, f14, f15, μ, t⟩ := turns (a := .frz (ns.map D.int)) ((List.range 12).map fun k => (0 : Int) + (k : Nat)) 0 _ none none none none none none none none none none none none B (by decide)
  have hd := head_ok (a := .frz (ns.map D.int)) (μ := [bagC cs 0 0 m 0])
  have r1 : rng1 [.int 12] = some (((List.range 12).map fun k => (0 : Int) + (k : Nat)).map D.int) := rfl
  have t0 : (setF 1 (cawM G_lbag (acons (lett 0) anil)) : Mo Fl) ([D.frz (ns.map D.int)].map (fun d => some (Ent.sh d)) ++ List.replicate (16 - [D.frz (ns.map D.int)].length) none) [] =
      .ok .nx [some (.sh (.frz (ns.map D.int))), some (.ow (.lst [.lst (cs.map D.int), .int 0, .int 0, .int m, .int 0])), none, none, none, none, none, none, none, none, none, none, none, none, none, none] [] := by
    simp only [runD_ap, List.length_cons, List.length_nil, Nat.reduceAdd, Nat.reduceSub, List.map_cons, List.map_nil, List.replicate_succ, List.replicate_zero, List.cons_append, List.nil_append, seqM_ap, sq_nx, sq_rt, stiM_ap, bnd_ap, bo_ok, op2_ap, op2v_ap, op1_ap, cst_ap, lift_so, ret_ap, pek_ap, lett_ap, pekD, List.getElem?_cons_zero, List.getElem?_cons_succ, ix_l, ix50, ix51, ix52, ix53, ix54, isLst, lstUp, lstAt, lstPut, Option.map_some, add_ii, List.set_cons_zero, List.set_cons_succ, ifS_ap, andM_ap, tst_ap, eq_ii, lt_ii, gt_ii, ge_ii, len_l, asBl_b, bf_t, bf_f, bf_d, if_true, if_false, ite_true, ite_false, decide_true, decide_false, setM_ap, put_ap, skp_ap, rtM_ap, ri_rt, int_i, abs_i, ixN50, ixN51, ixN52, ixN53, ixN54, setF_ap, cawM_ap, acons_ap, anil_ap, e, rw_ow]
  have w0 : h0 [some (.sh (.frz (ns.map D.int))), some (.sh (.cell 0)), none, none, none, none, none, none, none, none, none, none, none, none, none, none] [bagC cs 0 0 m 0] =
      .ok .nx [some (.sh (.frz (ns.map D.int))), some (.sh (.cell 0)), some (.sh W), none, none, none, none, none, none, none, none, none, none, none, none, none] [bagC cs 0 0 m 0] := rfl
  have w1 : h1 [some (.sh (.frz (ns.map D.int))), some (.sh (.cell 0)), some (.sh W), none, none, none, none, none, none, none, none, none, none, none, none, none] [bagC cs 0 0 m 0] =
      .ok .nx (env (.frz (ns.map D.int)) none none none none none none none none none none none none) [bagC cs 0 0 m 0] := rfl
  refine ⟨μ, ?_⟩
  show runD 1 16 g_law [.frz (ns.map D.int)] [] = _
  rw [runD_ap (i := 1) (ds := [D.frz (ns.map D.int)]) rfl, law_g, seqM_ap, t0, sq_nx]
  show ri (seqM h0 _ [some (.sh (.frz (ns.map D.int))), some (.sh (.cell 0)), none, none, none, none, none, none, none, none, none, none, none, none, none, none] [bagC cs 0 0 m 0]) = _
  rw [seqM_ap, w0, sq_nx, seqM_ap, w1, sq_nx, seqM_ap, hd, sq_nx, seqM_ap, forM_ap, rngM1_ap, acons_ap, cst_ap, bo_ok, bnd_ap, anil_ap, bo_ok, ret_ap, bo_ok, r1, lift_so, bo_ok, t, sq_nx]
  rfl
end L2.DL.K01

open PySem PySem.W PyProof.Rows
set_option maxRecDepth 100000 in
set_option maxHeartbeats 0 in
theorem PySem.Challenge.cw_shapebetween_k01_limits_told_holds : PySem.Challenge.rw_shapebetween_k01_limits_told.Holds := by
  w_on; o_law; k_head; (case hw => w_witness2)
  k_fill
  refine L2.DL.walk_D (l := PySem.Challenge.rw_shapebetween_k01_limits_told) (n := 63) (G := L2.DL.K01.G_law) (x := "_law_script") rfl (by decide) rfl (fun w h Y => PySem.W.kIn_of Y) ?F L2.DL.K01.answer
  case F =>
    intro w mg fa h KX G hmg
    refine' L2.DL.K01.all_mk KX G hmg ?g_WORDS ?l_WORDS ?f_WORDS ?z_WORDS ?g_LIMITS ?l_LIMITS ?f_LIMITS ?z_LIMITS ?g_UnknownName ?g_TooMany ?xl_UnknownName ?xr_UnknownName ?xo_UnknownName ?xs_UnknownName ?xe_UnknownName ?xt_UnknownName ?xk_UnknownName ?xi_UnknownName ?xf_UnknownName ?xc_UnknownName ?xd_UnknownName ?xp_UnknownName ?xg_UnknownName ?xh_UnknownName ?xj_UnknownName ?xn_UnknownName_code ?xn_UnknownName_count ?xn_UnknownName_name ?xn_UnknownName_what ?xl_TooMany ?xr_TooMany ?xo_TooMany ?xs_TooMany ?xe_TooMany ?xt_TooMany ?xk_TooMany ?xi_TooMany ?xf_TooMany ?xc_TooMany ?xd_TooMany ?xp_TooMany ?xg_TooMany ?xh_TooMany ?xj_TooMany ?xn_TooMany_code ?xn_TooMany_count ?xn_TooMany_name ?xn_TooMany_what ?ic_UnknownName ?sb_UnknownName_UnknownName ?sb_TooMany_UnknownName ?ic_TooMany ?sb_UnknownName_TooMany ?sb_TooMany_TooMany ?bz_abs ?bz_all ?bz_bool ?bz_int ?bz_isinstance ?bz_len ?bz_list ?bz_range ?bz_repr ?bz_str ?bz_tuple ?bz_zip ?a_flimit_of ?l_flimit_of ?c_flimit_of ?k_flimit_of ?a_fcheck_limit ?l_fcheck_limit ?c_fcheck_limit ?k_fcheck_limit ?a_flbag ?l_flbag ?c_flbag ?k_flbag ?a_fldraw ?l_fldraw ?c_fldraw ?k_fldraw ?a_flof ?l_flof ?c_flof ?k_flof ?a_flsame ?l_flsame ?c_flsame ?k_flsame ?a_fllimit ?l_fllimit ?c_fllimit ?k_fllimit ?a_flchecked ?l_flchecked ?c_flchecked ?k_flchecked ?a_flaw ?l_flaw ?c_flaw ?k_flaw
    (case g_WORDS => k_is)
    (case l_WORDS => k_is)
    (case f_WORDS => repeat (first | exact .nil | refine .cons (by constructor) ?_))
    (case z_WORDS => decide +kernel)
    (case g_LIMITS => k_is)
    (case l_LIMITS => k_is)
    (case f_LIMITS => repeat (first | exact .nil | refine .cons (by constructor) ?_))
    (case z_LIMITS => decide +kernel)
    (case g_UnknownName => k_is)
    (case g_TooMany => k_is)
    (case xl_UnknownName => k_is)
    (case xr_UnknownName => decide +kernel)
    (case xo_UnknownName => decide +kernel)
    (case xs_UnknownName => k_is)
    (case xe_UnknownName => k_is)
    (case xt_UnknownName => k_is)
    (case xk_UnknownName => k_is)
    (case xi_UnknownName => k_is)
    (case xf_UnknownName => k_is)
    (case xc_UnknownName => k_is)
    (case xd_UnknownName => k_is)
    (case xp_UnknownName => k_is)
    (case xg_UnknownName => k_is)
    (case xh_UnknownName => k_is)
    (case xj_UnknownName => k_is)
    (case xn_UnknownName_code => k_is)
    (case xn_UnknownName_count => k_is)
    (case xn_UnknownName_name => k_is)
    (case xn_UnknownName_what => k_is)
    (case xl_TooMany => k_is)
    (case xr_TooMany => decide +kernel)
    (case xo_TooMany => decide +kernel)
    (case xs_TooMany => k_is)
    (case xe_TooMany => k_is)
    (case xt_TooMany => k_is)
    (case xk_TooMany => k_is)
    (case xi_TooMany => k_is)
    (case xf_TooMany => k_is)
    (case xc_TooMany => k_is)
    (case xd_TooMany => k_is)
    (case xp_TooMany => k_is)
    (case xg_TooMany => k_is)
    (case xh_TooMany => k_is)
    (case xj_TooMany => k_is)
    (case xn_TooMany_code => k_is)
    (case xn_TooMany_count => k_is)
    (case xn_TooMany_name => k_is)
    (case xn_TooMany_what => k_is)
    (case ic_UnknownName => k_is)
    (case sb_UnknownName_UnknownName => k_is)
    (case sb_TooMany_UnknownName => k_is)
    (case ic_TooMany => k_is)
    (case sb_UnknownName_TooMany => k_is)
    (case sb_TooMany_TooMany => k_is)
    (case bz_abs => k_is)
    (case bz_all => k_is)
    (case bz_bool => k_is)
    (case bz_int => k_is)
    (case bz_isinstance => k_is)
    (case bz_len => k_is)
    (case bz_list => k_is)
    (case bz_range => k_is)
    (case bz_repr => k_is)
    (case bz_str => k_is)
    (case bz_tuple => k_is)
    (case bz_zip => k_is)
    (case a_flimit_of => k_is)
    (case l_flimit_of => k_is)
    (case c_flimit_of => k_is)
    (case k_flimit_of => k_is)
    (case a_fcheck_limit => k_is)
    (case l_fcheck_limit => k_is)
    (case c_fcheck_limit => k_is)
    (case k_fcheck_limit => k_is)
    (case a_flbag => k_is)
    (case l_flbag => k_is)
    (case c_flbag => k_is)
    (case k_flbag => k_is)
    (case a_fldraw => k_is)
    (case l_fldraw => k_is)
    (case c_fldraw => k_is)
    (case k_fldraw => k_is)
    (case a_flof => k_is)
    (case l_flof => k_is)
    (case c_flof => k_is)
    (case k_flof => k_is)
    (case a_flsame => k_is)
    (case l_flsame => k_is)
    (case c_flsame => k_is)
    (case k_flsame => k_is)
    (case a_fllimit => k_is)
    (case l_fllimit => k_is)
    (case c_fllimit => k_is)
    (case k_fllimit => k_is)
    (case a_flchecked => k_is)
    (case l_flchecked => k_is)
    (case c_flchecked => k_is)
    (case k_flchecked => k_is)
    (case a_flaw => k_is)
    (case l_flaw => k_is)
    (case c_flaw => k_is)
    (case k_flaw => k_is)

