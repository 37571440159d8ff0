import PyProof.Rows.All
import Wide.All
import OpenK.AllK
import Wide.FinOn
import HandS.ForMost
import HandS.Exc
import HandS.TryMany
import HandS.CallSlots
import HandS.IsInst
import HandS.Wide
import HandS.TupAny
import HandS.Strs
import HandS.Flow
import HandS.DeepEq
import HandS.Style
import HandS.Text
import HandS.Dict
import HandS.Iter
import HandS.Zip
import HandS.Comp
import HandS.SortInts
import HandS.WordsExc
import HandS.ExcField
import HandS.ExcInit
import KE.KExcInit
import HandS.Defaults
import HandS.Ends
import HandS.FStr
import KE.KRevSl
import HandS.Conv
import HandS.MakeKwOnly
import HandS.OwnEq
import PyProof.ReprLen
import PySem.Challenge.RW_shapebetween_k02_keys_lots_and_names
set_option Elab.async false
set_option linter.all false
set_option maxRecDepth 100000
set_option maxHeartbeats 4000000
/-! DLT: tuples that are tracked with their very object (so that they are known to have no dict of their own): display, +, slice, tuple(list), index. -/
namespace L2.DL
open PySem PySem.Spec PyProof.Rows
/-- a tuple's object -/
def tupOb (its : List Value) : Obj := { cls := .type "tuple", data := .seq its.toArray }
/-- at a new address: a tuple of xs, its object known -/
def NewT (xs : List V) (H : Hp) (Q : VK) : Prop := ∀ p o, H p = none → o.cls = .type "tuple" → o.dict = none → Q (.ref p) (upd H p (.frz o (.tup xs)))
section
variable {X : Cx} {es : List Expr} {t : TA} {pos : Pos}
theorem laidT {pins : List (Addr × Obj)} {σ : L2.St} {H : Hp} {s : Shared} {its : List Value} {xs : List V} {Q : VK} (I : Inv X pins σ H s) (r : Vals xs its) (hz : xs.length ≤ sizeLine) (q : NewT xs H Q) :
    EP X pins σ Q (.ref s.heap.objs.size) { s with heap := s.heap.push (tupOb its) } := by
  have new : ObjOk X.prog X.w (upd H s.heap.objs.size (.frz (tupOb its) (.tup xs))) (s.heap.push (tupOb its)) s.heap.objs.size (.frz (tupOb its) (.tup xs)) :=
    ⟨Heap.get?_push_size _ rfl, hz, its, r, ⟨_, Heap.get?_push_size _ rfl, rfl, _, rfl⟩⟩
  exact ⟨.ref s.heap.objs.size, _, I.laid (t' := s.toks) (fun b u e => Heap.get?_push_of_some _ e) (Nat.le_refl _) new, rfl, q _ _ (I.hok.fresh (Nat.le_refl _)) rfl rfl⟩
def tTupX (t : TA) : TE := fun σ H Q => t σ H fun xs H1 => xs.length ≤ sizeLine ∧ NewT xs H1 Q
theorem pe_tupX {n} (h : PA X es t) : PE X (.Tuple es n pos) (tTupX t) := by
  refine ⟨fun pins s σ H Q I hq => wpAny_Tuple_spliced (thn (h.run pos pins s σ H _ I hq) fun us s1 ⟨xs, H1, I1, r, z, q⟩ => ?_)⟩
  exact ⟨by rw [← r.length]; exact z, laidT I1 r z q⟩
def rCatX (K : PySem.W.Frag) : R2 := fun x y H Q => ∃ a b xs ys, x = .ref a ∧ y = .ref b ∧ SqT K H a xs ∧ SqT K H b ys ∧ xs.length + ys.length ≤ sizeLine ∧ (xs = [] → Q (.ref b) H) ∧ (xs ≠ [] → ys = [] → Q (.ref a) H) ∧ (xs ≠ [] → ys ≠ [] → NewT (xs ++ ys) H Q)
theorem op_catX : OpR X (binaryOp .Add) (rCatX X.K) := by
  rintro pins s σ H x y v u Q I rx ry ⟨a, b, xs, ys, rfl, rfl, ha, hb, hz, q0, q1, q2⟩
  by_cases hx : xs = []
  · exact op_catA pins s σ H _ _ v u Q I rx ry ⟨a, b, xs, ys, rfl, rfl, ha, hb, hz, q0, fun n => (n hx).elim, fun n => (n hx).elim⟩
  · cases rx
    cases ry
    obtain ⟨i1, r1, p1, _⟩ := I.tuple ha
    obtain ⟨i2, r2, p2, _⟩ := I.tuple hb
    have n1 : i1 ≠ [] := fun z => hx (r1.nil_iff.mp z)
    refine HT.cat_tup p1 p2 n1 (fun z => ⟨.ref a, H, I, rfl, q1 hx (r2.nil_iff.mp z)⟩) (fun z => ?_) (by rw [← r1.length, ← r2.length]; exact hz)
    exact laidT I (r1.append r2) (by rw [List.length_append]; exact hz) (q2 hx fun e => z (r2.nil_iff.mpr e))
def rSlX (K : PySem.W.Frag) : V → Option Int → Option Int → Hp → VK → Prop := fun x lo hi H Q => ∃ a xs, x = .ref a ∧ SqT K H a xs ∧ (HT.sIx xs.length 0 lo = 0 ∧ HT.sIx xs.length xs.length hi = xs.length → Q (.ref a) H) ∧
  (¬ (HT.sIx xs.length 0 lo = 0 ∧ HT.sIx xs.length xs.length hi = xs.length) → NewT (cutV xs lo hi) H Q)
theorem sl_tupX : SlR X (rSlX X.K) := by
  rintro pins s σ H x v vl vu lo hi sl Q I rx hs pl pu ⟨a, xs, rfl, hx, q1, q2⟩
  by_cases hw : HT.sIx xs.length 0 lo = 0 ∧ HT.sIx xs.length xs.length hi = xs.length
  · exact sl_tupA pins s σ H _ v vl vu lo hi sl Q I rx hs pl pu ⟨a, xs, rfl, hx, q1, fun n => (n hw).elim⟩
  · cases rx
    obtain ⟨its, r, ht, hz⟩ := I.tuple hx
    have hl : its.toArray.size = xs.length := by rw [List.size_toArray]; exact r.length.symm
    refine ⟨"tuple", _, PyProof.Rows.slot_tuple_getitem.lookup, ht.typeIs, HT.getItem_tuple_cut ht hs pl pu (by rw [hl]; exact hw) ?_ (by rw [hl]; exact hz)⟩
    rw [hl]
    exact laidT I ((r.drop _).take _) (Nat.le_trans (cutV_length xs lo hi) hz) (q2 hw)
theorem call_tupleX : CallR X (.type "tuple") (fun xs H Q => ∃ p ys, xs = [.ref p] ∧ ((SqL X.K H p ys ∧ NewT ys H Q) ∨ (SqT X.K H p ys ∧ Q (.ref p) H))) := by
  rintro pins s σ H xs us Q I r ⟨p, ys, rfl, h⟩
  rcases h with ⟨hq, q⟩ | h
  · obtain ⟨u, rfl, rx⟩ := vals1 r
    cases rx
    obtain ⟨its, r', pl, hz⟩ := I.list hq
    have hlen := r'.length
    refine call_tuple_list pl.isList (fun h' kp => ?_) (by simp only [List.size_toArray] <;> omega)
    exact laidT (s := { s with heap := h' }) (I.kept (t' := s.toks) kp) r' hz q
  · exact call_tuple_of pins s σ H _ us Q I r ⟨p, ys, rfl, .inr h⟩
/-- t.index(y), flat things: the first place -/
def rTupIx (K : PySem.W.Frag) : V → List V → Hp → VK → Prop := fun x xs H Q => ∃ (a : Addr) (ys : List V) (y : V) (j : Nat) (z : V), x = .ref a ∧ xs = [y] ∧ SqT K H a ys ∧ flatV y = true ∧ ys.all flatV = true ∧ ys[j]? = some z ∧ eqV z y = true ∧
  (∀ (m : Nat) (w : V), m < j → ys[m]? = some w → eqV w y = false) ∧ Q (.int (j : Nat)) H
theorem mt_tupIx : MtR X "tuple.index" (rTupIx X.K) := by
  rintro pins s σ H x xs v us Q I rx rxs ⟨a, ys, y, j, z, rfl, rfl, hs, fy, fys, hz, hzj, hno, q⟩
  cases rx
  obtain ⟨uy, rfl, ry⟩ := vals1 rxs
  obtain ⟨its, rv, pl, hl⟩ := I.tuple hs
  obtain ⟨⟨cls, dd, data, sl⟩, ho, hc, n, hd⟩ := pl
  simp only at hc hd
  subst hc
  subst hd
  obtain ⟨u, hu, ru⟩ := rv.get hz
  have hj : j < its.toArray.size := by simpa using (List.getElem?_eq_some_iff.mp hu).1
  refine call_meets PySem.F.slot_tuple_index ⟨_, ho, rfl⟩ PySem.F.entry_tuple_index (PySem.F.args_tuple_index_2 _ _) (TI.tuple_indexAt a its.toArray n dd sl uy (eqU y) j hj ?_ ?_)
    ⟨ho, fun w hw => mem_eqAt ry fy rv fys w (by simpa using hw), ⟨.int (j : Nat), H, I.tok _, ⟨_, rfl⟩, q⟩⟩
  · have e : its.toArray[j] = u := by simpa using (List.getElem?_eq_some_iff.mp hu).2
    rw [e, eqU_of ru (flat_at fys hz)]
    exact hzj
  · intro m hm hmj
    have hm2 : m < ys.length := by have := rv.length; have : m < its.length := by simpa using hm
                                   omega
    obtain ⟨w, hw, rw'⟩ := rv.get (List.getElem?_eq_getElem hm2)
    have e : its.toArray[m] = w := by simpa using (List.getElem?_eq_some_iff.mp hw).2
    rw [e, eqU_of rw' (flat_at fys (List.getElem?_eq_getElem hm2))]
    exact hno m _ hmj (List.getElem?_eq_getElem hm2)
/-- a method of a tuple whose object has no dict of its own -/
def TupNd (K : PySem.W.Frag) (H : Hp) (x : V) : Prop := ∃ a, x = .ref a ∧ ((∃ o u, H a = some (.frz o u) ∧ o.cls = .type "tuple" ∧ o.dict = none) ∨ ∃ o, K.lookup a = some o ∧ o.cls = .type "tuple" ∧ o.dict = none)
variable {o e : Expr} {to : TE} {name : Str} {apos : Pos} {id : String} {r : V → List V → Hp → VK → Prop}
def tTM (K : PySem.W.Frag) (r : V → List V → Hp → VK → Prop) (to : TE) (t : TA) : TE := fun σ H Q => to σ H fun x H1 => TupNd K H1 x ∧ t σ H1 fun xs H2 => r x xs H2 Q
theorem pe_tm (slot : Slot "tuple" name id) (hty : typeOf (.builtin id) = pure (.type "method_descriptor")) (hm : MtR X id r) (ho : PE X o to) (ha : PA X (e :: es) t) (hbase : attributeBase o name X.env (eval o X.env) = eval o X.env := by rfl)
    (hfew : ((backTo pos (starEach (e :: es) X.env)).all (fun y => !y.1) && (backToKw pos (keywordEach [] X.env)).all (fun y => y.1.isSome) && decide ((e :: es).length + ([] : List Keyword).length + (if ([] : List Keyword).isEmpty then 0 else 1) < 30)) = true := by rfl)
    (hline : (apos.endLine == pos.line) = true := by rfl) (hs : starEach (e :: es) X.env = (false, eval e X.env) :: starEach es X.env := by rfl) (hpl : (backTo pos (starEach es X.env)).any (·.1) = false := by rfl) :
    PE X (.Call (.Attribute o name apos) (e :: es) [] pos) (tTM X.K r to t) := ⟨fun pins s σ H Q I h => by
  refine wpAny_Call_method_late hbase hfew hline rfl (thn (ho.run pins s σ H _ I h) fun v s1 ⟨x, H1, I1, r1, ty, q1⟩ => ?_)
  obtain ⟨a, rfl, ty⟩ := ty
  obtain rfl : v = Value.ref a := r1
  have tyI : ∃ ob, s1.heap.get? a = some ob ∧ ob.cls = .type "tuple" ∧ ob.dict = none := by
    rcases ty with ⟨ob, u, hH, hc, hd⟩ | ⟨ob, hk, hc, hd⟩
    · exact ⟨ob, (I1.hok a _ hH).1, hc, hd⟩
    · exact ⟨ob, I1.kIn a ob hk, hc, hd⟩
  obtain ⟨ob, g1, g2, g3⟩ := tyI
  refine ⟨"tuple", id, PySem.F.plainAttrs_tuple, slot, hty, ⟨ob, g1, g2⟩, fun b eb => (by cases eb; exact ⟨ob, g1, g3⟩), ?_⟩
  have hA := ha.run pos pins s1 σ H1 _ I1 q1
  rw [hs] at hA ⊢
  refine Calls.callWith_builtin (by show (false || (backTo pos (starEach es X.env)).any (·.1)) = false; rw [hpl]; rfl) (Calls.evalArgs_plain (thn hA fun us s2 ⟨vs, H2, I2, r2, q2⟩ => ?_))
  exact hm pins s2 σ H2 (.ref a) vs (.ref a) us Q I2 rfl r2 q2⟩
end
end L2.DL

/-! DL1: values as trees (D), what stands for them in the heap (Rep), a def's state (Rl), canonical readings. -/
namespace L2.DL
open PySem PySem.Spec PyProof.Rows

/-- a value as a tree; cell n: a thing that may change, by its place in the store -/
inductive D where
  | non | bl (b : Bool) | int (i : Int) | str (s : Str)
  | tup (xs : List D) | lst (xs : List D) | frz (xs : List D)
  | dct (ks : List Key) (vs : List D)
  | ins (c : Str) (ns : List Str) (vs : List D)
  | cell (n : Nat)
inductive Cell where
  | lst (ds : List D) | dct (ks : List Key) (vs : List D) | ins (c : Str) (ns : List Str) (vs : List D)
/-- what a name holds: shared, owned (nobody else sees it), an instance being made, the error of an except suite -/
inductive Ent where
  | sh (d : D) | ow (d : D) | bd (c : Str) (ns : List Str) (vs : List D) | eh (c : Str) (ns : List Str) (vs : List D)
abbrev Env := List (Option Ent)
abbrev Sto := List Cell
inductive O (α : Type) where
  | ok (a : α) (ρ : Env) (μ : Sto)
  | ex (c : Str) (ns : List Str) (vs : List D) (ρ : Env) (μ : Sto)
  | no
abbrev Mo (α : Type) := Env → Sto → O α
def ret {α : Type} (a : α) : Mo α := fun ρ μ => .ok a ρ μ
def no {α : Type} : Mo α := fun _ _ => .no
def bnd {α β : Type} (f : Mo α) (g : α → Mo β) : Mo β := fun ρ μ => match f ρ μ with
  | .ok a ρ' μ' => g a ρ' μ'
  | .ex c ns vs ρ' μ' => .ex c ns vs ρ' μ'
  | .no => .no
def lift {α : Type} (o : Option α) : Mo α := fun ρ μ => match o with
  | some a => .ok a ρ μ
  | none => .no

/-! ### what stands for a tree -/
structure RC where
  K : PySem.W.Frag
  mg : Str → Option Value
  A : Addr → Prop
  B : Addr → Prop
  C : List Addr
  H : Hp
def RC.Tup (r : RC) (a : Addr) (vs : List V) : Prop := (¬ r.A a ∧ ∃ o, r.H a = some (.frz o (.tup vs)) ∧ o.cls = .type "tuple" ∧ o.dict = none) ∨
  ∃ (o : Obj) (its : Array Value) (n : Nat), r.K.lookup a = some o ∧ o.cls = .type "tuple" ∧ o.dict = none ∧ o.data = .seq its n ∧ its.size ≤ sizeLine ∧ Vals vs its.toList
def RC.Lst (r : RC) (a : Addr) (vs : List V) : Prop := (¬ r.A a ∧ Rd r.H a (.lst vs)) ∨ SqL r.K (fun _ => none) a vs
mutual
inductive Rep (r : RC) : V → D → Prop where
  | non : Rep r .non .non
  | bl (b : Bool) : Rep r (.bl b) (.bl b)
  | int (i : Int) : Rep r (.int i) (.int i)
  | str (s : Str) : Rep r (.str s) (.str s)
  | tup {a : Addr} {vs : List V} {ds : List D} (h : r.Tup a vs) (q : Reps r vs ds) : Rep r (.ref a) (.tup ds)
  | lst {a : Addr} {vs : List V} {ds : List D} (h : r.H a = some (.lst vs)) (n : ¬ r.A a) (q : Reps r vs ds) : Rep r (.ref a) (.lst ds)
  | frz {a : Addr} {vs : List V} {ds : List D} (h : r.Lst a vs) (q : Reps r vs ds) : Rep r (.ref a) (.frz ds)
  | dct {a : Addr} {kvs : List (Key × V)} {ks : List Key} {ds : List D} (h : r.H a = some (.dK kvs)) (n : ¬ r.A a) (e : kvs.map (·.1) = ks) (q : Reps r (kvs.map (·.2)) ds) : Rep r (.ref a) (.dct ks ds)
  | ins {a Cc dx : Addr} {fs : List (Str × V)} {c : Str} {ns : List Str} {ds : List D} (h : r.H a = some (.ins Cc dx fs)) (n : ¬ r.A a) (g : r.mg c = some (.ref Cc)) (e : fs.map (·.1) = ns)
      (q : Reps r (fs.map (·.2)) ds) : Rep r (.ref a) (.ins c ns ds)
  | cell {a : Addr} {n : Nat} (h : r.C[n]? = some a) : Rep r (.ref a) (.cell n)
inductive Reps (r : RC) : List V → List D → Prop where
  | nil : Reps r [] []
  | cons {v : V} {d : D} {vs : List V} {ds : List D} (h : Rep r v d) (t : Reps r vs ds) : Reps r (v :: vs) (d :: ds)
end
/-- what a tree's standing leans on -/
structure Stq (r r' : RC) : Prop where
  k : r'.K = r.K
  g : r'.mg = r.mg
  a : ∀ b, r'.A b → r.A b ∨ r.H b = none
  c : ∃ m, r'.C = r.C ++ m
  h : ∀ b o, r.H b = some o → ¬ r.A b → r'.H b = some o
/-- from one state to a later one -/
structure Stp (r r' : RC) : Prop where
  k : r'.K = r.K
  g : r'.mg = r.mg
  a : ∀ b, r'.A b → r.A b ∨ r.H b = none
  c : ∃ m, r'.C = r.C ++ m
  h : ∀ b o, r.H b = some o → ¬ r.A b → r'.H b = some o
  l : ∀ b o, r.H b = some o → ∃ o', r'.H b = some o'
  m : ∀ b, r.B b → r'.B b
  n : ∀ b o, r.H b = some o → r.B b → r'.H b = some o
theorem Stp.q {r r' : RC} (S : Stp r r') : Stq r r' := ⟨S.k, S.g, S.a, S.c, S.h⟩
theorem Stq.na {r r' : RC} (S : Stq r r') {b : Addr} {o : HO} (h : r.H b = some o) (n : ¬ r.A b) : ¬ r'.A b := fun z => by
  rcases S.a b z with q | q
  · exact n q
  · rw [h] at q; cases q
theorem Stq.rd {r r' : RC} (S : Stq r r') {b : Addr} {u : HO} (n : ¬ r.A b) (h : Rd r.H b u) : ¬ r'.A b ∧ Rd r'.H b u := by
  rcases h with h | ⟨o, h⟩
  · exact ⟨S.na h n, .inl (S.h _ _ h n)⟩
  · exact ⟨S.na h n, .inr ⟨o, S.h _ _ h n⟩⟩
theorem Stq.tup {r r' : RC} (S : Stq r r') {a : Addr} {vs : List V} (h : r.Tup a vs) : r'.Tup a vs := by
  rcases h with ⟨n, o, h, h2⟩ | h
  · exact .inl ⟨S.na h n, o, S.h _ _ h n, h2⟩
  · exact .inr (by rw [S.k]; exact h)
theorem Stq.lst {r r' : RC} (S : Stq r r') {a : Addr} {vs : List V} (h : r.Lst a vs) : r'.Lst a vs := by
  rcases h with ⟨n, h⟩ | h
  · exact .inl (S.rd n h)
  · exact .inr (by rw [S.k]; exact h)
mutual
theorem Rep.stq {r r' : RC} (S : Stq r r') : ∀ {v : V} {d : D}, Rep r v d → Rep r' v d
  | _, _, .non => .non
  | _, _, .bl b => .bl b
  | _, _, .int i => .int i
  | _, _, .str s => .str s
  | _, _, .tup h q => .tup (S.tup h) (Reps.stq S q)
  | _, _, .lst h n q => .lst (S.h _ _ h n) (S.na h n) (Reps.stq S q)
  | _, _, .frz h q => .frz (S.lst h) (Reps.stq S q)
  | _, _, .dct h n e q => .dct (S.h _ _ h n) (S.na h n) e (Reps.stq S q)
  | _, _, .ins h n g e q => .ins (S.h _ _ h n) (S.na h n) (by rw [S.g]; exact g) e (Reps.stq S q)
  | _, _, .cell h => .cell (by
      obtain ⟨m, e⟩ := S.c
      rw [e, List.getElem?_append_left (List.getElem?_eq_some_iff.mp h).1]
      exact h)
theorem Reps.stq {r r' : RC} (S : Stq r r') : ∀ {vs : List V} {ds : List D}, Reps r vs ds → Reps r' vs ds
  | _, _, .nil => .nil
  | _, _, .cons h t => .cons (Rep.stq S h) (Reps.stq S t)
end
theorem Stp.refl (r : RC) : Stp r r := ⟨rfl, rfl, fun _ h => .inl h, ⟨[], by simp⟩, fun _ _ h _ => h, fun _ o h => ⟨o, h⟩, fun _ h => h, fun _ _ h _ => h⟩
theorem Stp.na {r r' : RC} (S : Stp r r') {b : Addr} {o : HO} (h : r.H b = some o) (n : ¬ r.A b) : ¬ r'.A b := fun z => by
  rcases S.a b z with q | q
  · exact n q
  · rw [h] at q; cases q
theorem Stp.trans {r r1 r2 : RC} (S : Stp r r1) (T : Stp r1 r2) : Stp r r2 := by
  refine ⟨T.k.trans S.k, T.g.trans S.g, fun b z => ?_, ?_, fun b o h n => T.h b o (S.h b o h n) (S.na h n), fun b o h => ?_, fun b h => T.m b (S.m b h), fun b o h z => T.n b o (S.n b o h z) (S.m b z)⟩
  · rcases T.a b z with q | q
    · exact S.a b q
    · right
      cases e : r.H b with
      | none => rfl
      | some o =>
        obtain ⟨o', e'⟩ := S.l b o e
        rw [q] at e'; cases e'
  · obtain ⟨m, e⟩ := S.c
    obtain ⟨m', e'⟩ := T.c
    exact ⟨m ++ m', by rw [e', e, List.append_assoc]⟩
  · obtain ⟨o', e'⟩ := S.l b o h
    exact T.l b o' e'
theorem Stp.tup {r r' : RC} (S : Stp r r') {a : Addr} {vs : List V} (h : r.Tup a vs) : r'.Tup a vs := S.q.tup h
theorem Stp.lst {r r' : RC} (S : Stp r r') {a : Addr} {vs : List V} (h : r.Lst a vs) : r'.Lst a vs := S.q.lst h
theorem Rep.step {r r' : RC} (S : Stp r r') {v : V} {d : D} (h : Rep r v d) : Rep r' v d := h.stq S.q
theorem Reps.step {r r' : RC} (S : Stp r r') {vs : List V} {ds : List D} (h : Reps r vs ds) : Reps r' vs ds := h.stq S.q
theorem Reps.length {r : RC} : ∀ {vs : List V} {ds : List D}, Reps r vs ds → vs.length = ds.length
  | _, _, .nil => rfl
  | _, _, .cons _ t => congrArg (· + 1) (Reps.length t)
theorem Reps.append {r : RC} : ∀ {vs ws : List V} {ds es : List D}, Reps r vs ds → Reps r ws es → Reps r (vs ++ ws) (ds ++ es)
  | _, _, _, _, .nil, q => q
  | _, _, _, _, .cons h t, q => .cons h (Reps.append t q)
theorem Reps.get {r : RC} : ∀ {vs : List V} {ds : List D} {i : Nat} {d : D}, Reps r vs ds → ds[i]? = some d → ∃ v, vs[i]? = some v ∧ Rep r v d
  | _, _, _, _, .nil, e => by simp at e
  | _, _, 0, _, .cons h _, e => by simp at e; subst e; exact ⟨_, rfl, h⟩
  | _, _, i + 1, _, .cons _ t, e => by
    obtain ⟨v, h1, h2⟩ := Reps.get (i := i) t (by simpa using e)
    exact ⟨v, by simpa using h1, h2⟩
theorem Reps.getV {r : RC} : ∀ {vs : List V} {ds : List D} {i : Nat} {v : V}, Reps r vs ds → vs[i]? = some v → ∃ d, ds[i]? = some d ∧ Rep r v d
  | _, _, _, _, .nil, e => by simp at e
  | _, _, 0, _, .cons h _, e => by simp at e; subst e; exact ⟨_, rfl, h⟩
  | _, _, i + 1, _, .cons _ t, e => by
    obtain ⟨v, h1, h2⟩ := Reps.getV (i := i) t (by simpa using e)
    exact ⟨v, by simpa using h1, h2⟩
theorem Reps.set {r : RC} {v : V} {d : D} (h : Rep r v d) : ∀ {vs : List V} {ds : List D} (i : Nat), Reps r vs ds → Reps r (vs.set i v) (ds.set i d)
  | _, _, _, .nil => .nil
  | _, _, 0, .cons _ t => .cons h t
  | _, _, i + 1, .cons q t => .cons q (Reps.set h i t)
theorem Reps.take {r : RC} : ∀ {vs : List V} {ds : List D} (n : Nat), Reps r vs ds → Reps r (vs.take n) (ds.take n)
  | _, _, 0, _ => by simp; exact .nil
  | _, _, _ + 1, .nil => by simp; exact .nil
  | _, _, n + 1, .cons q t => by simp; exact .cons q (Reps.take n t)
theorem Reps.drop {r : RC} : ∀ {vs : List V} {ds : List D} (n : Nat), Reps r vs ds → Reps r (vs.drop n) (ds.drop n)
  | _, _, 0, q => q
  | _, _, _ + 1, .nil => by simp; exact .nil
  | _, _, n + 1, .cons _ t => by simp; exact Reps.drop n t
theorem Reps.one {r : RC} {v : V} {d : D} (h : Rep r v d) : Reps r [v] [d] := .cons h .nil
theorem Reps.reverse {r : RC} : ∀ {vs : List V} {ds : List D}, Reps r vs ds → Reps r vs.reverse ds.reverse
  | _, _, .nil => .nil
  | _, _, .cons h t => by
    rw [List.reverse_cons, List.reverse_cons]
    exact (Reps.reverse t).append (.one h)
theorem Reps.map {r : RC} {f : D → D} {g : V → V} (h : ∀ v d, Rep r v d → Rep r (g v) (f d)) : ∀ {vs : List V} {ds : List D}, Reps r vs ds → Reps r (vs.map g) (ds.map f)
  | _, _, .nil => .nil
  | _, _, .cons q t => .cons (h _ _ q) (Reps.map h t)
theorem Reps.flat {r : RC} {f : List D} {g : List V} (h : Reps r g f) : ∀ n : Nat, Reps r (List.replicate n g).flatten (List.replicate n f).flatten
  | 0 => .nil
  | n + 1 => by
    rw [List.replicate_succ, List.replicate_succ, List.flatten_cons, List.flatten_cons]
    exact h.append (Reps.flat h n)

/-! ### a def's state -/
structure Ctx where
  H0 : Hp
  A0 : Addr → Prop
  C0 : List Addr
  M0 : Addr → Prop
  W : WX
  eh : Option (Addr × Addr)
  ec : Str
  self : Option Addr
/-- the objects that only a slot holds; none: a thing under way that nothing may change -/
abbrev Os := List (Option Nat × Addr)
def AA (Φ : Ctx) (C : List Addr) (os : Os) : Addr → Prop := fun a => Φ.A0 a ∨ a ∈ C ∨ ∃ i, (i, a) ∈ os
def rcK (Φ : Ctx) (K : PySem.W.Frag) (mg : Str → Option Value) (C : List Addr) (os : Os) (H : Hp) : RC := ⟨K, mg, AA Φ C os, fun a => (none, a) ∈ os, C, H⟩
abbrev rc (Φ : Ctx) (X : Cx) (C : List Addr) (os : Os) (H : Hp) : RC := rcK Φ X.K X.mg C os H
/-- the content of an owned object -/
def OwnR (r : RC) (a : Addr) : D → Prop
  | .lst ds => ∃ vs, r.H a = some (.lst vs) ∧ Reps r vs ds
  | .dct ks ds => ∃ kvs, r.H a = some (.dK kvs) ∧ kvs.map (·.1) = ks ∧ Reps r (kvs.map (·.2)) ds
  | _ => False
def BdR (r : RC) (a : Addr) (c : Str) (ns : List Str) (ds : List D) : Prop :=
  ∃ Cc dx fs, r.H a = some (.ins Cc dx fs) ∧ r.mg c = some (.ref Cc) ∧ fs.map (·.1) = ns ∧ Reps r (fs.map (·.2)) ds
def EhR (r : RC) (dx : Addr) (c : Str) (ns : List Str) (ds : List D) : Prop :=
  ∃ fs, r.H dx = some (.xd fs) ∧ ¬ r.A dx ∧ fs.map (·.1) = ns ∧ Reps r (fs.map (·.2)) ds
def EntR (Φ : Ctx) (r : RC) (os : Os) (i : Nat) (v : V) : Ent → Prop
  | .sh d => Rep r v d
  | .ow d => ∃ a, v = .ref a ∧ (some i, a) ∈ os ∧ OwnR r a d
  | .bd c ns ds => ∃ a, (v = .ref a ∧ Φ.self = some a) ∧ (some i, a) ∈ os ∧ BdR r a c ns ds
  | .eh c ns ds => ∃ a dx, v = .ref a ∧ (Φ.eh = some (a, dx) ∧ Φ.ec = c) ∧ EhR r dx c ns ds
def CellR (r : RC) (a : Addr) : Cell → Prop
  | .lst ds => ∃ vs, r.H a = some (.lst vs) ∧ Reps r vs ds
  | .dct ks ds => ∃ kvs, r.H a = some (.dK kvs) ∧ kvs.map (·.1) = ks ∧ Reps r (kvs.map (·.2)) ds
  | .ins c ns ds => BdR r a c ns ds
def StoR (r : RC) (μ : Sto) : Prop := r.C.length = μ.length ∧ ∀ (n : Nat) a c, r.C[n]? = some a → μ[n]? = some c → CellR r a c
structure RlK (Φ : Ctx) (K : PySem.W.Frag) (mg : Str → Option Value) (ρ : Env) (μ : Sto) (C : List Addr) (os : Os) (σ : St) (H : Hp) : Prop where
  len : ρ.length = σ.length
  env : ∀ (i : Nat) e, ρ[i]? = some (some e) → ∃ v, σ[i]? = some (some v) ∧ EntR Φ (rcK Φ K mg C os H) os i v e
  sto : StoR (rcK Φ K mg C os H) μ
  own : ∀ i j a, (i, a) ∈ os → (j, a) ∈ os → i = j
  fre : ∀ i a, (i, a) ∈ os → (Φ.H0 a = none ∨ Φ.M0 a) ∧ a ∉ C ∧ ¬ Φ.A0 a ∧ ∃ o, H a = some o
  pre : ∃ m, C = Φ.C0 ++ m
  cfr : ∀ a ∈ C, a ∈ Φ.C0 ∨ Φ.H0 a = none
  cnd : C.Nodup
  clv : ∀ a ∈ C, ∃ o, H a = some o
  frm : ∀ a o, Φ.H0 a = some o → a ∉ C → ¬ Φ.M0 a → H a = some o
  alv : ∀ a, Φ.A0 a ∨ Φ.M0 a → ∃ o, H a = some o
abbrev Rl (Φ : Ctx) (X : Cx) (ρ : Env) (μ : Sto) (C : List Addr) (os : Os) (σ : St) (H : Hp) : Prop := RlK Φ X.K X.mg ρ μ C os σ H

def PostE (Φ : Ctx) (X : Cx) (C : List Addr) (os : Os) (σ : St) (H : Hp) (o : O D) (Q : VK) : Prop := match o with
  | .ok d ρ' μ' => ∀ v H' C' os', Rl Φ X ρ' μ' C' os' σ H' → Stp (rc Φ X C os H) (rc Φ X C' os' H') → Rep (rc Φ X C' os' H') v d → Q v H'
  | .ex c ns ds ρ' μ' => ∀ Cc dx H' C' os', Rl Φ X ρ' μ' C' os' σ H' → Stp (rc Φ X C os H) (rc Φ X C' os' H') → X.mg c = some (.ref Cc) → EhR (rc Φ X C' os' H') dx c ns ds → Φ.W (.ref Cc) (some dx) σ H'
  | .no => False
def cE (Φ : Ctx) (X : Cx) (f : Mo D) : TE := fun σ H Q => ∃ ρ μ C os, Rl Φ X ρ μ C os σ H ∧ PostE Φ X C os σ H (f ρ μ) Q
def DE (Φ : Ctx) (X : Cx) (e : Expr) (f : Mo D) : Prop := PE X e (cE Φ X f)
theorem PostE.from {Φ : Ctx} {X : Cx} {C C1 : List Addr} {os os1 : Os} {σ : St} {H H1 : Hp} {o : O D} {Q : VK} (S : Stp (rc Φ X C os H) (rc Φ X C1 os1 H1)) (h : PostE Φ X C os σ H o Q) : PostE Φ X C1 os1 σ H1 o Q := by
  cases o with
  | ok d ρ' μ' => exact fun v H' C' os' R T q => h v H' C' os' R (S.trans T) q
  | ex c ns ds ρ' μ' => exact fun Cc dx H' C' os' R T g e => h Cc dx H' C' os' R (S.trans T) g e
  | no => exact h
/-- the second thing behind the first -/
theorem PostE.bnd {Φ : Ctx} {X : Cx} {C : List Addr} {os : Os} {σ : St} {H : Hp} {f : Mo D} {g : D → Mo D} {ρ : Env} {μ : Sto} {Q Q1 : VK} (h : PostE Φ X C os σ H (DL.bnd f g ρ μ) Q)
    (k : ∀ d ρ1 μ1 v H1 C1 os1, Rl Φ X ρ1 μ1 C1 os1 σ H1 → Stp (rc Φ X C os H) (rc Φ X C1 os1 H1) → Rep (rc Φ X C1 os1 H1) v d → PostE Φ X C1 os1 σ H1 (g d ρ1 μ1) Q → Q1 v H1) : PostE Φ X C os σ H (f ρ μ) Q1 := by
  unfold DL.bnd at h
  cases e : f ρ μ with
  | ok d ρ1 μ1 =>
    rw [e] at h
    exact fun v H1 C1 os1 R S q => k d ρ1 μ1 v H1 C1 os1 R S q (PostE.from S h)
  | ex c ns ds ρ1 μ1 => rw [e] at h; exact h
  | no => rw [e] at h; exact h
theorem PE.imp {X : Cx} {e : Expr} {t t' : TE} (h : PE X e t) (i : ∀ σ H Q, t' σ H Q → t σ H Q) : PE X e t' := ⟨fun pins s σ H Q I q => h.run pins s σ H Q I (i σ H Q q)⟩

/-! ### an argument list -/
def PostA (Φ : Ctx) (X : Cx) (C : List Addr) (os : Os) (σ : St) (H : Hp) (o : O (List D)) (Q : List V → Hp → Prop) : Prop := match o with
  | .ok ds ρ' μ' => ∀ vs H' C' os', Rl Φ X ρ' μ' C' os' σ H' → Stp (rc Φ X C os H) (rc Φ X C' os' H') → Reps (rc Φ X C' os' H') vs ds → Q vs H'
  | .ex c ns ds ρ' μ' => ∀ Cc dx H' C' os', Rl Φ X ρ' μ' C' os' σ H' → Stp (rc Φ X C os H) (rc Φ X C' os' H') → X.mg c = some (.ref Cc) → EhR (rc Φ X C' os' H') dx c ns ds → Φ.W (.ref Cc) (some dx) σ H'
  | .no => False
def cA (Φ : Ctx) (X : Cx) (f : Mo (List D)) : TA := fun σ H Q => ∃ ρ μ C os, Rl Φ X ρ μ C os σ H ∧ PostA Φ X C os σ H (f ρ μ) Q
def DA (Φ : Ctx) (X : Cx) (es : List Expr) (f : Mo (List D)) : Prop := PA X es (cA Φ X f)
theorem PostA.from {Φ : Ctx} {X : Cx} {C C1 : List Addr} {os os1 : Os} {σ : St} {H H1 : Hp} {o : O (List D)} {Q : List V → Hp → Prop} (S : Stp (rc Φ X C os H) (rc Φ X C1 os1 H1)) (h : PostA Φ X C os σ H o Q) :
    PostA Φ X C1 os1 σ H1 o Q := by
  cases o with
  | ok d ρ' μ' => exact fun v H' C' os' R T q => h v H' C' os' R (S.trans T) q
  | ex c ns ds ρ' μ' => exact fun Cc dx H' C' os' R T g e => h Cc dx H' C' os' R (S.trans T) g e
  | no => exact h
theorem PA.imp {X : Cx} {es : List Expr} {t t' : TA} (h : PA X es t) (i : ∀ σ H Q, t' σ H Q → t σ H Q) : PA X es t' := ⟨fun pos pins s σ H Q I q => h.run pos pins s σ H Q I (i σ H Q q)⟩
def anil : Mo (List D) := ret []
def acons (f : Mo D) (g : Mo (List D)) : Mo (List D) := bnd f fun d => bnd g fun ds => ret (d :: ds)
theorem da_nil {Φ : Ctx} {X : Cx} : DA Φ X [] anil := PA.imp pa_nil fun σ H Q ⟨ρ, μ, C, os, R, h⟩ => h [] H C os R (Stp.refl _) .nil
theorem da_cons {Φ : Ctx} {X : Cx} {e : Expr} {es : List Expr} {f : Mo D} {g : Mo (List D)} (he : DE Φ X e f) (hr : DA Φ X es g) (hs : starEach (e :: es) X.env = (false, eval e X.env) :: starEach es X.env := by rfl) :
    DA Φ X (e :: es) (acons f g) := PA.imp (pa_cons he hr hs) fun σ H Q ⟨ρ, μ, C, os, R, h⟩ => by
  refine ⟨ρ, μ, C, os, R, ?_⟩
  unfold acons bnd at h
  cases e1 : f ρ μ with
  | no => rw [e1] at h; exact h
  | ex c ns ds ρ1 μ1 => rw [e1] at h; exact h
  | ok d ρ1 μ1 =>
    rw [e1] at h
    intro v H1 C1 os1 R1 S1 q1
    refine ⟨ρ1, μ1, C1, os1, R1, ?_⟩
    have h := PostA.from S1 h
    cases e2 : g ρ1 μ1 with
    | no => simp only [e2] at h; exact h
    | ex c ns ds ρ2 μ2 => simp only [e2] at h; exact h
    | ok ds ρ2 μ2 =>
      simp only [e2] at h
      exact fun vs H2 C2 os2 R2 S2 q2 => h (v :: vs) H2 C2 os2 R2 S2 (.cons (q1.step S2) q2)
end L2.DL

/-! DL2: names, constants, operators, comparisons, tests, displays, places. -/
namespace L2.DL
open PySem PySem.Spec PyProof.Rows

/-! ### growing heaps -/
def Grow (H H' : Hp) : Prop := ∀ b o, H b = some o → H' b = some o
theorem Grow.refl (H : Hp) : Grow H H := fun _ _ h => h
theorem Grow.trans {H H1 H2 : Hp} (a : Grow H H1) (b : Grow H1 H2) : Grow H H2 := fun c o h => b c o (a c o h)
theorem Grow.upd {H : Hp} {p : Addr} {o : HO} (h : H p = none) : Grow H (upd H p o) := fun a u e => by rw [upd_ne (ne_of_none e h)]; exact e
def RC.at (r : RC) (H : Hp) : RC := ⟨r.K, r.mg, r.A, r.B, r.C, H⟩
theorem Grow.stp {r : RC} {H : Hp} (g : Grow r.H H) : Stp r (r.at H) := ⟨rfl, rfl, fun _ h => .inl h, ⟨[], by simp [RC.at]⟩, fun b o h _ => g b o h, fun b o h => ⟨o, g b o h⟩, fun _ h => h, fun b o h _ => g b o h⟩
theorem OwnR.grow {r : RC} {H : Hp} (g : Grow r.H H) {a : Addr} : ∀ {d : D}, OwnR r a d → OwnR (r.at H) a d
  | .lst _, ⟨vs, h, q⟩ => ⟨vs, g _ _ h, q.step g.stp⟩
  | .dct _ _, ⟨kvs, h, e, q⟩ => ⟨kvs, g _ _ h, e, q.step g.stp⟩
  | .non, h => h.elim | .bl _, h => h.elim | .int _, h => h.elim | .str _, h => h.elim | .tup _, h => h.elim | .frz _, h => h.elim | .ins _ _ _, h => h.elim | .cell _, h => h.elim
theorem BdR.grow {r : RC} {H : Hp} (g : Grow r.H H) {a : Addr} {c : Str} {ns : List Str} {ds : List D} : BdR r a c ns ds → BdR (r.at H) a c ns ds := fun ⟨Cc, dx, fs, h, m, e, q⟩ => ⟨Cc, dx, fs, g _ _ h, m, e, q.step g.stp⟩
theorem EhR.step {r r' : RC} (S : Stp r r') {dx : Addr} {c : Str} {ns : List Str} {ds : List D} : EhR r dx c ns ds → EhR r' dx c ns ds := fun ⟨fs, h, n, e, q⟩ => ⟨fs, S.h _ _ h n, S.na h n, e, q.step S⟩
theorem CellR.grow {r : RC} {H : Hp} (g : Grow r.H H) {a : Addr} : ∀ {c : Cell}, CellR r a c → CellR (r.at H) a c
  | .lst _, ⟨vs, h, q⟩ => ⟨vs, g _ _ h, q.step g.stp⟩
  | .dct _ _, ⟨kvs, h, e, q⟩ => ⟨kvs, g _ _ h, e, q.step g.stp⟩
  | .ins _ _ _, h => BdR.grow g h
theorem EntR.grow {Φ : Ctx} {r : RC} {os : Os} {H : Hp} (g : Grow r.H H) {i : Nat} {v : V} : ∀ {e : Ent}, EntR Φ r os i v e → EntR Φ (r.at H) os i v e
  | .sh _, h => h.step g.stp
  | .ow _, ⟨a, e, m, h⟩ => ⟨a, e, m, h.grow g⟩
  | .bd _ _ _, ⟨a, e, m, h⟩ => ⟨a, e, m, h.grow g⟩
  | .eh _ _ _, ⟨a, dx, e, m, h⟩ => ⟨a, dx, e, m, h.step g.stp⟩
theorem Rl.grow {Φ : Ctx} {X : Cx} {ρ : Env} {μ : Sto} {C : List Addr} {os : Os} {σ : St} {H H' : Hp} (R : Rl Φ X ρ μ C os σ H) (g : Grow H H') : Rl Φ X ρ μ C os σ H' where
  len := R.len
  env := fun i e h => by
    obtain ⟨v, h1, h2⟩ := R.env i e h
    exact ⟨v, h1, EntR.grow (r := rc Φ X C os H) g h2⟩
  sto := ⟨R.sto.1, fun n a c h1 h2 => CellR.grow (r := rc Φ X C os H) g (R.sto.2 n a c h1 h2)⟩
  own := R.own
  fre := fun i a h => by
    obtain ⟨h1, h2, h3, o, h4⟩ := R.fre i a h
    exact ⟨h1, h2, h3, o, g _ _ h4⟩
  pre := R.pre
  cfr := R.cfr
  cnd := R.cnd
  clv := fun a h => let ⟨o, e⟩ := R.clv a h; ⟨o, g _ _ e⟩
  frm := fun a o h1 h2 h3 => g _ _ (R.frm a o h1 h2 h3)
  alv := fun a h => let ⟨o, e⟩ := R.alv a h; ⟨o, g _ _ e⟩
theorem rc_at {Φ : Ctx} {X : Cx} {C : List Addr} {os : Os} {H H' : Hp} : (rc Φ X C os H).at H' = rc Φ X C os H' := rfl
theorem stp_grow {Φ : Ctx} {X : Cx} {C : List Addr} {os : Os} {H H' : Hp} (g : Grow H H') : Stp (rc Φ X C os H) (rc Φ X C os H') := Grow.stp (r := rc Φ X C os H) g
theorem Rl.fresh {Φ : Ctx} {X : Cx} {ρ : Env} {μ : Sto} {C : List Addr} {os : Os} {σ : St} {H : Hp} (R : Rl Φ X ρ μ C os σ H) {p : Addr} (h : H p = none) : ¬ AA Φ C os p := by
  rintro (z | z | ⟨i, z⟩)
  · obtain ⟨o, e⟩ := R.alv p (.inl z)
    rw [h] at e; cases e
  · obtain ⟨o, e⟩ := R.clv p z
    rw [h] at e; cases e
  · obtain ⟨_, _, _, o, e⟩ := R.fre i p z
    rw [h] at e; cases e

/-! ### weakly: an owned thing read in passing -/
def RepW (r : RC) (v : V) (d : D) : Prop := Rep r v d ∨ ∃ a, v = .ref a ∧ OwnR r a d
theorem RepW.lst {r : RC} {v : V} {ds : List D} (h : RepW r v (.lst ds)) : ∃ a vs, v = .ref a ∧ r.H a = some (.lst vs) ∧ Reps r vs ds := by
  rcases h with h | ⟨a, e, vs, h, q⟩
  · cases h with
    | lst h n q => exact ⟨_, _, rfl, h, q⟩
  · exact ⟨a, vs, e, h, q⟩
theorem RepW.dct {r : RC} {v : V} {ks : List Key} {ds : List D} (h : RepW r v (.dct ks ds)) : ∃ a kvs, v = .ref a ∧ r.H a = some (.dK kvs) ∧ kvs.map (·.1) = ks ∧ Reps r (kvs.map (·.2)) ds := by
  rcases h with h | ⟨a, e, kvs, h, e2, q⟩
  · cases h with
    | dct h n e q => exact ⟨_, _, rfl, h, e, q⟩
  · exact ⟨a, kvs, e, h, e2, q⟩
theorem RepW.non {r : RC} {v : V} (h : RepW r v .non) : v = .non := by
  rcases h with h | ⟨a, e, h⟩
  · cases h; rfl
  · exact h.elim
theorem RepW.bl {r : RC} {v : V} {b : Bool} (h : RepW r v (.bl b)) : v = .bl b := by
  rcases h with h | ⟨a, e, h⟩
  · cases h; rfl
  · exact h.elim
theorem RepW.int {r : RC} {v : V} {i : Int} (h : RepW r v (.int i)) : v = .int i := by
  rcases h with h | ⟨a, e, h⟩
  · cases h; rfl
  · exact h.elim
theorem RepW.str {r : RC} {v : V} {s : Str} (h : RepW r v (.str s)) : v = .str s := by
  rcases h with h | ⟨a, e, h⟩
  · cases h; rfl
  · exact h.elim
theorem RepW.tup {r : RC} {v : V} {ds : List D} (h : RepW r v (.tup ds)) : ∃ a vs, v = .ref a ∧ r.Tup a vs ∧ Reps r vs ds := by
  rcases h with h | ⟨a, e, h⟩
  · cases h with
    | tup h q => exact ⟨_, _, rfl, h, q⟩
  · exact h.elim
theorem RepW.frz {r : RC} {v : V} {ds : List D} (h : RepW r v (.frz ds)) : ∃ a vs, v = .ref a ∧ r.Lst a vs ∧ Reps r vs ds := by
  rcases h with h | ⟨a, e, h⟩
  · cases h with
    | frz h q => exact ⟨_, _, rfl, h, q⟩
  · exact h.elim
theorem RepW.ins {r : RC} {v : V} {c : Str} {ns : List Str} {ds : List D} (h : RepW r v (.ins c ns ds)) : ∃ a Cc dx fs, v = .ref a ∧ r.H a = some (.ins Cc dx fs) ∧ r.mg c = some (.ref Cc) ∧ fs.map (·.1) = ns ∧ Reps r (fs.map (·.2)) ds := by
  rcases h with h | ⟨a, e, h⟩
  · cases h with
    | ins h n g e q => exact ⟨_, _, _, _, rfl, h, g, e, q⟩
  · exact h.elim
theorem RC.Tup.sq {r : RC} {a : Addr} {vs : List V} (h : r.Tup a vs) : SqT r.K r.H a vs := by
  rcases h with ⟨_, o, h, _⟩ | ⟨o, its, n, h1, h2, _, h3, h4, h5⟩
  · exact .inl (.inr ⟨o, h⟩)
  · exact .inr ⟨o, its, n, h1, h2, h3, h4, h5⟩
theorem RC.Tup.nd {r : RC} {a : Addr} {vs : List V} (h : r.Tup a vs) : TupNd r.K r.H (.ref a) := by
  rcases h with ⟨_, o, h, h2⟩ | ⟨o, its, n, h1, h2, h3, _⟩
  · exact ⟨a, rfl, .inl ⟨o, _, h, h2⟩⟩
  · exact ⟨a, rfl, .inr ⟨o, h1, h2, h3⟩⟩
theorem RC.Lst.sq {r : RC} {a : Addr} {vs : List V} (h : r.Lst a vs) : SqL r.K r.H a vs := by
  rcases h with ⟨_, h⟩ | h
  · exact .inl h
  · rcases h with h | h
    · rcases h with h | ⟨o, h⟩ <;> cases h
    · exact .inr h

def PostB (Φ : Ctx) (X : Cx) (C : List Addr) (os : Os) (σ : St) (H : Hp) (o : O D) (Q : VK) : Prop := match o with
  | .ok d ρ' μ' => ∀ v H' C' os', Rl Φ X ρ' μ' C' os' σ H' → Stp (rc Φ X C os H) (rc Φ X C' os' H') → RepW (rc Φ X C' os' H') v d → Q v H'
  | .ex c ns ds ρ' μ' => ∀ Cc dx H' C' os', Rl Φ X ρ' μ' C' os' σ H' → Stp (rc Φ X C os H) (rc Φ X C' os' H') → X.mg c = some (.ref Cc) → EhR (rc Φ X C' os' H') dx c ns ds → Φ.W (.ref Cc) (some dx) σ H'
  | .no => False
def cB (Φ : Ctx) (X : Cx) (f : Mo D) : TE := fun σ H Q => ∃ ρ μ C os, Rl Φ X ρ μ C os σ H ∧ PostB Φ X C os σ H (f ρ μ) Q
/-- an expression whose value is only read at once -/
def DB (Φ : Ctx) (X : Cx) (e : Expr) (f : Mo D) : Prop := PE X e (cB Φ X f)
section
variable {Φ : Ctx} {X : Cx} {a b c e : Expr} {f g k : Mo D} {pos : Pos}
theorem DE.wk (h : DE Φ X e f) : DB Φ X e f := PE.imp h fun σ H Q ⟨ρ, μ, C, os, R, q⟩ => ⟨ρ, μ, C, os, R, by
  cases e : f ρ μ with
  | ok d ρ' μ' => rw [e] at q; exact fun v H' C' os' R' S z => q v H' C' os' R' S (.inl z)
  | ex c ns ds ρ' μ' => rw [e] at q; exact q
  | no => rw [e] at q; exact q⟩

/-! ### names and constants -/
def cst (d : D) : Mo D := ret d
theorem cE_at {ρ : Env} {μ : Sto} {C : List Addr} {os : Os} {σ : St} {H : Hp} (R : Rl Φ X ρ μ C os σ H) {v : V} {d : D} (h : Rep (rc Φ X C os H) v d) {Q : VK} (q : PostE Φ X C os σ H (ret d ρ μ) Q) : Q v H := q v H C os R (Stp.refl _) h
theorem de_int {i : Int} {j pos} : DE Φ X (.Constant (.int i) j pos) (cst (.int i)) := PE.imp pe_int fun σ H Q ⟨ρ, μ, C, os, R, q⟩ => cE_at R (.int i) q
theorem de_bl {i : Bool} {j pos} : DE Φ X (.Constant (.bool i) j pos) (cst (.bl i)) := PE.imp pe_bl fun σ H Q ⟨ρ, μ, C, os, R, q⟩ => cE_at R (.bl i) q
theorem de_non {j pos} : DE Φ X (.Constant .none j pos) (cst .non) := PE.imp pe_non fun σ H Q ⟨ρ, μ, C, os, R, q⟩ => cE_at R .non q
theorem de_str {i : Str} {j pos} : DE Φ X (.Constant (.str i) j pos) (cst (.str i)) := PE.imp pe_str fun σ H Q ⟨ρ, μ, C, os, R, q⟩ => cE_at R (.str i) q
/-- what the module's name x holds, at every time -/
structure GlD (X : Cx) (x : Str) (d : D) : Prop where
  ex : ∃ u v, X.mg x = some u ∧ RelV v u ∧ ∀ r : RC, r.K = X.K → r.mg = X.mg → Rep r v d
theorem de_glob {x : Str} {d : D} (G : GlD X x d) (hg : Gl X x) (hd : (x == ("__debug__" : Str)) = false := by decide) : DE Φ X (.Name x pos) (cst d) := by
  obtain ⟨u, v, hm, r, h⟩ := G.ex
  exact PE.imp (pe_glob hg hm r hd) fun σ H Q ⟨ρ, μ, C, os, R, q⟩ => cE_at R (h _ rfl rfl) q

/-- an owned thing given out: from now on shared -/
def lett (i : Nat) : Mo D := fun ρ μ => match ρ[i]? with
  | some (some (.sh d)) => .ok d ρ μ
  | some (some (.ow d)) => .ok d (ρ.set i (some (.sh d))) μ
  | some (some (.bd c ns vs)) => .ok (.ins c ns vs) (ρ.set i (some (.sh (.ins c ns vs)))) μ
  | _ => .no
/-- what a cell holds, as a value -/
def Cell.d : Cell → D
  | .lst ds => .lst ds
  | .dct ks ds => .dct ks ds
  | .ins c ns ds => .ins c ns ds
/-- a shared value read in passing: a cell's content -/
def pekD (d : D) (μ : Sto) : Option D := match d with
  | .cell n => match μ[n]? with
    | some (.lst ds) => some (.lst ds)
    | some (.dct ks ds) => some (.dct ks ds)
    | _ => none
  | d => some d
/-- read in passing -/
def pek (i : Nat) : Mo D := fun ρ μ => match ρ[i]? with
  | some (some (.sh d)) => match pekD d μ with
    | some d' => .ok d' ρ μ
    | none => .no
  | some (some (.ow d)) => .ok d ρ μ
  | _ => .no
def noA (a : Addr) (os : Os) : Os := os.filter fun p => !(p.2 == a)
theorem mem_noA {a b : Addr} {i : Option Nat} {os : Os} : (i, b) ∈ noA a os ↔ (i, b) ∈ os ∧ b ≠ a := by
  unfold noA
  rw [List.mem_filter]
  simp
theorem OwnR.step {r r' : RC} (S : Stp r r') (hH : r'.H = r.H) {a : Addr} : ∀ {d : D}, OwnR r a d → OwnR r' a d
  | .lst _, ⟨vs, h, q⟩ => ⟨vs, by rw [hH]; exact h, q.step S⟩
  | .dct _ _, ⟨kvs, h, e, q⟩ => ⟨kvs, by rw [hH]; exact h, e, q.step S⟩
  | .non, h => h.elim | .bl _, h => h.elim | .int _, h => h.elim | .str _, h => h.elim | .tup _, h => h.elim | .frz _, h => h.elim | .ins _ _ _, h => h.elim | .cell _, h => h.elim
theorem BdR.stepH {r r' : RC} (S : Stp r r') (hH : r'.H = r.H) {a : Addr} {c : Str} {ns : List Str} {ds : List D} : BdR r a c ns ds → BdR r' a c ns ds := fun ⟨Cc, dx, fs, h, m, e, q⟩ =>
  ⟨Cc, dx, fs, by rw [hH]; exact h, by rw [S.g]; exact m, e, q.step S⟩
theorem CellR.step {r r' : RC} (S : Stp r r') (hH : r'.H = r.H) {a : Addr} : ∀ {c : Cell}, CellR r a c → CellR r' a c
  | .lst _, ⟨vs, h, q⟩ => ⟨vs, by rw [hH]; exact h, q.step S⟩
  | .dct _ _, ⟨kvs, h, e, q⟩ => ⟨kvs, by rw [hH]; exact h, e, q.step S⟩
  | .ins _ _ _, h => BdR.stepH S hH h
/-- the entry of slot i is turned, its address let go -/
theorem Rl.letgo {ρ : Env} {μ : Sto} {C : List Addr} {os : Os} {σ : St} {H : Hp} {i : Nat} {a : Addr} {d : D} (R : Rl Φ X ρ μ C os σ H) (hi : i < ρ.length) (hv : σ[i]? = some (some (.ref a))) (hm : (some i, a) ∈ os)
    (h : Rep (rc Φ X C (noA a os) H) (.ref a) d) : Rl Φ X (ρ.set i (some (.sh d))) μ C (noA a os) σ H ∧ Stp (rc Φ X C os H) (rc Φ X C (noA a os) H) := by
  have S : Stp (rc Φ X C os H) (rc Φ X C (noA a os) H) := ⟨rfl, rfl, fun b z => by
    rcases z with z | z | ⟨j, z⟩
    · exact .inl (.inl z)
    · exact .inl (.inr (.inl z))
    · exact .inl (.inr (.inr ⟨j, (mem_noA.mp z).1⟩)), ⟨[], by simp [rcK]⟩, fun b o z _ => z, fun b o z => ⟨o, z⟩, fun b z => mem_noA.mpr ⟨z, fun e => by
      have q := R.own none (some i) a (e ▸ z) hm
      cases q⟩, fun b o z _ => z⟩
  have other : ∀ (j : Nat) (b : Addr), j ≠ i → (some j, b) ∈ os → (some j, b) ∈ noA a os := fun j b ne z => mem_noA.mpr ⟨z, fun e => ne (Option.some.inj (R.own (some j) (some i) a (e ▸ z) hm))⟩
  refine ⟨⟨by rw [List.length_set]; exact R.len, fun j e q => ?_, ⟨R.sto.1, fun n b c h1 h2 => (R.sto.2 n b c h1 h2).step S rfl⟩, fun j k b z1 z2 => R.own j k b (mem_noA.mp z1).1 (mem_noA.mp z2).1,
    fun j b z => R.fre j b (mem_noA.mp z).1, R.pre, R.cfr, R.cnd, R.clv, R.frm, R.alv⟩, S⟩
  by_cases hj : j = i
  · subst hj
    rw [List.getElem?_set_self hi] at q
    cases q
    exact ⟨_, hv, h⟩
  · rw [List.getElem?_set_ne (Ne.symm hj)] at q
    obtain ⟨v, h1, h2⟩ := R.env j e q
    refine ⟨v, h1, ?_⟩
    cases e with
    | sh d' => exact Rep.step S h2
    | ow d' =>
      obtain ⟨b, e1, e2, e3⟩ := h2
      exact ⟨b, e1, other j b hj e2, e3.step S rfl⟩
    | bd c ns ds =>
      obtain ⟨b, e1, e2, e3⟩ := h2
      exact ⟨b, e1, other j b hj e2, BdR.stepH S rfl e3⟩
    | eh c ns ds =>
      obtain ⟨b, dx, e1, e2, e3⟩ := h2
      exact ⟨b, dx, e1, e2, e3.step S⟩
theorem Rl.share {ρ : Env} {μ : Sto} {C : List Addr} {os : Os} {σ : St} {H : Hp} {i : Nat} {d : D} (R : Rl Φ X ρ μ C os σ H) (hi : ρ[i]? = some (some (.ow d))) :
    ∃ v os', σ[i]? = some (some v) ∧ Rl Φ X (ρ.set i (some (.sh d))) μ C os' σ H ∧ Stp (rc Φ X C os H) (rc Φ X C os' H) ∧ Rep (rc Φ X C os' H) v d := by
  obtain ⟨v, hv, a, rfl, hm, hO⟩ := R.env i _ hi
  have na : ¬ AA Φ C (noA a os) a := by
    obtain ⟨_, h2, h3, _⟩ := R.fre i a hm
    rintro (z | z | ⟨j, z⟩)
    · exact h3 z
    · exact h2 z
    · exact (mem_noA.mp z).2 rfl
  have S : Stp (rc Φ X C os H) (rc Φ X C (noA a os) H) := ⟨rfl, rfl, fun b z => by
    rcases z with z | z | ⟨j, z⟩
    · exact .inl (.inl z)
    · exact .inl (.inr (.inl z))
    · exact .inl (.inr (.inr ⟨j, (mem_noA.mp z).1⟩)), ⟨[], by simp [rcK]⟩, fun b o z _ => z, fun b o z => ⟨o, z⟩, fun b z => mem_noA.mpr ⟨z, fun e => by
      have q := R.own none (some i) a (e ▸ z) hm
      cases q⟩, fun b o z _ => z⟩
  have q : Rep (rc Φ X C (noA a os) H) (.ref a) d := by
    cases d with
    | lst ds => obtain ⟨vs, h, q⟩ := hO; exact .lst h na (q.step S)
    | dct ks ds => obtain ⟨kvs, h, e, q⟩ := hO; exact .dct h na e (q.step S)
    | _ => exact hO.elim
  exact ⟨_, _, hv, (R.letgo (List.getElem?_eq_some_iff.mp hi).1 hv hm q).1, S, q⟩
theorem Rl.shareB {ρ : Env} {μ : Sto} {C : List Addr} {os : Os} {σ : St} {H : Hp} {i : Nat} {c : Str} {ns : List Str} {ds : List D} (R : Rl Φ X ρ μ C os σ H) (hi : ρ[i]? = some (some (.bd c ns ds))) :
    ∃ v os', σ[i]? = some (some v) ∧ Rl Φ X (ρ.set i (some (.sh (.ins c ns ds)))) μ C os' σ H ∧ Stp (rc Φ X C os H) (rc Φ X C os' H) ∧ Rep (rc Φ X C os' H) v (.ins c ns ds) := by
  obtain ⟨v, hv, a, ⟨rfl, _⟩, hm, Cc, dx, fs, h, g, e, q⟩ := R.env i _ hi
  have na : ¬ AA Φ C (noA a os) a := by
    obtain ⟨_, h2, h3, _⟩ := R.fre i a hm
    rintro (z | z | ⟨j, z⟩)
    · exact h3 z
    · exact h2 z
    · exact (mem_noA.mp z).2 rfl
  have S : Stp (rc Φ X C os H) (rc Φ X C (noA a os) H) := ⟨rfl, rfl, fun b z => by
    rcases z with z | z | ⟨j, z⟩
    · exact .inl (.inl z)
    · exact .inl (.inr (.inl z))
    · exact .inl (.inr (.inr ⟨j, (mem_noA.mp z).1⟩)), ⟨[], by simp [rcK]⟩, fun b o z _ => z, fun b o z => ⟨o, z⟩, fun b z => mem_noA.mpr ⟨z, fun e => by
      have q := R.own none (some i) a (e ▸ z) hm
      cases q⟩, fun b o z _ => z⟩
  have q' : Rep (rc Φ X C (noA a os) H) (.ref a) (.ins c ns ds) := .ins h na g e (q.step S)
  exact ⟨_, _, hv, (R.letgo (List.getElem?_eq_some_iff.mp hi).1 hv hm q').1, S, q'⟩
theorem de_var {i : Nat} {x : Str} (hN : X.N[i]? = some x := by rfl) (hv : Vis X.env.scope x := by first | exact Or.inl rfl | exact Or.inr (Or.inl rfl) | exact Or.inr (Or.inr rfl)) (hd : (x == ("__debug__" : Str)) = false := by decide)
    (hcd : (x == ("__classdict__" : Str)) = false := by decide) : DE Φ X (.Name x pos) (lett i) := PE.imp (pe_var hN hv hd hcd) fun σ H Q ⟨ρ, μ, C, os, R, q⟩ => by
  unfold lett at q
  cases e : ρ[i]? with
  | none => rw [e] at q; exact q.elim
  | some o =>
    cases o with
    | none => rw [e] at q; exact q.elim
    | some t =>
      cases t with
      | sh d =>
        rw [e] at q
        obtain ⟨v, h1, h2⟩ := R.env i _ e
        exact ⟨v, h1, q v H C os R (Stp.refl _) h2⟩
      | ow d =>
        rw [e] at q
        obtain ⟨v, os', h1, R', S, h2⟩ := R.share e
        exact ⟨v, h1, q v H C os' R' S h2⟩
      | bd c ns ds =>
        rw [e] at q
        obtain ⟨v, os', h1, R', S, h2⟩ := R.shareB e
        exact ⟨v, h1, q v H C os' R' S h2⟩
      | eh c ns ds => rw [e] at q; exact q.elim
theorem cell_at {ρ : Env} {μ : Sto} {C : List Addr} {os : Os} {σ : St} {H : Hp} {n : Nat} {a : Addr} {c : Cell} (R : Rl Φ X ρ μ C os σ H) (h : C[n]? = some a) (e : μ[n]? = some c) : CellR (rc Φ X C os H) a c := R.sto.2 n a c h e
theorem pekD_at {ρ : Env} {μ : Sto} {C : List Addr} {os : Os} {σ : St} {H : Hp} {v : V} {d d' : D} (R : Rl Φ X ρ μ C os σ H) (h : Rep (rc Φ X C os H) v d) (e : pekD d μ = some d') : RepW (rc Φ X C os H) v d' := by
  cases h with
  | @cell a n h =>
    simp only [pekD] at e
    cases q : μ[n]? with
    | none => rw [q] at e; cases e
    | some c =>
      rw [q] at e
      have w := cell_at R h q
      cases c with
      | lst ds => cases e; exact .inr ⟨_, rfl, w⟩
      | dct ks ds => cases e; exact .inr ⟨_, rfl, w⟩
      | ins c ns ds => cases e
  | non => cases e; exact .inl .non
  | bl b => cases e; exact .inl (.bl b)
  | int i => cases e; exact .inl (.int i)
  | str s => cases e; exact .inl (.str s)
  | tup h q => cases e; exact .inl (.tup h q)
  | lst h n q => cases e; exact .inl (.lst h n q)
  | frz h q => cases e; exact .inl (.frz h q)
  | dct h n e' q => cases e; exact .inl (.dct h n e' q)
  | ins h n g e' q => cases e; exact .inl (.ins h n g e' q)
theorem pek_at {ρ ρ' : Env} {μ μ' : Sto} {C : List Addr} {os : Os} {σ : St} {H : Hp} {i : Nat} {d : D} (R : Rl Φ X ρ μ C os σ H) (e : pek i ρ μ = .ok d ρ' μ') : ρ' = ρ ∧ μ' = μ ∧ ∃ v, σ[i]? = some (some v) ∧ RepW (rc Φ X C os H) v d := by
  unfold pek at e
  cases q : ρ[i]? with
  | none => rw [q] at e; cases e
  | some o =>
    cases o with
    | none => rw [q] at e; cases e
    | some t =>
      obtain ⟨v, h1, h2⟩ := R.env i _ q
      cases t with
      | sh d' =>
        rw [q] at e
        cases q2 : pekD d' μ with
        | none => simp only [q2] at e; cases e
        | some d2 =>
          simp only [q2] at e
          cases e
          exact ⟨rfl, rfl, v, h1, pekD_at R h2 q2⟩
      | ow d' =>
        rw [q] at e; cases e
        obtain ⟨a, h3, _, h4⟩ := h2
        exact ⟨rfl, rfl, v, h1, .inr ⟨a, h3, h4⟩⟩
      | bd c ns ds => rw [q] at e; cases e
      | eh c ns ds => rw [q] at e; cases e
theorem pek_ex {ρ ρ' : Env} {μ μ' : Sto} {i : Nat} {c : Str} {ns : List Str} {ds : List D} : ¬ pek i ρ μ = .ex c ns ds ρ' μ' := fun e => by
  unfold pek at e
  split at e <;> first
    | cases e; done
    | (split at e <;> cases e)
theorem db_var {i : Nat} {x : Str} (hN : X.N[i]? = some x := by rfl) (hv : Vis X.env.scope x := by first | exact Or.inl rfl | exact Or.inr (Or.inl rfl) | exact Or.inr (Or.inr rfl)) (hd : (x == ("__debug__" : Str)) = false := by decide)
    (hcd : (x == ("__classdict__" : Str)) = false := by decide) : DB Φ X (.Name x pos) (pek i) := PE.imp (pe_var hN hv hd hcd) fun σ H Q ⟨ρ, μ, C, os, R, q⟩ => by
  cases e : pek i ρ μ with
  | no => rw [e] at q; exact q.elim
  | ex c ns ds ρ' μ' => exact (pek_ex e).elim
  | ok d ρ' μ' =>
    rw [e] at q
    obtain ⟨rfl, rfl, v, h1, h2⟩ := pek_at R e
    exact ⟨v, h1, q v H C os R (Stp.refl _) h2⟩

/-! ### operators by values -/
def OpD (X : Cx) (r : R2) (h : D → D → Option D) : Prop := ∀ (q : RC) (x y : V) (d1 d2 d : D) (Q : VK), q.K = X.K → q.mg = X.mg → (∀ p, q.H p = none → ¬ q.A p) → RepW q x d1 → RepW q y d2 → h d1 d2 = some d →
  (∀ v H', Grow q.H H' → Rep (q.at H') v d → Q v H') → r x y q.H Q
def UnD (X : Cx) (r : V → Hp → VK → Prop) (h : D → Option D) : Prop := ∀ (q : RC) (x : V) (d1 d : D) (Q : VK), q.K = X.K → q.mg = X.mg → (∀ p, q.H p = none → ¬ q.A p) → RepW q x d1 → h d1 = some d →
  (∀ v H', Grow q.H H' → Rep (q.at H') v d → Q v H') → r x q.H Q
theorem OpD.or {r r' : R2} {h h' : D → D → Option D} (a : OpD X r h) (b : OpD X r' h') : OpD X (fun x y H Q => r x y H Q ∨ r' x y H Q) (fun x y => (h x y).or (h' x y)) := fun q x y d1 d2 d Q k1 k2 k3 h1 h2 e z => by
  have e : (h d1 d2).or (h' d1 d2) = some d := e
  cases q1 : h d1 d2 with
  | some d' =>
    rw [q1] at e
    exact .inl (a q x y d1 d2 d Q k1 k2 k3 h1 h2 (by rw [q1]; exact e) z)
  | none =>
    rw [q1] at e
    exact .inr (b q x y d1 d2 d Q k1 k2 k3 h1 h2 e z)
/-- two values, then the operator -/
def op2 (h : D → D → Option D) (f g : Mo D) : Mo D := bnd f fun x => bnd g fun y => lift (h x y)
/-- the left one a name, read in passing -/
def op2v (h : D → D → Option D) (i : Nat) (g : Mo D) : Mo D := bnd (pek i) fun _ => bnd g fun y => bnd (pek i) fun x => lift (h x y)
def op1 (h : D → Option D) (f : Mo D) : Mo D := bnd f fun x => lift (h x)
theorem Rl.fr {ρ : Env} {μ : Sto} {C : List Addr} {os : Os} {σ : St} {H : Hp} (R : Rl Φ X ρ μ C os σ H) : ∀ p, (rc Φ X C os H).H p = none → ¬ (rc Φ X C os H).A p := fun p h => R.fresh h
theorem lift_ok {ρ : Env} {μ : Sto} {C : List Addr} {os : Os} {σ : St} {H : Hp} {o : Option D} {Q : VK} (R : Rl Φ X ρ μ C os σ H) (p : PostE Φ X C os σ H (lift o ρ μ) Q) :
    ∃ d, o = some d ∧ ∀ v H', Grow H H' → Rep (rc Φ X C os H') v d → Q v H' := by
  cases o with
  | none => exact p.elim
  | some d => exact ⟨d, rfl, fun v H' g h => p v H' C os (R.grow g) (stp_grow g) h⟩
theorem cB_bnd {ρ : Env} {μ : Sto} {C : List Addr} {os : Os} {σ : St} {H : Hp} {f : Mo D} {g : D → Mo D} {Q Q1 : VK} (h : PostE Φ X C os σ H (bnd f g ρ μ) Q)
    (k : ∀ d ρ1 μ1 v H1 C1 os1, Rl Φ X ρ1 μ1 C1 os1 σ H1 → Stp (rc Φ X C os H) (rc Φ X C1 os1 H1) → RepW (rc Φ X C1 os1 H1) v d → PostE Φ X C1 os1 σ H1 (g d ρ1 μ1) Q → Q1 v H1) : PostB Φ X C os σ H (f ρ μ) Q1 := by
  unfold bnd at h
  cases e : f ρ μ with
  | ok d ρ1 μ1 =>
    rw [e] at h
    exact fun v H1 C1 os1 R S q => k d ρ1 μ1 v H1 C1 os1 R S q (PostE.from S h)
  | ex c ns ds ρ1 μ1 => rw [e] at h; exact h
  | no => rw [e] at h; exact h
theorem run2 {r : R2} {h : D → D → Option D} (hD : OpD X r h) {σ : St} {H : Hp} {Q : VK} (z : cE Φ X (op2 h f g) σ H Q) : tOp r (cE Φ X f) (cB Φ X g) σ H Q := by
  obtain ⟨ρ, μ, C, os, R, z⟩ := z
  refine ⟨ρ, μ, C, os, R, PostE.bnd z fun d1 ρ1 μ1 x H1 C1 os1 R1 S1 q1 z1 => ⟨ρ1, μ1, C1, os1, R1, cB_bnd z1 fun d2 ρ2 μ2 y H2 C2 os2 R2 S2 q2 z2 => ?_⟩⟩
  obtain ⟨d, e, k⟩ := lift_ok R2 z2
  exact hD (rc Φ X C2 os2 H2) x y d1 d2 d Q rfl rfl R2.fr (.inl (q1.step S2)) q2 e k
theorem de_op {op : Operator} {r : R2} {h : D → D → Option D} (ho : OpR X (binaryOp op) r) (hD : OpD X r h) (ha : DE Φ X a f) (hb : DB Φ X b g) : DE Φ X (.BinOp a op b pos) (op2 h f g) := PE.imp (pe_op ho ha hb) fun _ _ _ z => run2 hD z
theorem run1 {r : V → Hp → VK → Prop} {h : D → Option D} (hD : UnD X r h) {σ : St} {H : Hp} {Q : VK} (z : cE Φ X (op1 h f) σ H Q) : tUn r (cB Φ X f) σ H Q := by
  obtain ⟨ρ, μ, C, os, R, z⟩ := z
  refine ⟨ρ, μ, C, os, R, cB_bnd z fun d1 ρ1 μ1 x H1 C1 os1 R1 S1 q1 z1 => ?_⟩
  obtain ⟨d, e, k⟩ := lift_ok R1 z1
  exact hD (rc Φ X C1 os1 H1) x d1 d Q rfl rfl R1.fr q1 e k
theorem de_un {op : UnaryOp} {r : V → Hp → VK → Prop} {h : D → Option D} (ho : UnR X (unaryOp op) r) (hD : UnD X r h) (ha : DB Φ X a f) : DE Φ X (.UnaryOp op a pos) (op1 h f) := PE.imp (pe_un ho ha) fun _ _ _ z => run1 hD z
theorem de_cmp {op : CmpOp} {r : R2} {h : D → D → Option D} (ho : OpR X (compareOp op) r) (hD : OpD X r h) (ha : DE Φ X a f) (hb : DB Φ X b g) (hm : behindInMarks op b = false) : DE Φ X (.Compare a [op] [b] pos) (op2 h f g) :=
  PE.imp (pe_cmpR ho ha hb hm) fun _ _ _ z => run2 hD z
/-- the left one is a name -/
theorem run2v {r : R2} {h : D → D → Option D} {i : Nat} (hD : OpD X r h) {σ : St} {H : Hp} {Q : VK} (z : cE Φ X (op2v h i g) σ H Q) : tOp r (tVar i) (cE Φ X g) σ H Q := by
  obtain ⟨ρ, μ, C, os, R, z⟩ := z
  unfold op2v bnd at z
  cases e0 : pek i ρ μ with
  | no => rw [e0] at z; exact z.elim
  | ex c ns ds ρ' μ' => exact (pek_ex e0).elim
  | ok d0 ρ0 μ0 =>
    obtain ⟨rfl, rfl, v, hv, _⟩ := pek_at R e0
    rw [e0] at z
    refine ⟨v, hv, ρ0, μ0, C, os, R, PostE.bnd (f := g) z fun d2 ρ2 μ2 y H2 C2 os2 R2 S2 q2 z2 => ?_⟩
    unfold bnd at z2
    cases e : pek i ρ2 μ2 with
    | no => rw [e] at z2; exact z2.elim
    | ex c ns ds ρ' μ' => exact (pek_ex e).elim
    | ok d1 ρ3 μ3 =>
      obtain ⟨rfl, rfl, v', h1, h2⟩ := pek_at R2 e
      rw [hv] at h1; cases h1
      rw [e] at z2
      obtain ⟨d, e2, k⟩ := lift_ok R2 z2
      exact hD (rc Φ X C2 os2 H2) v y d1 d2 d Q rfl rfl R2.fr h2 (.inl q2) e2 k
theorem de_cmpv {op : CmpOp} {r : R2} {h : D → D → Option D} {i : Nat} {x : Str} {px : Pos} (ho : OpR X (compareOp op) r) (hD : OpD X r h) (hb : DE Φ X b g) (hm : behindInMarks op b = false) (hN : X.N[i]? = some x := by rfl)
    (hv : Vis X.env.scope x := by first | exact Or.inl rfl | exact Or.inr (Or.inl rfl) | exact Or.inr (Or.inr rfl)) (hd : (x == ("__debug__" : Str)) = false := by decide) (hcd : (x == ("__classdict__" : Str)) = false := by decide) :
    DE Φ X (.Compare (.Name x px) [op] [b] pos) (op2v h i g) := PE.imp (pe_cmpR ho (pe_var hN hv hd hcd) hb hm) fun _ _ _ z => run2v hD z
theorem de_ixv {r : R2} {h : D → D → Option D} {i : Nat} {x : Str} {px : Pos} (ho : IxR X r) (hD : OpD X r h) (hb : DE Φ X b g) (hs : PlainIx b := by intro _ _; rfl) (hN : X.N[i]? = some x := by rfl)
    (hv : Vis X.env.scope x := by first | exact Or.inl rfl | exact Or.inr (Or.inl rfl) | exact Or.inr (Or.inr rfl)) (hd : (x == ("__debug__" : Str)) = false := by decide) (hcd : (x == ("__classdict__" : Str)) = false := by decide) :
    DE Φ X (.Subscript (.Name x px) b pos) (op2v h i g) := PE.imp (pe_ix ho (pe_var hN hv hd hcd) hb hs) fun _ _ _ z => run2v hD z
theorem de_ix {r : R2} {h : D → D → Option D} (ho : IxR X r) (hD : OpD X r h) (ha : DE Φ X a f) (hb : DE Φ X b g) (hs : PlainIx b := by intro _ _; rfl) : DE Φ X (.Subscript a b pos) (op2 h f g) := PE.imp (pe_ix ho ha hb.wk hs) fun _ _ _ z => run2 hD z
end
end L2.DL

/-! DL3: the operators on trees. -/
namespace L2.DL
open PySem PySem.Spec PyProof.Rows
abbrev lineN : Nat := 16777216
theorem line_eq : sizeLine = lineN := sizeLine_eq

/-! ### ints -/
def ii (g : Int → Int → Int) : D → D → Option D
  | .int i, .int j => some (.int (g i j))
  | _, _ => none
def iiC (C : Int → Int → Bool) (g : Int → Int → Int) : D → D → Option D
  | .int i, .int j => if C i j then some (.int (g i j)) else none
  | _, _ => none
def ib (g : Int → Int → Bool) : D → D → Option D
  | .int i, .int j => some (.bl (g i j))
  | _, _ => none
section
variable {X : Cx}
theorem od_i0 {g : Int → Int → Int} : OpD X (rI0 fun i j => .int (g i j)) (ii g) := by
  intro q x y d1 d2 d Q _ _ _ h1 h2 e k
  cases d1 <;> cases d2 <;> first
    | (cases e; exact ⟨_, _, h1.int, h2.int, k _ _ (Grow.refl _) (.int _)⟩)
    | cases e
theorem od_b0 {g : Int → Int → Bool} : OpD X (rI0 fun i j => .bl (g i j)) (ib g) := by
  intro q x y d1 d2 d Q _ _ _ h1 h2 e k
  cases d1 <;> cases d2 <;> first
    | (cases e; exact ⟨_, _, h1.int, h2.int, k _ _ (Grow.refl _) (.bl _)⟩)
    | cases e
theorem od_iC {P : Int → Int → Prop} {C : Int → Int → Bool} {g : Int → Int → Int} (hC : ∀ i j, C i j = true → P i j) : OpD X (rI P fun i j => .int (g i j)) (iiC C g) := by
  intro q x y d1 d2 d Q _ _ _ h1 h2 e k
  cases d1 <;> cases d2 <;> first
    | (simp only [iiC] at e
       split at e
       · cases e; exact ⟨_, _, h1.int, h2.int, hC _ _ (by assumption), k _ _ (Grow.refl _) (.int _)⟩
       · cases e)
    | cases e
end
def subD := ii fun i j => i - j
def mulC (i j : Int) : Bool := decide (i.natAbs.log2 + j.natAbs.log2 < 1000000)
def mulD := iiC mulC fun i j => i * j
def divC (_ j : Int) : Bool := decide (0 < j) && decide (j.natAbs.log2 < 9000)
def fdivD := iiC divC fun i j => i / j
def modC (_ j : Int) : Bool := decide (0 < j)
def modD := iiC modC fun i j => i % j
def powC (i j : Int) : Bool := decide (0 ≤ j) && decide (j ≤ 1000000) && decide (i.natAbs < 2 ^ 64)
def powD := iiC powC fun i j => i ^ j.toNat
def ltD := ib fun i j => decide (i < j)
def leD := ib fun i j => decide (i ≤ j)
def gtD := ib fun i j => decide (j < i)
def geD := ib fun i j => decide (j ≤ i)
def negD : D → Option D
  | .int i => some (.int (-i))
  | _ => none
section
variable {X : Cx}
theorem od_sub : OpD X (rI0 fun i j => .int (i - j)) subD := od_i0
theorem od_mul : OpD X (rI CMulW fun i j => .int (i * j)) mulD := od_iC fun i j h => (of_decide_eq_true (show decide (i.natAbs.log2 + j.natAbs.log2 < 1000000) = true from h) : i.natAbs.log2 + j.natAbs.log2 < 1000000)
theorem od_fdiv : OpD X (rI CDivW fun i j => .int (i / j)) fdivD := od_iC fun i j h => by
  unfold divC at h
  rw [Bool.and_eq_true, decide_eq_true_iff, decide_eq_true_iff] at h
  exact h
theorem od_mod : OpD X (rI (fun _ j => 0 < j) fun i j => .int (i % j)) modD := od_iC fun i j h => of_decide_eq_true h
theorem od_pow : OpD X (rI CPow fun i j => .int (i ^ j.toNat)) powD := od_iC fun i j h => by
  unfold powC at h
  rw [Bool.and_eq_true, Bool.and_eq_true, decide_eq_true_iff, decide_eq_true_iff, decide_eq_true_iff] at h
  exact ⟨h.1.1, h.1.2, h.2⟩
theorem od_lt : OpD X (rI0 fun i j => .bl (decide (i < j))) ltD := od_b0
theorem od_le : OpD X (rI0 fun i j => .bl (decide (i ≤ j))) leD := od_b0
theorem od_gt : OpD X (rI0 fun i j => .bl (decide (j < i))) gtD := od_b0
theorem od_ge : OpD X (rI0 fun i j => .bl (decide (j ≤ i))) geD := od_b0
theorem ud_neg : UnD X (rU fun i => .int (-i)) negD := by
  intro q x d1 d Q _ _ _ h1 e k
  cases d1 <;> first
    | (cases e; exact ⟨_, h1.int, k _ _ (Grow.refl _) (.int _)⟩)
    | cases e
end

/-! ### a new object -/
theorem OwnR.rep {r : RC} {a : Addr} (n : ¬ r.A a) : ∀ {d : D}, OwnR r a d → Rep r (.ref a) d
  | .lst _, ⟨_, h, q⟩ => .lst h n q
  | .dct _ _, ⟨_, h, e, q⟩ => .dct h n e q
  | .non, h => h.elim | .bl _, h => h.elim | .int _, h => h.elim | .str _, h => h.elim | .tup _, h => h.elim | .frz _, h => h.elim | .ins _ _ _, h => h.elim | .cell _, h => h.elim
/-- what stands in a new object -/
def NewR (q : RC) (o : HO) : D → Prop
  | .lst ds => ∃ vs, o = .lst vs ∧ Reps q vs ds
  | .dct ks ds => ∃ kvs, o = .dK kvs ∧ kvs.map (·.1) = ks ∧ Reps q (kvs.map (·.2)) ds
  | _ => False
theorem NewR.own {q r : RC} {p : Addr} {o : HO} (S : Stp q r) (h : r.H p = some o) : ∀ {d : D}, NewR q o d → OwnR r p d
  | .lst _, ⟨vs, e, w⟩ => ⟨vs, by rw [h, e], w.step S⟩
  | .dct _ _, ⟨kvs, e, e2, w⟩ => ⟨kvs, by rw [h, e], e2, w.step S⟩
  | .non, h => h.elim | .bl _, h => h.elim | .int _, h => h.elim | .str _, h => h.elim | .tup _, h => h.elim | .frz _, h => h.elim | .ins _ _ _, h => h.elim | .cell _, h => h.elim
theorem NewR.rep {q : RC} {p : Addr} {o : HO} {d : D} (h : NewR q o d) (n : q.H p = none) (na : ¬ q.A p) : Rep (q.at (upd q.H p o)) (.ref p) d :=
  OwnR.rep (r := q.at (upd q.H p o)) na (h.own (Grow.stp (Grow.upd n)) upd_same)
/-- an operator whose value is a new list or dict -/
def OpF (X : Cx) (r : R2) (h : D → D → Option D) : Prop := ∀ (q : RC) (x y : V) (d1 d2 d : D) (Q : VK), q.K = X.K → q.mg = X.mg → (∀ p, q.H p = none → ¬ q.A p) → RepW q x d1 → RepW q y d2 → h d1 d2 = some d →
  (∀ p o, q.H p = none → NewR q o d → Q (.ref p) (upd q.H p o)) → r x y q.H Q
theorem OpF.d {X : Cx} {r : R2} {h : D → D → Option D} (f : OpF X r h) : OpD X r h := fun q x y d1 d2 d Q k1 k2 k3 h1 h2 e k =>
  f q x y d1 d2 d Q k1 k2 k3 h1 h2 e fun p o n w => k _ _ (Grow.upd n) (w.rep n (k3 p n))
theorem own_lst {q : RC} {p : Addr} {vs : List V} {ds : List D} (n : q.H p = none) (h : Reps q vs ds) : OwnR (q.at (upd q.H p (.lst vs))) p (.lst ds) := ⟨vs, upd_same, h.step (Grow.stp (Grow.upd n))⟩
theorem own_dct {q : RC} {p : Addr} {kvs : List (Key × V)} {ks : List Key} {ds : List D} (n : q.H p = none) (e : kvs.map (·.1) = ks) (h : Reps q (kvs.map (·.2)) ds) : OwnR (q.at (upd q.H p (.dK kvs))) p (.dct ks ds) :=
  ⟨kvs, upd_same, e, h.step (Grow.stp (Grow.upd n))⟩
theorem rep_tup {q : RC} {p : Addr} {o : Obj} {vs : List V} {ds : List D} (n : q.H p = none) (na : ¬ q.A p) (hc : o.cls = .type "tuple") (hd : o.dict = none) (h : Reps q vs ds) : Rep (q.at (upd q.H p (.frz o (.tup vs)))) (.ref p) (.tup ds) :=
  .tup (.inl ⟨na, o, upd_same, hc, hd⟩) (h.step (Grow.stp (Grow.upd n)))
/-- a new tuple -/
theorem newT {q : RC} {vs : List V} {ds : List D} {Q : VK} (hn : ∀ p, q.H p = none → ¬ q.A p) (h : Reps q vs ds) (k : ∀ v H', Grow q.H H' → Rep (q.at H') v (.tup ds) → Q v H') : NewT vs q.H Q :=
  fun p o n hc hd => k _ _ (Grow.upd n) (rep_tup n (hn p n) hc hd h)

/-! ### + -/
def addL : D → D → Option D
  | .lst a, .lst b => if a.length + b.length ≤ lineN then some (.lst (a ++ b)) else none
  | _, _ => none
def addT : D → D → Option D
  | .tup a, .tup b => if a.length + b.length ≤ lineN then some (.tup (a ++ b)) else none
  | _, _ => none
def addS : D → D → Option D
  | .str a, .str b => if a.length + b.length ≤ lineN then some (.str (a ++ b)) else none
  | _, _ => none
def addI := ii fun i j => i + j
section
variable {X : Cx}
theorem of_addL : OpF X rCat addL := by
  intro q x y d1 d2 d Q _ _ _ h1 h2 e k
  cases d1 <;> cases d2 <;> first
    | (simp only [addL] at e
       split at e
       · rename_i hl
         cases e
         obtain ⟨a, vs, rfl, ha, qa⟩ := h1.lst
         obtain ⟨b, ws, rfl, hb, qb⟩ := h2.lst
         refine ⟨a, b, vs, ws, rfl, rfl, ha, hb, ?_, fun p n => k p _ n ⟨_, rfl, qa.append qb⟩⟩
         rw [qa.length, qb.length, line_eq]
         exact hl
       · cases e)
    | cases e
theorem od_addT : OpD X (rCatX X.K) addT := by
  intro q x y d1 d2 d Q hK _ hn h1 h2 e k
  cases d1 <;> cases d2 <;> first
    | (simp only [addT] at e
       split at e
       · rename_i hl
         cases e
         obtain ⟨a, vs, rfl, ha, qa⟩ := h1.tup
         obtain ⟨b, ws, rfl, hb, qb⟩ := h2.tup
         refine ⟨a, b, vs, ws, rfl, rfl, hK ▸ ha.sq, hK ▸ hb.sq, ?_, fun z => ?_, fun z1 z2 => ?_, fun z1 z2 => newT hn (qa.append qb) k⟩
         · rw [qa.length, qb.length, line_eq]; exact hl
         · subst z
           cases qa
           exact k _ _ (Grow.refl _) (.tup hb qb)
         · subst z2
           cases qb
           rw [List.append_nil] at k
           exact k _ _ (Grow.refl _) (.tup ha qa)
       · cases e)
    | cases e
theorem od_addS : OpD X (fun x y H Q => ∃ i j, x = .str i ∧ y = .str j ∧ i.length + j.length ≤ sizeLine ∧ Q (.str (i ++ j)) H) addS := by
  intro q x y d1 d2 d Q _ _ _ h1 h2 e k
  cases d1 <;> cases d2 <;> first
    | (simp only [addS] at e
       split at e
       · rename_i hl
         cases e
         exact ⟨_, _, h1.str, h2.str, by rw [line_eq]; exact hl, k _ _ (Grow.refl _) (.str _)⟩
       · cases e)
    | cases e
theorem od_addI : OpD X (rI0 fun i j => .int (i + j)) addI := od_i0
end
/-- x + y of ints, texts, lists, tuples -/
def addD : D → D → Option D := fun x y => (addI x y).or ((addS x y).or ((addL x y).or (addT x y)))
theorem addD_int (i j : Int) : addD (.int i) (.int j) = some (.int (i + j)) := rfl
theorem addD_str (s t : Str) : addD (.str s) (.str t) = if s.length + t.length ≤ lineN then some (.str (s ++ t)) else none := by
  show ((addS (.str s) (.str t)).or none) = _
  rw [Option.or_none]; rfl
theorem addD_lst (s t : List D) : addD (.lst s) (.lst t) = if s.length + t.length ≤ lineN then some (.lst (s ++ t)) else none := by
  show ((addL (.lst s) (.lst t)).or none) = _
  rw [Option.or_none]; rfl
theorem addD_tup (s t : List D) : addD (.tup s) (.tup t) = if s.length + t.length ≤ lineN then some (.tup (s ++ t)) else none := rfl
section
variable {Φ : Ctx} {X : Cx} {a b c e : Expr} {f g k : Mo D} {pos : Pos}
theorem de_add (ha : DE Φ X a f) (hb : DB Φ X b g) : DE Φ X (.BinOp a .Add b pos) (op2 addD f g) :=
  de_op (op_add.or (op_add_str.or (op_cat.or op_catX))) (od_addI.or (od_addS.or (of_addL.d.or od_addT))) ha hb
theorem de_sub (ha : DE Φ X a f) (hb : DB Φ X b g) : DE Φ X (.BinOp a .Sub b pos) (op2 subD f g) := de_op op_sub od_sub ha hb
theorem de_mul (ha : DE Φ X a f) (hb : DB Φ X b g) : DE Φ X (.BinOp a .Mult b pos) (op2 mulD f g) := de_op op_mulW od_mul ha hb
theorem de_fdiv (ha : DE Φ X a f) (hb : DB Φ X b g) : DE Φ X (.BinOp a .FloorDiv b pos) (op2 fdivD f g) := de_op op_fdivW od_fdiv ha hb
theorem de_mod (ha : DE Φ X a f) (hb : DB Φ X b g) : DE Φ X (.BinOp a .Mod b pos) (op2 modD f g) := de_op op_mod od_mod ha hb
theorem de_pow (ha : DE Φ X a f) (hb : DB Φ X b g) : DE Φ X (.BinOp a .Pow b pos) (op2 powD f g) := de_op op_pow od_pow ha hb
theorem de_neg (ha : DB Φ X a f) : DE Φ X (.UnaryOp .USub a pos) (op1 negD f) := de_un un_neg ud_neg ha
end

/-! ### comparisons of data -/
def flatD : D → Bool
  | .non | .bl _ | .int _ | .str _ => true
  | _ => false
def eqF : D → D → Bool
  | .non, .non => true
  | .bl a, .bl b => a == b
  | .bl a, .int b => (if a then 1 else 0) == b
  | .int a, .bl b => a == (if b then 1 else 0)
  | .int a, .int b => a == b
  | .str a, .str b => a == b
  | _, _ => false
theorem Rep.flat {r : RC} {v : V} {d : D} (h : Rep r v d) (f : flatD d = true) : flatV v = true := by cases h <;> first | rfl | (cases f; done)
theorem Reps.flatV {r : RC} : ∀ {vs : List V} {ds : List D}, Reps r vs ds → ds.all flatD = true → vs.all L2.flatV = true
  | _, _, .nil, _ => rfl
  | _, _, .cons h t, f => by
    rw [List.all_cons, Bool.and_eq_true] at f ⊢
    exact ⟨h.flat f.1, Reps.flatV t f.2⟩
theorem Rep.eqF {r : RC} {v w : V} {d e : D} (h : Rep r v d) (k : Rep r w e) (f : flatD d = true) (g : flatD e = true) : eqV v w = DL.eqF d e := by
  cases h <;> first
    | (cases f; done)
    | (cases k <;> first | (cases g; done) | rfl)
theorem Reps.inV {r : RC} {v : V} {d : D} (h : Rep r v d) (f : flatD d = true) : ∀ {vs : List V} {ds : List D}, Reps r vs ds → ds.all flatD = true → L2.inV v vs = ds.any fun y => DL.eqF y d
  | _, _, .nil, _ => rfl
  | _, _, .cons q t, g => by
    rw [List.all_cons, Bool.and_eq_true] at g
    unfold L2.inV
    rw [List.any_cons, List.any_cons, q.eqF h g.1 f]
    exact congrArg (fun b => _ || b) (Reps.inV h f t g.2)
def inL (neg : Bool) (x : D) (ds : List D) : Option D := if flatD x && ds.all flatD then some (.bl (if neg then !(ds.any fun y => eqF y x) else ds.any fun y => eqF y x)) else none
def inSeq (neg : Bool) (x : D) : D → Option D
  | .lst ds | .tup ds | .frz ds => inL neg x ds
  | _ => none
theorem RepW.flat {r : RC} {v : V} {d : D} (h : RepW r v d) (f : flatD d = true) : Rep r v d := by
  rcases h with h | ⟨a, e, h⟩
  · exact h
  · cases d <;> first | (cases f; done) | exact h.elim
section
variable {X : Cx}
theorem od_in (neg : Bool) : OpD X (rIn X.K neg) (inSeq neg) := by
  intro q x y d1 d2 d Q hK _ _ h1 h2 e k
  have fin : ∀ {p : Addr} {vs : List V} {ds : List D}, y = .ref p → (SqL X.K q.H p vs ∨ SqT X.K q.H p vs) → Reps q vs ds → inL neg d1 ds = some d → rIn X.K neg x y q.H Q := by
    intro p vs ds ey hs qs e
    unfold inL at e
    split at e
    · rename_i hf
      rw [Bool.and_eq_true] at hf
      cases e
      have r1 := h1.flat hf.1
      refine ⟨p, vs, ey, hs, r1.flat hf.1, qs.flatV hf.2, ?_⟩
      rw [Reps.inV r1 hf.1 qs hf.2]
      exact k _ _ (Grow.refl _) (.bl _)
    · cases e
  cases d2 with
  | lst ds =>
    obtain ⟨b, ws, rfl, hb, qb⟩ := h2.lst
    exact fin rfl (.inl (.of hb)) qb e
  | tup ds =>
    obtain ⟨b, ws, rfl, hb, qb⟩ := h2.tup
    exact fin rfl (.inr (hK ▸ hb.sq)) qb e
  | frz ds =>
    obtain ⟨b, ws, rfl, hb, qb⟩ := h2.frz
    exact fin rfl (.inl (hK ▸ hb.sq)) qb e
  | _ => cases e
end

/-! ### == -/
mutual
/-- as the model's data; junk for what is no data -/
def toP : D → PyData
  | .non => .none | .bl b => .bool b | .int i => .int i | .str s => .str s
  | .tup xs => .tuple (toPs xs) | .lst xs => .list (toPs xs) | .frz xs => .list (toPs xs)
  | .dct _ _ => .none | .ins _ _ _ => .none | .cell _ => .none
def toPs : List D → List PyData
  | [] => []
  | d :: ds => toP d :: toPs ds
end
mutual
def isData : D → Bool
  | .non | .bl _ | .int _ | .str _ => true
  | .tup xs | .lst xs | .frz xs => areData xs
  | .dct _ _ => false | .ins _ _ _ => false | .cell _ => false
def areData : List D → Bool
  | [] => true
  | d :: ds => isData d && areData ds
end
mutual
theorem Rep.dp {r : RC} : ∀ {v : V} {d : D}, Rep r v d → isData d = true → Dp r.K r.H v (toP d)
  | _, _, .non, _ => .non
  | _, _, .bl b, _ => .bl b
  | _, _, .int i, _ => .int i
  | _, _, .str s, _ => .str s
  | _, _, .tup h q, e => .tup h.sq (Reps.dp q e)
  | _, _, .lst h n q, e => .lst (.of h) (Reps.dp q e)
  | _, _, .frz h q, e => .lst h.sq (Reps.dp q e)
  | _, _, .dct _ _ _ _, e => by cases e
  | _, _, .ins _ _ _ _ _, e => by cases e
  | _, _, .cell _, e => by cases e
theorem Reps.dp {r : RC} : ∀ {vs : List V} {ds : List D}, Reps r vs ds → areData ds = true → DpAll r.K r.H vs (toPs ds)
  | _, _, .nil, _ => .nil
  | _, _, .cons h t, e => by
    have e : (isData _ && areData _) = true := e
    rw [Bool.and_eq_true] at e
    exact .cons (Rep.dp h e.1) (Reps.dp t e.2)
end
theorem RepW.dp {r : RC} {v : V} {d : D} (h : RepW r v d) (e : isData d = true) : Dp r.K r.H v (toP d) := by
  rcases h with h | ⟨a, rfl, h⟩
  · exact h.dp e
  · cases d with
    | lst ds => obtain ⟨vs, h, q⟩ := h; exact .lst (.of h) (q.dp e)
    | dct ks ds => cases e
    | _ => exact h.elim
/-- scalars that the plain rule tells apart -/
def scalD : D → D → Option Bool
  | .non, .non => some true | .non, .int _ => some false | .int _, .non => some false | .non, .bl _ => some false | .bl _, .non => some false | .non, .str _ => some false | .str _, .non => some false
  | .int i, .int j => some (decide (i = j)) | .bl i, .bl j => some (decide (i = j)) | .str i, .str j => some (decide (i = j))
  | .int _, .str _ => some false | .str _, .int _ => some false | .bl _, .str _ => some false | .str _, .bl _ => some false
  | _, _ => none
def dataEq (x y : D) : Option Bool := if isData x && isData y && SeqAt.shaped (toP x) && SeqAt.shaped (toP y) then some (PyData.eqv (toP x) (toP y)) else none
/-- two dicts of flat things that are the same -/
def dctEq : D → D → Option Bool
  | .dct ks vs, .dct ks' vs' => if decide (ks = ks') && decide (ks.Nodup) && vs.all flatD && vs'.all flatD && decide (vs.length = vs'.length) && (vs.zip vs').all (fun p => eqF p.1 p.2) then some true else none
  | _, _ => none
def eqB (x y : D) : Option Bool := (scalD x y).or (dataEq x y)
def eqD (x y : D) : Option D := ((scalD x y).map D.bl).or ((dataEq x y).map D.bl)
def neD (x y : D) : Option D := ((scalD x y).map fun b => D.bl (!b)).or ((dataEq x y).map fun b => D.bl (!b))
theorem scal_eq {r : RC} {x y : V} {d1 d2 : D} {b : Bool} (h1 : RepW r x d1) (h2 : RepW r y d2) (e : scalD d1 d2 = some b) : scal x y = true ∧ decide (x = y) = b := by
  cases d1 <;> cases d2 <;> first
    | cases e; done
    | (have e := Option.some.inj e
       subst e
       first
         | (rw [h1.int, h2.int]; exact ⟨rfl, by simp⟩)
         | (rw [h1.bl, h2.bl]; exact ⟨rfl, by simp⟩)
         | (rw [h1.str, h2.str]; exact ⟨rfl, by simp⟩)
         | (rw [h1.non, h2.non]; exact ⟨rfl, by simp⟩)
         | (rw [h1.int, h2.str]; exact ⟨rfl, by simp⟩)
         | (rw [h1.str, h2.int]; exact ⟨rfl, by simp⟩)
         | (rw [h1.bl, h2.str]; exact ⟨rfl, by simp⟩)
         | (rw [h1.str, h2.bl]; exact ⟨rfl, by simp⟩)
         | (rw [h1.non, h2.int]; exact ⟨rfl, by simp⟩)
         | (rw [h1.int, h2.non]; exact ⟨rfl, by simp⟩)
         | (rw [h1.non, h2.bl]; exact ⟨rfl, by simp⟩)
         | (rw [h1.bl, h2.non]; exact ⟨rfl, by simp⟩)
         | (rw [h1.non, h2.str]; exact ⟨rfl, by simp⟩)
         | (rw [h1.str, h2.non]; exact ⟨rfl, by simp⟩))
section
variable {X : Cx}
theorem od_eqS : OpD X rEq (fun x y => (scalD x y).map D.bl) := by
  intro q x y d1 d2 d Q _ _ _ h1 h2 e k
  obtain ⟨b, e2, rfl⟩ := Option.map_eq_some_iff.mp e
  obtain ⟨s, z⟩ := scal_eq h1 h2 e2
  exact ⟨s, by rw [z]; exact k _ _ (Grow.refl _) (.bl _)⟩
theorem od_neS : OpD X rNe (fun x y => (scalD x y).map fun b => D.bl (!b)) := by
  intro q x y d1 d2 d Q _ _ _ h1 h2 e k
  obtain ⟨b, e2, rfl⟩ := Option.map_eq_some_iff.mp e
  obtain ⟨s, z⟩ := scal_eq h1 h2 e2
  exact ⟨s, by rw [z]; exact k _ _ (Grow.refl _) (.bl _)⟩
theorem od_eqP : OpD X (rEqD X.K) (fun x y => (dataEq x y).map D.bl) := by
  intro q x y d1 d2 d Q hK _ _ h1 h2 e k
  obtain ⟨b, e2, rfl⟩ := Option.map_eq_some_iff.mp e
  unfold dataEq at e2
  split at e2
  · rename_i hc
    simp only [Bool.and_eq_true] at hc
    cases e2
    exact ⟨_, _, hK ▸ h1.dp hc.1.1.1, hK ▸ h2.dp hc.1.1.2, hc.1.2, hc.2, k _ _ (Grow.refl _) (.bl _)⟩
  · cases e2
theorem od_neP : OpD X (rNeD X.K) (fun x y => (dataEq x y).map fun b => D.bl (!b)) := by
  intro q x y d1 d2 d Q hK _ _ h1 h2 e k
  obtain ⟨b, e2, rfl⟩ := Option.map_eq_some_iff.mp e
  unfold dataEq at e2
  split at e2
  · rename_i hc
    simp only [Bool.and_eq_true] at hc
    cases e2
    exact ⟨_, _, hK ▸ h1.dp hc.1.1.1, hK ▸ h2.dp hc.1.1.2, hc.1.2, hc.2, k _ _ (Grow.refl _) (.bl _)⟩
  · cases e2
def isND (neg : Bool) : D → D → Option D
  | .non, .non => some (.bl (!neg))
  | .cell _, .non => none
  | _, .non => some (.bl neg)
  | _, _ => none
theorem Rep.notNon {r : RC} {v : V} {d : D} (h : Rep r v d) (n : d ≠ .non) : v ≠ .non := by
  cases h <;> first | exact absurd rfl n | (intro z; cases z)
theorem RepW.notNon {r : RC} {v : V} {d : D} (h : RepW r v d) (n : d ≠ .non) : v ≠ .non := by
  rcases h with h | ⟨a, rfl, h⟩
  · exact h.notNon n
  · intro z; cases z
theorem od_isN : OpD X (fun x y H Q => y = .non ∧ Q (.bl (decide (x = .non))) H) (isND false) := by
  intro q x y d1 d2 d Q _ _ _ h1 h2 e k
  have fin : d1 ≠ .non → d2 = .non → d = .bl false → y = .non ∧ Q (.bl (decide (x = .non))) q.H := fun n e2 e3 => by
    subst e2 e3
    refine ⟨h2.non, ?_⟩
    rw [decide_eq_false (h1.notNon n)]
    exact k _ _ (Grow.refl _) (.bl _)
  cases d2 <;> first
    | (cases d1 <;> first
        | cases e; done
        | exact fin (by intro z; cases z) rfl (Option.some.inj e).symm
        | (refine ⟨h2.non, ?_⟩
           rw [h1.non]
           cases e
           exact k _ _ (Grow.refl _) (.bl _)))
    | (cases d1 <;> cases e)
theorem od_notN : OpD X (fun x y H Q => y = .non ∧ Q (.bl (!decide (x = .non))) H) (isND true) := by
  intro q x y d1 d2 d Q _ _ _ h1 h2 e k
  have fin : d1 ≠ .non → d2 = .non → d = .bl true → y = .non ∧ Q (.bl (!decide (x = .non))) q.H := fun n e2 e3 => by
    subst e2 e3
    refine ⟨h2.non, ?_⟩
    rw [decide_eq_false (h1.notNon n)]
    exact k _ _ (Grow.refl _) (.bl _)
  cases d2 <;> first
    | (cases d1 <;> first
        | cases e; done
        | exact fin (by intro z; cases z) rfl (Option.some.inj e).symm
        | (refine ⟨h2.non, ?_⟩
           rw [h1.non]
           cases e
           exact k _ _ (Grow.refl _) (.bl _)))
    | (cases d1 <;> cases e)
end
end L2.DL

/-! DL4: tests, and/or, displays, slices, built-ins by values. -/
namespace L2.DL
open PySem PySem.Spec PyProof.Rows
section
variable {Φ : Ctx} {X : Cx} {a b c e : Expr} {f g k : Mo D} {pos : Pos}

/-! ### == of anything that is data -/
abbrev hasUnits (X : Cx) : Prop := X.A.units + 64 < cLine
theorem or_eq (hu : hasUnits X) : OpR X (compareOp .Eq) (fun x y H Q => rEq x y H Q ∨ rEqD X.K x y H Q) := op_eq.or (op_eqD hu)
theorem or_ne (hu : hasUnits X) : OpR X (compareOp .NotEq) (fun x y H Q => rNe x y H Q ∨ rNeD X.K x y H Q) := op_ne.or (op_neD hu)
theorem od_eq : OpD X (fun x y H Q => rEq x y H Q ∨ rEqD X.K x y H Q) eqD := od_eqS.or od_eqP
theorem od_ne : OpD X (fun x y H Q => rNe x y H Q ∨ rNeD X.K x y H Q) neD := od_neS.or od_neP

/-! ### one sign in a text -/
def inTxt (neg : Bool) : D → D → Option D
  | .str s, .str t => some (.bl (if neg then !(!(Builtin.Str.occurrences t s 0 t.length 1).isEmpty) else !(Builtin.Str.occurrences t s 0 t.length 1).isEmpty))
  | _, _ => none
theorem od_inT : OpD X (fun x y H Q => ∃ i j, x = .str i ∧ y = .str j ∧ Q (.bl (!(Builtin.Str.occurrences j i 0 j.length 1).isEmpty)) H) (inTxt false) := by
  intro q x y d1 d2 d Q _ _ _ h1 h2 e k
  cases d1 <;> cases d2 <;> first
    | (cases e; exact ⟨_, _, h1.str, h2.str, k _ _ (Grow.refl _) (.bl _)⟩)
    | cases e
theorem od_ninT : OpD X (fun x y H Q => ∃ i j, x = .str i ∧ y = .str j ∧ Q (.bl (!(!(Builtin.Str.occurrences j i 0 j.length 1).isEmpty))) H) (inTxt true) := by
  intro q x y d1 d2 d Q _ _ _ h1 h2 e k
  cases d1 <;> cases d2 <;> first
    | (cases e; exact ⟨_, _, h1.str, h2.str, k _ _ (Grow.refl _) (.bl _)⟩)
    | cases e
def inD (x y : D) : Option D := (inSeq false x y).or (inTxt false x y)
def ninD (x y : D) : Option D := (inSeq true x y).or (inTxt true x y)
theorem od_inD : OpD X (fun x y H Q => rIn X.K false x y H Q ∨ (∃ i j, x = .str i ∧ y = .str j ∧ Q (.bl (!(Builtin.Str.occurrences j i 0 j.length 1).isEmpty)) H)) inD := (od_in false).or od_inT
theorem od_ninD : OpD X (fun x y H Q => rIn X.K true x y H Q ∨ (∃ i j, x = .str i ∧ y = .str j ∧ Q (.bl (!(!(Builtin.Str.occurrences j i 0 j.length 1).isEmpty))) H)) ninD := (od_in true).or od_ninT

/-! ### order of ints and texts -/
def strLt : D → D → Option D
  | .str s, .str t => some (.bl (decide (s.cps.toList < t.cps.toList)))
  | _, _ => none
def strLe : D → D → Option D
  | .str s, .str t => some (.bl (decide (s.cps.toList ≤ t.cps.toList)))
  | _, _ => none
theorem od_ltS : OpD X (fun x y H Q => ∃ i j, x = .str i ∧ y = .str j ∧ Q (.bl (decide (i.cps.toList < j.cps.toList))) H) strLt := by
  intro q x y d1 d2 d Q _ _ _ h1 h2 e k
  cases d1 <;> cases d2 <;> first
    | (cases e; exact ⟨_, _, h1.str, h2.str, k _ _ (Grow.refl _) (.bl _)⟩)
    | cases e
def ltA (x y : D) : Option D := (ltD x y).or (strLt x y)
theorem ltA_int (i j : Int) : ltA (.int i) (.int j) = some (.bl (decide (i < j))) := rfl

theorem de_lt (ha : DE Φ X a f) (hb : DB Φ X b g) : DE Φ X (.Compare a [.Lt] [b] pos) (op2 ltA f g) := de_cmp (op_lt.or op_lt_str) (od_lt.or od_ltS) ha hb (nomark _)
theorem de_le (ha : DE Φ X a f) (hb : DB Φ X b g) : DE Φ X (.Compare a [.LtE] [b] pos) (op2 leD f g) := de_cmp op_le od_le ha hb (nomark _)
theorem de_gt (ha : DE Φ X a f) (hb : DB Φ X b g) : DE Φ X (.Compare a [.Gt] [b] pos) (op2 gtD f g) := de_cmp op_gt od_gt ha hb (nomark _)
theorem de_ge (ha : DE Φ X a f) (hb : DB Φ X b g) : DE Φ X (.Compare a [.GtE] [b] pos) (op2 geD f g) := de_cmp op_ge od_ge ha hb (nomark _)
theorem de_eq (hu : hasUnits X) (ha : DE Φ X a f) (hb : DB Φ X b g) : DE Φ X (.Compare a [.Eq] [b] pos) (op2 eqD f g) := de_cmp (or_eq hu) od_eq ha hb (nomark _)
theorem de_ne (hu : hasUnits X) (ha : DE Φ X a f) (hb : DB Φ X b g) : DE Φ X (.Compare a [.NotEq] [b] pos) (op2 neD f g) := de_cmp (or_ne hu) od_ne ha hb (nomark _)
theorem de_in (ha : DE Φ X a f) (hb : DB Φ X b g) (hm : behindInMarks .In b = false := by rfl) : DE Φ X (.Compare a [.In] [b] pos) (op2 inD f g) := de_cmp (op_in_seq.or op_in_str) od_inD ha hb hm
theorem de_nin (ha : DE Φ X a f) (hb : DB Φ X b g) (hm : behindInMarks .NotIn b = false := by rfl) : DE Φ X (.Compare a [.NotIn] [b] pos) (op2 ninD f g) := de_cmp (op_notIn_seq.or op_notIn_str) od_ninD ha hb hm
theorem de_isN (ha : DE Φ X a f) (hb : DB Φ X b g) : DE Φ X (.Compare a [.Is] [b] pos) (op2 (isND false) f g) := de_cmp op_isN od_isN ha hb (nomark _)
theorem de_notN (ha : DE Φ X a f) (hb : DB Φ X b g) : DE Φ X (.Compare a [.IsNot] [b] pos) (op2 (isND true) f g) := de_cmp op_notN od_notN ha hb (nomark _)

/-! ### tests -/
def PostT (Φ : Ctx) (X : Cx) (C : List Addr) (os : Os) (σ : St) (H : Hp) (o : O Bool) (Q : Bool → Hp → Prop) : Prop := match o with
  | .ok d ρ' μ' => ∀ H' C' os', Rl Φ X ρ' μ' C' os' σ H' → Stp (rc Φ X C os H) (rc Φ X C' os' H') → Q d H'
  | .ex c ns ds ρ' μ' => ∀ Cc dx H' C' os', Rl Φ X ρ' μ' C' os' σ H' → Stp (rc Φ X C os H) (rc Φ X C' os' H') → X.mg c = some (.ref Cc) → EhR (rc Φ X C' os' H') dx c ns ds → Φ.W (.ref Cc) (some dx) σ H'
  | .no => False
def cT (Φ : Ctx) (X : Cx) (f : Mo Bool) : TT := fun σ H Q => ∃ ρ μ C os, Rl Φ X ρ μ C os σ H ∧ PostT Φ X C os σ H (f ρ μ) Q
def DT (Φ : Ctx) (X : Cx) (e : Expr) (f : Mo Bool) : Prop := PT X e (cT Φ X f)
def DW (Φ : Ctx) (X : Cx) (e : Expr) (f : Mo Bool) : Prop := PW X e (cT Φ X f)
theorem PT.imp {e : Expr} {t t' : TT} (h : PT X e t) (i : ∀ σ H Q, t' σ H Q → t σ H Q) : PT X e t' := ⟨fun pins s σ H Q I q => h.run pins s σ H Q I (i σ H Q q)⟩
theorem PW.imp {e : Expr} {t t' : TT} (h : PW X e t) (i : ∀ σ H Q, t' σ H Q → t σ H Q) : PW X e t' := ⟨fun w pins s σ H Q I q => h.run w pins s σ H Q I (i σ H Q q)⟩
theorem PostT.from {C C1 : List Addr} {os os1 : Os} {σ : St} {H H1 : Hp} {o : O Bool} {Q : Bool → Hp → Prop} (S : Stp (rc Φ X C os H) (rc Φ X C1 os1 H1)) (h : PostT Φ X C os σ H o Q) : PostT Φ X C1 os1 σ H1 o Q := by
  cases o with
  | ok d ρ' μ' => exact fun H' C' os' R T => h H' C' os' R (S.trans T)
  | ex c ns ds ρ' μ' => exact fun Cc dx H' C' os' R T g e => h Cc dx H' C' os' R (S.trans T) g e
  | no => exact h
def asBl : D → Option Bool
  | .bl b => some b
  | _ => none
def tst (f : Mo D) : Mo Bool := bnd f fun x => lift (asBl x)
theorem cE_tst {σ : St} {H : Hp} {Q : Bool → Hp → Prop} (z : cT Φ X (tst f) σ H Q) : cE Φ X f σ H fun x H1 => ∃ k, x = .bl k ∧ Q k H1 := by
  obtain ⟨ρ, μ, C, os, R, z⟩ := z
  refine ⟨ρ, μ, C, os, R, ?_⟩
  unfold tst bnd at z
  cases e : f ρ μ with
  | no => rw [e] at z; exact z.elim
  | ex c ns ds ρ1 μ1 => rw [e] at z; exact z
  | ok d ρ1 μ1 =>
    rw [e] at z
    intro v H1 C1 os1 R1 S1 q
    cases d <;> first
      | (cases q; exact ⟨_, rfl, z H1 C1 os1 R1 S1⟩)
      | exact z.elim
theorem dt_val (h : DE Φ X e f) (he : ∀ whole, isTrue e X.env whole = (do let v ← whole; standAt e.pos; holding [v] (truthy v)) := by intro _; rfl) : DT Φ X e (tst f) := PT.imp (pt_val h he) fun σ H Q z => cE_tst z
theorem pt_of {op : CmpOp} {r : R2} {h : D → D → Option D} (ho : OpR X (compareOp op) r) (hD : OpD X r h) (ha : DE Φ X a f) (hb : DB Φ X b g) (hm : behindInMarks op b = false) : DT Φ X (.Compare a [op] [b] pos) (tst (op2 h f g)) :=
  PT.imp (pt_cmpR ho ha hb hm) fun σ H Q z => run2 hD (cE_tst z)
theorem pt_ofv {op : CmpOp} {r : R2} {h : D → D → Option D} {i : Nat} {x : Str} {px : Pos} (ho : OpR X (compareOp op) r) (hD : OpD X r h) (hb : DE Φ X b g) (hm : behindInMarks op b = false) (hN : X.N[i]? = some x := by rfl)
    (hv : Vis X.env.scope x := by first | exact Or.inl rfl | exact Or.inr (Or.inl rfl) | exact Or.inr (Or.inr rfl)) (hd : (x == ("__debug__" : Str)) = false := by decide) (hcd : (x == ("__classdict__" : Str)) = false := by decide) :
    DT Φ X (.Compare (.Name x px) [op] [b] pos) (tst (op2v h i g)) := PT.imp (pt_cmpR ho (pe_var hN hv hd hcd) hb hm) fun σ H Q z => run2v hD (cE_tst z)
theorem dt_lt (ha : DE Φ X a f) (hb : DB Φ X b g) : DT Φ X (.Compare a [.Lt] [b] pos) (tst (op2 ltA f g)) := pt_of (op_lt.or op_lt_str) (od_lt.or od_ltS) ha hb (nomark _)
theorem dt_le (ha : DE Φ X a f) (hb : DB Φ X b g) : DT Φ X (.Compare a [.LtE] [b] pos) (tst (op2 leD f g)) := pt_of op_le od_le ha hb (nomark _)
theorem dt_gt (ha : DE Φ X a f) (hb : DB Φ X b g) : DT Φ X (.Compare a [.Gt] [b] pos) (tst (op2 gtD f g)) := pt_of op_gt od_gt ha hb (nomark _)
theorem dt_ge (ha : DE Φ X a f) (hb : DB Φ X b g) : DT Φ X (.Compare a [.GtE] [b] pos) (tst (op2 geD f g)) := pt_of op_ge od_ge ha hb (nomark _)
theorem dt_eq (hu : hasUnits X) (ha : DE Φ X a f) (hb : DB Φ X b g) : DT Φ X (.Compare a [.Eq] [b] pos) (tst (op2 eqD f g)) := pt_of (or_eq hu) od_eq ha hb (nomark _)
theorem dt_ne (hu : hasUnits X) (ha : DE Φ X a f) (hb : DB Φ X b g) : DT Φ X (.Compare a [.NotEq] [b] pos) (tst (op2 neD f g)) := pt_of (or_ne hu) od_ne ha hb (nomark _)
theorem dt_in (ha : DE Φ X a f) (hb : DB Φ X b g) (hm : behindInMarks .In b = false := by rfl) : DT Φ X (.Compare a [.In] [b] pos) (tst (op2 inD f g)) := pt_of (op_in_seq.or op_in_str) od_inD ha hb hm
theorem dt_nin (ha : DE Φ X a f) (hb : DB Φ X b g) (hm : behindInMarks .NotIn b = false := by rfl) : DT Φ X (.Compare a [.NotIn] [b] pos) (tst (op2 ninD f g)) := pt_of (op_notIn_seq.or op_notIn_str) od_ninD ha hb hm
theorem dt_isN (ha : DE Φ X a f) (hb : DB Φ X b g) : DT Φ X (.Compare a [.Is] [b] pos) (tst (op2 (isND false) f g)) := pt_of op_isN od_isN ha hb (nomark _)
theorem dt_notN (ha : DE Φ X a f) (hb : DB Φ X b g) : DT Φ X (.Compare a [.IsNot] [b] pos) (tst (op2 (isND true) f g)) := pt_of op_notN od_notN ha hb (nomark _)

/-- a list, a tuple, a text, a dict, an int by its truth -/
def truD : D → Option Bool
  | .non => some false
  | .bl b => some b
  | .int i => some (i != 0)
  | .str s => if s.length ≤ lineN then some ((s.length : Int) != 0) else none
  | .lst ds | .tup ds | .frz ds => some (!ds.isEmpty)
  | .dct ks _ => some (!ks.isEmpty)
  | _ => none
theorem Reps.isEmpty {r : RC} {vs : List V} {ds : List D} (h : Reps r vs ds) : vs.isEmpty = ds.isEmpty := by cases h <;> rfl
theorem tru_of {r : RC} {v : V} {d : D} {k : Bool} (h : RepW r v d) (e : truD d = some k) : TruV r.K v r.H k := by
  unfold TruV
  cases d with
  | non => cases e; rw [h.non]
  | bl b => cases e; rw [h.bl]
  | int i => cases e; rw [h.int]
  | str s =>
    rw [h.str]
    simp only [truD] at e
    split at e
    · rename_i hl
      cases e
      exact ⟨by rw [line_eq]; exact hl, rfl⟩
    · cases e
  | tup ds =>
    obtain ⟨a, vs, rfl, ha, q⟩ := h.tup
    cases e
    exact .inr (.inl ⟨vs, ha.sq, by rw [q.isEmpty]⟩)
  | lst ds =>
    obtain ⟨a, vs, rfl, ha, q⟩ := h.lst
    cases e
    exact .inl ⟨vs, .of ha, by rw [q.isEmpty]⟩
  | frz ds =>
    obtain ⟨a, vs, rfl, ha, q⟩ := h.frz
    cases e
    exact .inl ⟨vs, ha.sq, by rw [q.isEmpty]⟩
  | dct ks ds =>
    obtain ⟨a, kvs, rfl, ha, hk, q⟩ := h.dct
    cases e
    refine .inr (.inr ⟨kvs, ha, ?_⟩)
    subst hk
    cases kvs <;> rfl
  | ins c ns ds => cases e
  | cell n => cases e
end
end L2.DL

/-! DL5: truth, and/or/not, a if b else c, chains, displays, slices. -/
namespace L2.DL
open PySem PySem.Spec PyProof.Rows
section
variable {Φ : Ctx} {X : Cx} {a b c e : Expr} {f g k : Mo D} {ft gt : Mo Bool} {rest : List Expr} {pos : Pos}
/-! ### a test by truth -/
def tru (f : Mo D) : Mo Bool := bnd f fun x => lift (truD x)
theorem dt_truth (h : DB Φ X e f) (he : ∀ whole, isTrue e X.env whole = (do let v ← whole; standAt e.pos; holding [v] (truthy v)) := by intro _; rfl) : DT Φ X e (tru f) := PT.imp (pt_truth h he) fun σ H Q ⟨ρ, μ, C, os, R, z⟩ => by
  refine ⟨ρ, μ, C, os, R, ?_⟩
  unfold tru bnd at z
  cases e : f ρ μ with
  | no => rw [e] at z; exact z.elim
  | ex c ns ds ρ1 μ1 => rw [e] at z; exact z
  | ok d ρ1 μ1 =>
    rw [e] at z
    intro v H1 C1 os1 R1 S1 q
    cases e2 : truD d with
    | none => simp only [lift, e2] at z; exact z.elim
    | some k =>
      simp only [lift, e2] at z
      exact ⟨k, tru_of q e2, z H1 C1 os1 R1 S1⟩

/-! ### and, or, not -/
def andM (f g : Mo Bool) : Mo Bool := bnd f fun b => if b then g else ret false
def orM (f g : Mo Bool) : Mo Bool := bnd f fun b => if b then ret true else g
def notM (f : Mo Bool) : Mo Bool := bnd f fun b => ret (!b)
theorem PostT.bnd {C : List Addr} {os : Os} {σ : St} {H : Hp} {f : Mo Bool} {g : Bool → Mo Bool} {ρ : Env} {μ : Sto} {Q Q1 : Bool → Hp → Prop} (h : PostT Φ X C os σ H (DL.bnd f g ρ μ) Q)
    (k : ∀ d ρ1 μ1 H1 C1 os1, Rl Φ X ρ1 μ1 C1 os1 σ H1 → Stp (rc Φ X C os H) (rc Φ X C1 os1 H1) → PostT Φ X C1 os1 σ H1 (g d ρ1 μ1) Q → Q1 d H1) : PostT Φ X C os σ H (f ρ μ) Q1 := by
  unfold DL.bnd at h
  cases e : f ρ μ with
  | ok d ρ1 μ1 =>
    rw [e] at h
    exact fun H1 C1 os1 R S => k d ρ1 μ1 H1 C1 os1 R S (PostT.from S h)
  | ex c ns ds ρ1 μ1 => rw [e] at h; exact h
  | no => rw [e] at h; exact h
theorem retT {ρ : Env} {μ : Sto} {C : List Addr} {os : Os} {σ : St} {H : Hp} {b : Bool} {Q : Bool → Hp → Prop} (R : Rl Φ X ρ μ C os σ H) (p : PostT Φ X C os σ H (ret b ρ μ) Q) : Q b H := p H C os R (Stp.refl _)
theorem DW.dt (h : DW Φ X e ft) : DT Φ X e ft := PW.pt h
theorem dw_and1 (h : DT Φ X a ft) : DW Φ X (.BoolOp .And [a] pos) ft := pw_and1 h
theorem dw_or1 (h : DT Φ X a ft) : DW Φ X (.BoolOp .Or [a] pos) ft := pw_or1 h
theorem dw_and (ha : DT Φ X a ft) (hb : DW Φ X (.BoolOp .And (b :: rest) pos) gt) : DW Φ X (.BoolOp .And (a :: b :: rest) pos) (andM ft gt) := PW.imp (pw_and ha hb) fun σ H Q ⟨ρ, μ, C, os, R, z⟩ =>
  ⟨ρ, μ, C, os, R, PostT.bnd z fun d ρ1 μ1 H1 C1 os1 R1 S1 z1 => by
    cases d with
    | true => exact (if_pos rfl).mpr ⟨ρ1, μ1, C1, os1, R1, z1⟩
    | false => exact (if_neg Bool.false_ne_true).mpr (retT R1 z1)⟩
theorem dw_or (ha : DT Φ X a ft) (hb : DW Φ X (.BoolOp .Or (b :: rest) pos) gt) : DW Φ X (.BoolOp .Or (a :: b :: rest) pos) (orM ft gt) := PW.imp (pw_or ha hb) fun σ H Q ⟨ρ, μ, C, os, R, z⟩ =>
  ⟨ρ, μ, C, os, R, PostT.bnd z fun d ρ1 μ1 H1 C1 os1 R1 S1 z1 => by
    cases d with
    | true => exact (if_pos rfl).mpr (retT R1 z1)
    | false => exact (if_neg Bool.false_ne_true).mpr ⟨ρ1, μ1, C1, os1, R1, z1⟩⟩
theorem dt_not (h : DT Φ X a ft) : DT Φ X (.UnaryOp .Not a pos) (notM ft) := PT.imp (pt_not h) fun σ H Q ⟨ρ, μ, C, os, R, z⟩ =>
  ⟨ρ, μ, C, os, R, PostT.bnd z fun d ρ1 μ1 H1 C1 os1 R1 S1 z1 => retT R1 z1⟩
/-- as values; the left one True or False -/
def andV (f g : Mo D) : Mo D := bnd f fun x => bnd (lift (asBl x)) fun b => if b then g else ret (.bl false)
def orV (f g : Mo D) : Mo D := bnd f fun x => bnd (lift (asBl x)) fun b => if b then ret (.bl true) else g
def notV (f : Mo D) : Mo D := bnd f fun x => bnd (lift (asBl x)) fun b => ret (.bl (!b))
theorem asBl_bnd {ρ : Env} {μ : Sto} {C : List Addr} {os : Os} {σ : St} {H : Hp} {d : D} {v : V} {g : Bool → Mo D} {Q : VK} (q : Rep (rc Φ X C os H) v d) (z : PostE Φ X C os σ H (bnd (lift (asBl d)) g ρ μ) Q) :
    ∃ k, v = .bl k ∧ PostE Φ X C os σ H (g k ρ μ) Q := by
  cases d <;> first
    | (cases q; exact ⟨_, rfl, z⟩)
    | exact z.elim
theorem de_one {op} (h : DE Φ X a f) : DE Φ X (.BoolOp op [a] pos) f := pe_one h
theorem de_and (ha : DE Φ X a f) (hb : DE Φ X (.BoolOp .And (b :: rest) pos) g) : DE Φ X (.BoolOp .And (a :: b :: rest) pos) (andV f g) := PE.imp (pe_and ha hb) fun σ H Q ⟨ρ, μ, C, os, R, z⟩ =>
  ⟨ρ, μ, C, os, R, PostE.bnd z fun d ρ1 μ1 v H1 C1 os1 R1 S1 q1 z1 => by
    obtain ⟨k, rfl, z2⟩ := asBl_bnd q1 z1
    refine ⟨k, rfl, ?_⟩
    cases k with
    | true => exact (if_pos rfl).mpr ⟨ρ1, μ1, C1, os1, R1, z2⟩
    | false => exact (if_neg Bool.false_ne_true).mpr (cE_at R1 (.bl false) z2)⟩
theorem de_or (ha : DE Φ X a f) (hb : DE Φ X (.BoolOp .Or (b :: rest) pos) g) : DE Φ X (.BoolOp .Or (a :: b :: rest) pos) (orV f g) := PE.imp (pe_or ha hb) fun σ H Q ⟨ρ, μ, C, os, R, z⟩ =>
  ⟨ρ, μ, C, os, R, PostE.bnd z fun d ρ1 μ1 v H1 C1 os1 R1 S1 q1 z1 => by
    obtain ⟨k, rfl, z2⟩ := asBl_bnd q1 z1
    refine ⟨k, rfl, ?_⟩
    cases k with
    | true => exact (if_pos rfl).mpr (cE_at R1 (.bl true) z2)
    | false => exact (if_neg Bool.false_ne_true).mpr ⟨ρ1, μ1, C1, os1, R1, z2⟩⟩
theorem de_not (ha : DE Φ X a f) : DE Φ X (.UnaryOp .Not a pos) (notV f) := PE.imp (pe_not ha) fun σ H Q ⟨ρ, μ, C, os, R, z⟩ =>
  ⟨ρ, μ, C, os, R, PostE.bnd z fun d ρ1 μ1 v H1 C1 os1 R1 S1 q1 z1 => by
    obtain ⟨k, rfl, z2⟩ := asBl_bnd q1 z1
    exact ⟨k, rfl, cE_at R1 (.bl _) z2⟩⟩
def ifM (t : Mo Bool) (f g : Mo D) : Mo D := bnd t fun b => if b then f else g
theorem PostE.bndT {C : List Addr} {os : Os} {σ : St} {H : Hp} {f : Mo Bool} {g : Bool → Mo D} {ρ : Env} {μ : Sto} {Q : VK} {Q1 : Bool → Hp → Prop} (h : PostE Φ X C os σ H (DL.bnd f g ρ μ) Q)
    (k : ∀ d ρ1 μ1 H1 C1 os1, Rl Φ X ρ1 μ1 C1 os1 σ H1 → Stp (rc Φ X C os H) (rc Φ X C1 os1 H1) → PostE Φ X C1 os1 σ H1 (g d ρ1 μ1) Q → Q1 d H1) : PostT Φ X C os σ H (f ρ μ) Q1 := by
  unfold DL.bnd at h
  cases e : f ρ μ with
  | ok d ρ1 μ1 =>
    rw [e] at h
    exact fun H1 C1 os1 R S => k d ρ1 μ1 H1 C1 os1 R S (PostE.from S h)
  | ex c ns ds ρ1 μ1 => rw [e] at h; exact h
  | no => rw [e] at h; exact h
theorem de_if (ht : DT Φ X c ft) (ha : DE Φ X a f) (hb : DE Φ X b g) : DE Φ X (.IfExp c a b pos) (ifM ft f g) := PE.imp (pe_ifExp ht ha hb) fun σ H Q ⟨ρ, μ, C, os, R, z⟩ =>
  ⟨ρ, μ, C, os, R, PostE.bndT z fun d ρ1 μ1 H1 C1 os1 R1 S1 z1 => by
    cases d with
    | true => exact (if_pos rfl).mpr ⟨ρ1, μ1, C1, os1, R1, z1⟩
    | false => exact (if_neg Bool.false_ne_true).mpr ⟨ρ1, μ1, C1, os1, R1, z1⟩⟩
/-- a < b < c: by two operators that say True or False -/
def chn (h h' : D → D → Option D) (f g k : Mo D) : Mo D := bnd f fun x => bnd g fun y => bnd (lift (h x y)) fun z => bnd (lift (asBl z)) fun b => if b then bnd k fun w => lift (h' y w) else ret (.bl false)
theorem run_chn {r r' : R2} {h h' : D → D → Option D} (hD : OpD X r h) (hD' : OpD X r' h') {σ : St} {H : Hp} {Q : VK} (z : cE Φ X (chn h h' f g k) σ H Q) : tChain r r' (cE Φ X f) (cE Φ X g) (cE Φ X k) σ H Q := by
  obtain ⟨ρ, μ, C, os, R, z⟩ := z
  refine ⟨ρ, μ, C, os, R, PostE.bnd z fun d1 ρ1 μ1 x H1 C1 os1 R1 S1 q1 z1 => ⟨ρ1, μ1, C1, os1, R1, PostE.bnd z1 fun d2 ρ2 μ2 y H2 C2 os2 R2 S2 q2 z2 => ?_⟩⟩
  cases e : h d1 d2 with
  | none => simp only [bnd, lift, e] at z2; exact z2.elim
  | some d =>
    have z2 : PostE Φ X C2 os2 σ H2 (bnd (lift (asBl d)) (fun b => if b then bnd k fun w => lift (h' d2 w) else ret (.bl false)) ρ2 μ2) Q := by
      have z3 := z2
      simp only [bnd, lift, e] at z3
      exact z3
    refine hD (rc Φ X C2 os2 H2) x y d1 d2 d _ rfl rfl R2.fr (.inl (q1.step S2)) (.inl q2) e fun v H' gr qv => ?_
    have R3 := R2.grow gr
    have S3 := stp_grow (Φ := Φ) (X := X) (C := C2) (os := os2) gr
    obtain ⟨b, rfl, z4⟩ := asBl_bnd (Φ := Φ) (X := X) (C := C2) (os := os2) (H := H') qv (PostE.from S3 z2)
    refine ⟨b, rfl, ?_⟩
    cases b with
    | true =>
      refine (if_pos rfl).mpr ⟨ρ2, μ2, C2, os2, R3, PostE.bnd z4 fun d3 ρ3 μ3 w H3 C3 os3 R4 S4 q3 z5 => ?_⟩
      obtain ⟨d4, e4, k4⟩ := lift_ok R4 z5
      exact hD' (rc Φ X C3 os3 H3) y w d2 d3 d4 Q rfl rfl R4.fr (.inl ((q2.step S3).step S4)) (.inl q3) e4 k4
    | false => exact (if_neg Bool.false_ne_true).mpr (cE_at R3 (.bl false) z4)
theorem de_chn {op op' : CmpOp} {r r' : R2} {h h' : D → D → Option D} (ho : OpR X (compareOp op) r) (ho' : OpR X (compareOp op') r') (hD : OpD X r h) (hD' : OpD X r' h') (ha : DE Φ X a f) (hb : DE Φ X b g) (hc : DE Φ X c k)
    (hm : lastMarks [op, op'] [b, c] = false := by rfl) : DE Φ X (.Compare a [op, op'] [b, c] pos) (chn h h' f g k) := PE.imp (pe_chain ho ho' ha hb hc hm) fun _ _ _ z => run_chn hD hD' z
theorem dt_chn {op op' : CmpOp} {r r' : R2} {h h' : D → D → Option D} (ho : OpR X (compareOp op) r) (ho' : OpR X (compareOp op') r') (hD : OpD X r h) (hD' : OpD X r' h') (ha : DE Φ X a f) (hb : DE Φ X b g) (hc : DE Φ X c k)
    (hm : lastMarks [op, op'] [b, c] = false := by rfl) : DT Φ X (.Compare a [op, op'] [b, c] pos) (tst (chn h h' f g k)) := PT.imp (pt_chain ho ho' ha hb hc hm) fun _ _ _ z => run_chn hD hD' (cE_tst z)

/-! ### displays -/
theorem PostE.bndA {C : List Addr} {os : Os} {σ : St} {H : Hp} {f : Mo (List D)} {g : List D → Mo D} {ρ : Env} {μ : Sto} {Q : VK} {Q1 : List V → Hp → Prop} (h : PostE Φ X C os σ H (DL.bnd f g ρ μ) Q)
    (k : ∀ d ρ1 μ1 v H1 C1 os1, Rl Φ X ρ1 μ1 C1 os1 σ H1 → Stp (rc Φ X C os H) (rc Φ X C1 os1 H1) → Reps (rc Φ X C1 os1 H1) v d → PostE Φ X C1 os1 σ H1 (g d ρ1 μ1) Q → Q1 v H1) : PostA Φ X C os σ H (f ρ μ) Q1 := by
  unfold DL.bnd at h
  cases e : f ρ μ with
  | ok d ρ1 μ1 =>
    rw [e] at h
    exact fun v H1 C1 os1 R S q => k d ρ1 μ1 v H1 C1 os1 R S q (PostE.from S h)
  | ex c ns ds ρ1 μ1 => rw [e] at h; exact h
  | no => rw [e] at h; exact h
def mkT (ds : List D) : Option D := if ds.length ≤ lineN then some (.tup ds) else none
def mkL (ds : List D) : Option D := if ds.length ≤ lineN then some (.lst ds) else none
def tupM (f : Mo (List D)) : Mo D := bnd f fun ds => lift (mkT ds)
def lstM (f : Mo (List D)) : Mo D := bnd f fun ds => lift (mkL ds)
variable {fa : Mo (List D)} {es : List Expr}
theorem de_tup {n} (h : DA Φ X es fa) : DE Φ X (.Tuple es n pos) (tupM fa) := PE.imp (pe_tupX h) fun σ H Q ⟨ρ, μ, C, os, R, z⟩ =>
  ⟨ρ, μ, C, os, R, PostE.bndA z fun ds ρ1 μ1 vs H1 C1 os1 R1 S1 q1 z1 => by
    obtain ⟨d, e, k⟩ := lift_ok R1 z1
    unfold mkT at e
    split at e
    · rename_i hl
      cases e
      exact ⟨by rw [q1.length, line_eq]; exact hl, newT (q := rc Φ X C1 os1 H1) R1.fr q1 k⟩
    · cases e⟩
theorem de_lst (h : DA Φ X es fa) : DE Φ X (.List es pos) (lstM fa) := PE.imp (pe_lst h) fun σ H Q ⟨ρ, μ, C, os, R, z⟩ =>
  ⟨ρ, μ, C, os, R, PostE.bndA z fun ds ρ1 μ1 vs H1 C1 os1 R1 S1 q1 z1 => by
    obtain ⟨d, e, k⟩ := lift_ok R1 z1
    unfold mkL at e
    split at e
    · rename_i hl
      cases e
      exact ⟨by rw [q1.length, line_eq]; exact hl, fun p n => k _ _ (Grow.upd n) (OwnR.rep (r := (rc Φ X C1 os1 H1).at _) (R1.fresh n) (own_lst (q := rc Φ X C1 os1 H1) n q1))⟩
    · cases e⟩

/-! ### slices -/
abbrev OI := Option Int
def PostO (Φ : Ctx) (X : Cx) (C : List Addr) (os : Os) (σ : St) (H : Hp) (o : O OI) (Q : OI → Hp → Prop) : Prop := match o with
  | .ok d ρ' μ' => ∀ H' C' os', Rl Φ X ρ' μ' C' os' σ H' → Stp (rc Φ X C os H) (rc Φ X C' os' H') → Q d H'
  | .ex c ns ds ρ' μ' => ∀ Cc dx H' C' os', Rl Φ X ρ' μ' C' os' σ H' → Stp (rc Φ X C os H) (rc Φ X C' os' H') → X.mg c = some (.ref Cc) → EhR (rc Φ X C' os' H') dx c ns ds → Φ.W (.ref Cc) (some dx) σ H'
  | .no => False
def cO (Φ : Ctx) (X : Cx) (f : Mo OI) : TO := fun σ H Q => ∃ ρ μ C os, Rl Φ X ρ μ C os σ H ∧ PostO Φ X C os σ H (f ρ μ) Q
def DO (Φ : Ctx) (X : Cx) (e : Option Expr) (f : Mo OI) : Prop := PO X e (cO Φ X f)
theorem PO.imp {e : Option Expr} {t t' : TO} (h : PO X e t) (i : ∀ σ H Q, t' σ H Q → t σ H Q) : PO X e t' := ⟨fun pins s σ H Q I q => h.run pins s σ H Q I (i σ H Q q)⟩
def asI : D → Option OI
  | .int i => some (some i)
  | _ => none
def noP : Mo OI := ret none
def prt (f : Mo D) : Mo OI := bnd f fun x => lift (asI x)
theorem do_none : DO Φ X none noP := PO.imp po_none fun σ H Q ⟨ρ, μ, C, os, R, z⟩ => z H C os R (Stp.refl _)
theorem do_some (h : DE Φ X e f) : DO Φ X (some e) (prt f) := PO.imp (po_some h) fun σ H Q ⟨ρ, μ, C, os, R, z⟩ => by
  refine ⟨ρ, μ, C, os, R, ?_⟩
  unfold prt bnd at z
  cases e : f ρ μ with
  | no => rw [e] at z; exact z.elim
  | ex c ns ds ρ1 μ1 => rw [e] at z; exact z
  | ok d ρ1 μ1 =>
    rw [e] at z
    intro v H1 C1 os1 R1 S1 q
    cases d <;> first
      | (cases q; exact ⟨_, rfl, z H1 C1 os1 R1 S1⟩)
      | exact z.elim
theorem PostE.bndO {C : List Addr} {os : Os} {σ : St} {H : Hp} {f : Mo OI} {g : OI → Mo D} {ρ : Env} {μ : Sto} {Q : VK} {Q1 : OI → Hp → Prop} (h : PostE Φ X C os σ H (DL.bnd f g ρ μ) Q)
    (k : ∀ d ρ1 μ1 H1 C1 os1, Rl Φ X ρ1 μ1 C1 os1 σ H1 → Stp (rc Φ X C os H) (rc Φ X C1 os1 H1) → PostE Φ X C1 os1 σ H1 (g d ρ1 μ1) Q → Q1 d H1) : PostO Φ X C os σ H (f ρ μ) Q1 := by
  unfold DL.bnd at h
  cases e : f ρ μ with
  | ok d ρ1 μ1 =>
    rw [e] at h
    exact fun H1 C1 os1 R S => k d ρ1 μ1 H1 C1 os1 R S (PostE.from S h)
  | ex c ns ds ρ1 μ1 => rw [e] at h; exact h
  | no => rw [e] at h; exact h
def cutD (xs : List D) (lo hi : OI) : List D := (xs.drop (HT.sIx xs.length 0 lo)).take (HT.sIx xs.length xs.length hi - HT.sIx xs.length 0 lo)
def slD (d : D) (lo hi : OI) : Option D := match d with
  | .str z => if z.length ≤ lineN then some (.str (cutS z lo hi)) else none
  | .tup xs => some (.tup (cutD xs lo hi))
  | .lst xs => some (.lst (cutD xs lo hi))
  | .frz xs => some (.lst (cutD xs lo hi))
  | _ => none
theorem Reps.cut {r : RC} {vs : List V} {ds : List D} (h : Reps r vs ds) (lo hi : OI) : Reps r (cutV vs lo hi) (cutD ds lo hi) := by
  unfold cutV cutD
  rw [h.length]
  exact Reps.take _ (Reps.drop _ h)
theorem cut_whole {α : Type} (xs : List α) {lo hi : OI} (h : HT.sIx xs.length 0 lo = 0 ∧ HT.sIx xs.length xs.length hi = xs.length) : (xs.drop (HT.sIx xs.length 0 lo)).take (HT.sIx xs.length xs.length hi - HT.sIx xs.length 0 lo) = xs := by
  rw [h.1, h.2]
  simp
def slR (K : PySem.W.Frag) : V → Option Int → Option Int → Hp → VK → Prop := fun x lo hi H Q => rSlL K x lo hi H Q ∨ (rSlX K x lo hi H Q ∨ rSlS x lo hi H Q)
theorem sl_all : SlR X (slR X.K) := sl_list.or (sl_tupX.or sl_str)
def slM (f : Mo D) (l h : Mo OI) : Mo D := bnd f fun x => bnd l fun lo => bnd h fun hi => lift (slD x lo hi)
variable {lo hi : Option Expr} {fl fh : Mo OI}
theorem sl_run {q : RC} {v : V} {d d' : D} {l h : OI} {Q : VK} (hK : q.K = X.K) (hn : ∀ p, q.H p = none → ¬ q.A p) (w : Rep q v d) (e : slD d l h = some d') (k : ∀ v H', Grow q.H H' → Rep (q.at H') v d' → Q v H') : slR X.K v l h q.H Q := by
  cases w with
  | str s =>
    simp only [slD] at e
    split at e
    · rename_i hl
      cases e
      exact .inr (.inr ⟨_, rfl, by rw [line_eq]; exact hl, k _ _ (Grow.refl _) (.str _)⟩)
    · cases e
  | tup hT qs =>
    cases e
    refine .inr (.inl ⟨_, _, rfl, hK ▸ hT.sq, fun z => ?_, fun z => newT hn (qs.cut l h) k⟩)
    have e1 : cutD _ l h = _ := cut_whole _ (by rw [← qs.length]; exact z)
    rw [e1] at k
    exact k _ _ (Grow.refl _) (.tup hT qs)
  | @lst a vs ds ha n qs =>
    cases e
    exact .inl ⟨_, _, rfl, .of ha, fun p n => k _ _ (Grow.upd n) (OwnR.rep (r := q.at (upd q.H p (HO.lst (cutV vs l h)))) (hn p n) (own_lst n (qs.cut l h)))⟩
  | @frz a vs ds ha qs =>
    cases e
    exact .inl ⟨_, _, rfl, hK ▸ ha.sq, fun p n => k _ _ (Grow.upd n) (OwnR.rep (r := q.at (upd q.H p (HO.lst (cutV vs l h)))) (hn p n) (own_lst n (qs.cut l h)))⟩
  | _ => cases e
theorem de_sl {p2} (he : DE Φ X e f) (hl : DO Φ X lo fl) (hh : DO Φ X hi fh) : DE Φ X (.Subscript e (.Slice lo hi none p2) pos) (slM f fl fh) := PE.imp (pe_slice sl_all he hl hh) fun σ H Q ⟨ρ, μ, C, os, R, z⟩ =>
  ⟨ρ, μ, C, os, R, PostE.bnd z fun d ρ1 μ1 v H1 C1 os1 R1 S1 q1 z1 => ⟨ρ1, μ1, C1, os1, R1, PostE.bndO z1 fun l ρ2 μ2 H2 C2 os2 R2 S2 z2 => ⟨ρ2, μ2, C2, os2, R2, PostE.bndO z2 fun h ρ3 μ3 H3 C3 os3 R3 S3 z3 => by
    obtain ⟨d', e, k⟩ := lift_ok R3 z3
    exact sl_run (q := rc Φ X C3 os3 H3) rfl R3.fr ((q1.step S2).step S3) e k⟩⟩⟩

/-! ### an item by its place -/
def ixL (xs : List D) (i : Int) : Option D := atI xs i
def ixD : D → D → Option D
  | .lst xs, .int i | .tup xs, .int i | .frz xs, .int i => atI xs i
  | .str z, .int i => if z.length ≤ lineN then (atI z.cps.toList i).map fun c => .str ⟨#[c]⟩ else none
  | _, _ => none
theorem Reps.atI {r : RC} {vs : List V} {ds : List D} {i : Int} {d : D} (h : Reps r vs ds) (e : L2.atI ds i = some d) : ∃ v, L2.atI vs i = some v ∧ Rep r v d := by
  unfold L2.atI at e ⊢
  rw [h.length]
  cases q : ixN ds.length i with
  | none => rw [q] at e; cases e
  | some j =>
    rw [q] at e
    exact h.get e
theorem od_ix : OpD X (rIx X.K) ixD := by
  intro q x y d1 d2 d Q hK _ _ h1 h2 e k
  cases d2 with
  | int i =>
    have ey := h2.int
    cases d1 with
    | lst ds =>
      obtain ⟨a, vs, rfl, ha, qa⟩ := h1.lst
      obtain ⟨v, e1, e2⟩ := qa.atI e
      exact .inl ⟨a, vs, i, v, rfl, ey, .of ha, e1, k _ _ (Grow.refl _) e2⟩
    | frz ds =>
      obtain ⟨a, vs, rfl, ha, qa⟩ := h1.frz
      obtain ⟨v, e1, e2⟩ := qa.atI e
      exact .inl ⟨a, vs, i, v, rfl, ey, hK ▸ ha.sq, e1, k _ _ (Grow.refl _) e2⟩
    | tup ds =>
      obtain ⟨a, vs, rfl, ha, qa⟩ := h1.tup
      obtain ⟨v, e1, e2⟩ := qa.atI e
      exact .inr (.inl ⟨a, vs, i, v, rfl, ey, hK ▸ ha.sq, e1, k _ _ (Grow.refl _) e2⟩)
    | str z =>
      simp only [ixD] at e
      split at e
      · rename_i hl
        obtain ⟨c, e1, rfl⟩ := Option.map_eq_some_iff.mp e
        exact .inr (.inr ⟨z, i, c, h1.str, ey, by rw [line_eq]; exact hl, e1, k _ _ (Grow.refl _) (.str _)⟩)
      · cases e
    | _ => cases e
  | _ => cases d1 <;> cases e
theorem de_at (ha : DE Φ X a f) (hb : DE Φ X b g) (hs : PlainIx b := by intro _ _; rfl) : DE Φ X (.Subscript a b pos) (op2 ixD f g) := de_ix ix_seq od_ix ha hb hs
theorem de_atv {i : Nat} {x : Str} {px : Pos} (hb : DE Φ X b g) (hs : PlainIx b := by intro _ _; rfl) (hN : X.N[i]? = some x := by rfl)
    (hv : Vis X.env.scope x := by first | exact Or.inl rfl | exact Or.inr (Or.inl rfl) | exact Or.inr (Or.inr rfl)) (hd : (x == ("__debug__" : Str)) = false := by decide) (hcd : (x == ("__classdict__" : Str)) = false := by decide) :
    DE Φ X (.Subscript (.Name x px) b pos) (op2v ixD i g) := de_ixv ix_seq od_ix hb hs hN hv hd hcd
end
end L2.DL

/-! DL6: statements, targets, owned things changed, for, while. -/
namespace L2.DL
open PySem PySem.Spec PyProof.Rows
inductive Fl where
  | nx | bk | ct | rt (d : D) | ro (d : D)
/-- what a rule wants of the body it stands in -/
structure Cn (Φ : Ctx) (X : Cx) (k : Nat) : Prop where
  nd : X.N.Nodup
  calm : X.calm = true
  po : PassesOwn (model X.prog X.w) X.A X.env X.xe
  tk : Takes X Φ.W
  rm : Room k X.A
theorem Cn.hu {Φ : Ctx} {X : Cx} {k : Nat} (c : Cn Φ X k) : hasUnits X := c.rm.units
section
variable {Φ : Ctx} {X : Cx} {a b c e : Expr} {f g k : Mo D} {pos : Pos}
def Fl.post (Φ : Ctx) (X : Cx) (D : Ends) (σ : St) (H : Hp) (C : List Addr) (os : Os) : Fl → Prop
  | .nx => D.nx σ H
  | .bk => D.bk σ H
  | .ct => D.ct σ H
  | .rt d => ∀ v, Rep (rc Φ X C os H) v d → D.rt v H
  | .ro d => ∀ a i, (i, a) ∈ os → OwnR (rc Φ X C os H) a d → D.rt (.ref a) H
def PostS (Φ : Ctx) (X : Cx) (C : List Addr) (os : Os) (H : Hp) (o : O Fl) (D : Ends) : Prop := match o with
  | .ok fl ρ' μ' => ∀ σ' H' C' os', Rl Φ X ρ' μ' C' os' σ' H' → Stp (rc Φ X C os H) (rc Φ X C' os' H') → fl.post Φ X D σ' H' C' os'
  | .ex c ns ds ρ' μ' => ∀ Cc dx σ' H' C' os', Rl Φ X ρ' μ' C' os' σ' H' → Stp (rc Φ X C os H) (rc Φ X C' os' H') → X.mg c = some (.ref Cc) → EhR (rc Φ X C' os' H') dx c ns ds → Φ.W (.ref Cc) (some dx) σ' H'
  | .no => False
def cS (Φ : Ctx) (X : Cx) (f : Mo Fl) : TS := fun D σ H => ∃ ρ μ C os, Rl Φ X ρ μ C os σ H ∧ PostS Φ X C os H (f ρ μ) D
def DS (Φ : Ctx) (X : Cx) (st : Stmt) (f : Mo Fl) : Prop := PS X st (cS Φ X f)
def DSs (Φ : Ctx) (X : Cx) (sts : List Stmt) (f : Mo Fl) : Prop := PSs X sts (cS Φ X f)
theorem PS.imp {st : Stmt} {t t' : TS} (h : PS X st t) (i : ∀ D σ H, t' D σ H → t D σ H) : PS X st t' := ⟨fun pins s σ H D I q => h.run pins s σ H D I (i D σ H q)⟩
theorem PSs.imp {st : List Stmt} {t t' : TS} (h : PSs X st t) (i : ∀ D σ H, t' D σ H → t D σ H) : PSs X st t' := ⟨fun pins s σ H D I q => h.run pins s σ H D I (i D σ H q)⟩
theorem PostS.from {C C1 : List Addr} {os os1 : Os} {H H1 : Hp} {o : O Fl} {D : Ends} (S : Stp (rc Φ X C os H) (rc Φ X C1 os1 H1)) (h : PostS Φ X C os H o D) : PostS Φ X C1 os1 H1 o D := by
  cases o with
  | ok d ρ' μ' => exact fun σ' H' C' os' R T => h σ' H' C' os' R (S.trans T)
  | ex c ns ds ρ' μ' => exact fun Cc dx σ' H' C' os' R T g e => h Cc dx σ' H' C' os' R (S.trans T) g e
  | no => exact h
/-- an expression, then the rest of the statement -/
theorem PostS.bndE {C : List Addr} {os : Os} {σ : St} {H : Hp} {f : Mo D} {g : D → Mo Fl} {ρ : Env} {μ : Sto} {E : Ends} {Q1 : VK} (h : PostS Φ X C os H (bnd f g ρ μ) E)
    (k : ∀ d ρ1 μ1 v H1 C1 os1, Rl Φ X ρ1 μ1 C1 os1 σ H1 → Stp (rc Φ X C os H) (rc Φ X C1 os1 H1) → Rep (rc Φ X C1 os1 H1) v d → PostS Φ X C1 os1 H1 (g d ρ1 μ1) E → Q1 v H1) : PostE Φ X C os σ H (f ρ μ) Q1 := by
  unfold bnd at h
  cases e : f ρ μ with
  | ok d ρ1 μ1 =>
    rw [e] at h
    exact fun v H1 C1 os1 R S q => k d ρ1 μ1 v H1 C1 os1 R S q (PostS.from S h)
  | ex c ns ds ρ1 μ1 => rw [e] at h; exact fun Cc dx H' C' os' R S g e => h Cc dx σ H' C' os' R S g e
  | no => rw [e] at h; exact h
theorem PostS.bndT {C : List Addr} {os : Os} {σ : St} {H : Hp} {f : Mo Bool} {g : Bool → Mo Fl} {ρ : Env} {μ : Sto} {E : Ends} {Q1 : Bool → Hp → Prop} (h : PostS Φ X C os H (bnd f g ρ μ) E)
    (k : ∀ d ρ1 μ1 H1 C1 os1, Rl Φ X ρ1 μ1 C1 os1 σ H1 → Stp (rc Φ X C os H) (rc Φ X C1 os1 H1) → PostS Φ X C1 os1 H1 (g d ρ1 μ1) E → Q1 d H1) : PostT Φ X C os σ H (f ρ μ) Q1 := by
  unfold bnd at h
  cases e : f ρ μ with
  | ok d ρ1 μ1 =>
    rw [e] at h
    exact fun H1 C1 os1 R S => k d ρ1 μ1 H1 C1 os1 R S (PostS.from S h)
  | ex c ns ds ρ1 μ1 => rw [e] at h; exact fun Cc dx H' C' os' R S g e => h Cc dx σ H' C' os' R S g e
  | no => rw [e] at h; exact h

/-! ### blocks -/
def skp : Mo Fl := ret .nx
def seqM (f g : Mo Fl) : Mo Fl := bnd f fun fl => match fl with
  | .nx => g
  | o => ret o
variable {st : Stmt} {sts : List Stmt} {fs gs : Mo Fl} {ft : Mo Bool}
theorem retS {C : List Addr} {os : Os} {σ : St} {H : Hp} {fl : Fl} {ρ : Env} {μ : Sto} {E : Ends} (R : Rl Φ X ρ μ C os σ H) (h : PostS Φ X C os H (ret fl ρ μ) E) : fl.post Φ X E σ H C os := h σ H C os R (Stp.refl _)
theorem dss_nil : DSs Φ X [] skp := PSs.imp pss_nil fun D σ H ⟨ρ, μ, C, os, R, z⟩ => retS R z
theorem dss_cons (h1 : DS Φ X st fs) (h2 : DSs Φ X sts gs) : DSs Φ X (st :: sts) (seqM fs gs) := PSs.imp (pss_cons h1 h2) fun D σ H ⟨ρ, μ, C, os, R, z⟩ => by
  refine ⟨ρ, μ, C, os, R, ?_⟩
  unfold seqM bnd at z
  cases e : fs ρ μ with
  | no => rw [e] at z; exact z
  | ex c ns ds ρ1 μ1 => rw [e] at z; exact z
  | ok fl ρ1 μ1 =>
    rw [e] at z
    intro σ1 H1 C1 os1 R1 S1
    cases fl with
    | nx => exact ⟨ρ1, μ1, C1, os1, R1, PostS.from S1 z⟩
    | bk => exact z σ1 H1 C1 os1 R1 S1
    | ct => exact z σ1 H1 C1 os1 R1 S1
    | rt d => exact z σ1 H1 C1 os1 R1 S1
    | ro d => exact z σ1 H1 C1 os1 R1 S1
theorem dss_one (h1 : DS Φ X st fs) : DSs Φ X [st] fs := pss_one h1
theorem ds_pass : DS Φ X (.Pass pos) (ret .nx) := PS.imp ps_pass fun D σ H ⟨ρ, μ, C, os, R, z⟩ => retS R z
theorem ds_break : DS Φ X (.Break pos) (ret .bk) := PS.imp ps_break fun D σ H ⟨ρ, μ, C, os, R, z⟩ => retS R z
theorem ds_cont : DS Φ X (.Continue pos) (ret .ct) := PS.imp ps_continue fun D σ H ⟨ρ, μ, C, os, R, z⟩ => retS R z
def rtM (f : Mo D) : Mo Fl := bnd f fun d => ret (.rt d)
theorem ds_ret (h : DE Φ X e f) : DS Φ X (.Return (some e) pos) (rtM f) := PS.imp (ps_ret h) fun D σ H ⟨ρ, μ, C, os, R, z⟩ =>
  ⟨ρ, μ, C, os, R, PostS.bndE z fun d ρ1 μ1 v H1 C1 os1 R1 S1 q1 z1 => retS R1 z1 v q1⟩
theorem ds_retN : DS Φ X (.Return none pos) (ret (.rt .non)) := PS.imp ps_retN fun D σ H ⟨ρ, μ, C, os, R, z⟩ => retS R z .non .non
def drp (f : Mo D) : Mo Fl := bnd f fun _ => ret .nx
theorem ds_expr (h : DE Φ X e f) (hs : swapsWith e none pos.line X.env = pure false := by rfl) : DS Φ X (.Expr e pos) (drp f) := PS.imp (ps_expr h hs) fun D σ H ⟨ρ, μ, C, os, R, z⟩ =>
  ⟨ρ, μ, C, os, R, PostS.bndE z fun d ρ1 μ1 v H1 C1 os1 R1 S1 q1 z1 => retS R1 z1⟩
def ifS (t : Mo Bool) (f g : Mo Fl) : Mo Fl := bnd t fun b => if b then f else g
theorem ds_if {A B : List Stmt} (ht : DT Φ X c ft) (ha : DSs Φ X A fs) (hb : DSs Φ X B gs) : DS Φ X (.If c A B pos) (ifS ft fs gs) := PS.imp (ps_if ht ha hb) fun D σ H ⟨ρ, μ, C, os, R, z⟩ =>
  ⟨ρ, μ, C, os, R, PostS.bndT z fun d ρ1 μ1 H1 C1 os1 R1 S1 z1 => by
    cases d with
    | true => exact (if_pos rfl).mpr ⟨ρ1, μ1, C1, os1, R1, z1⟩
    | false => exact (if_neg Bool.false_ne_true).mpr ⟨ρ1, μ1, C1, os1, R1, z1⟩⟩

/-! ### names stored -/
def put (i : Nat) (t : Ent) : Mo Fl := fun ρ μ => .ok .nx (ρ.set i (some t)) μ
theorem Rl.setv {ρ : Env} {μ : Sto} {C : List Addr} {os : Os} {σ : St} {H : Hp} {i : Nat} {v : V} {t : Ent} (R : Rl Φ X ρ μ C os σ H) (h : EntR Φ (rc Φ X C os H) os i v t) : Rl Φ X (ρ.set i (some t)) μ C os (σ.set i (some v)) H where
  len := by rw [List.length_set, List.length_set]; exact R.len
  env := fun j t' q => by
    by_cases hj : i = j
    · subst hj
      have hl : i < ρ.length := by
        have := (List.getElem?_eq_some_iff.mp q).1
        rwa [List.length_set] at this
      rw [List.getElem?_set_self hl] at q
      cases q
      exact ⟨v, List.getElem?_set_self (R.len ▸ hl), h⟩
    · rw [List.getElem?_set_ne hj] at q
      obtain ⟨v', h1, h2⟩ := R.env j t' q
      exact ⟨v', by rw [List.getElem?_set_ne hj]; exact h1, h2⟩
  sto := R.sto
  own := R.own
  fre := R.fre
  pre := R.pre
  cfr := R.cfr
  cnd := R.cnd
  clv := R.clv
  frm := R.frm
  alv := R.alv
def setM (i : Nat) (f : Mo D) : Mo Fl := bnd f fun d => put i (.sh d)
theorem ds_set {i : Nat} {x : Str} {pos' : Pos} (hN : X.N.Nodup) (he : DE Φ X e f) (hi : X.N[i]? = some x := by rfl) (hx : Loc X.env.scope x := by first | exact Or.inl rfl | exact Or.inr rfl)
    (hs : swapsWith e (some (.Name x pos')) pos.line X.env = pure false := by rfl) (hf : X.fn x = true ∨ X.env.scope.names.lookup x = some .local := by first | exact .inl rfl | exact .inr rfl) :
    DS Φ X (.Assign [.Name x pos'] e pos) (setM i f) := PS.imp (ps_set hN hi hx he hs hf) fun D σ H ⟨ρ, μ, C, os, R, z⟩ =>
  ⟨ρ, μ, C, os, R, PostS.bndE z fun d ρ1 μ1 v H1 C1 os1 R1 S1 q1 z1 => z1 _ _ C1 os1 (R1.setv (t := .sh d) q1) (Stp.refl _)⟩

/-! ### a new thing that only a name holds -/
def PostF (Φ : Ctx) (X : Cx) (i : Nat) (C : List Addr) (os : Os) (σ : St) (H : Hp) (o : O D) (Q : VK) : Prop := match o with
  | .ok d ρ' μ' => ∀ a H' C' os', Rl Φ X ρ' μ' C' ((some i, a) :: os') σ H' → Stp (rc Φ X C os H) (rc Φ X C' ((some i, a) :: os') H') → OwnR (rc Φ X C' ((some i, a) :: os') H') a d → Q (.ref a) H'
  | .ex c ns ds ρ' μ' => ∀ Cc dx H' C' os', Rl Φ X ρ' μ' C' os' σ H' → Stp (rc Φ X C os H) (rc Φ X C' os' H') → X.mg c = some (.ref Cc) → EhR (rc Φ X C' os' H') dx c ns ds → Φ.W (.ref Cc) (some dx) σ H'
  | .no => False
def cF (Φ : Ctx) (X : Cx) (i : Nat) (f : Mo D) : TE := fun σ H Q => ∃ ρ μ C os, Rl Φ X ρ μ C os σ H ∧ PostF Φ X i C os σ H (f ρ μ) Q
def DF (Φ : Ctx) (X : Cx) (i : Nat) (e : Expr) (f : Mo D) : Prop := PE X e (cF Φ X i f)
theorem OwnR.stepH {r r' : RC} (S : Stp r r') {a : Addr} (h : ∀ o, r.H a = some o → r'.H a = some o) : ∀ {d : D}, OwnR r a d → OwnR r' a d
  | .lst _, ⟨vs, z, q⟩ => ⟨vs, h _ z, q.step S⟩
  | .dct _ _, ⟨kvs, z, e, q⟩ => ⟨kvs, h _ z, e, q.step S⟩
  | .non, h => h.elim | .bl _, h => h.elim | .int _, h => h.elim | .str _, h => h.elim | .tup _, h => h.elim | .frz _, h => h.elim | .ins _ _ _, h => h.elim | .cell _, h => h.elim
theorem BdR.stepB {r r' : RC} (S : Stp r r') {a : Addr} {c : Str} {ns : List Str} {ds : List D} (h : ∀ o, r.H a = some o → r'.H a = some o) : BdR r a c ns ds → BdR r' a c ns ds := fun ⟨Cc, dx, fs, z, m, e, q⟩ =>
  ⟨Cc, dx, fs, h _ z, by rw [S.g]; exact m, e, q.step S⟩
theorem CellR.stepH {r r' : RC} (S : Stp r r') {a : Addr} (h : ∀ o, r.H a = some o → r'.H a = some o) : ∀ {c : Cell}, CellR r a c → CellR r' a c
  | .lst _, ⟨vs, z, q⟩ => ⟨vs, h _ z, q.step S⟩
  | .dct _ _, ⟨kvs, z, e, q⟩ => ⟨kvs, h _ z, e, q.step S⟩
  | .ins _ _ _, q => BdR.stepB S h q
/-- to a state in which only the objects of M are others: M owned or cells -/
theorem Rl.move {ρ : Env} {μ : Sto} {C : List Addr} {os os' : Os} {σ : St} {H H' : Hp} (R : Rl Φ X ρ μ C os σ H) (S : Stp (rc Φ X C os H) (rc Φ X C os' H')) (M : Addr → Prop)
    (same : ∀ b o, ¬ M b → H b = some o → H' b = some o)
    (he : ∀ (j : Nat) t v, ρ[j]? = some (some t) → σ[j]? = some (some v) → EntR Φ (rc Φ X C os H) os j v t → EntR Φ (rc Φ X C os' H') os' j v t)
    (hc : ∀ (n : Nat) a c, C[n]? = some a → μ[n]? = some c → CellR (rc Φ X C os H) a c → CellR (rc Φ X C os' H') a c)
    (own : ∀ i j a, (i, a) ∈ os' → (j, a) ∈ os' → i = j) (fre : ∀ i a, (i, a) ∈ os' → (Φ.H0 a = none ∨ Φ.M0 a) ∧ a ∉ C ∧ ¬ Φ.A0 a ∧ ∃ o, H' a = some o)
    (hM : ∀ b, M b → b ∉ C → Φ.H0 b = none ∨ Φ.M0 b) (live : ∀ b o, H b = some o → ∃ o', H' b = some o') : Rl Φ X ρ μ C os' σ H' where
  len := R.len
  env := fun j t q => by
    obtain ⟨v, h1, h2⟩ := R.env j t q
    exact ⟨v, h1, he j t v q h1 h2⟩
  sto := ⟨R.sto.1, fun n a c h1 h2 => hc n a c h1 h2 (R.sto.2 n a c h1 h2)⟩
  own := own
  fre := fre
  pre := R.pre
  cfr := R.cfr
  cnd := R.cnd
  clv := fun b h => let ⟨o, e⟩ := R.clv b h; live b o e
  frm := fun b o h1 h2 h3 => by
    by_cases hb : M b
    · rcases hM b hb h2 with z | z
      · rw [h1] at z; cases z
      · exact (h3 z).elim
    · exact same b o hb (R.frm b o h1 h2 h3)
  alv := fun b h => let ⟨o, e⟩ := R.alv b h; live b o e
theorem stp_add {C : List Addr} {os : Os} {H : Hp} {p : Addr} {o : HO} {i : Option Nat} (n : H p = none) : Stp (rc Φ X C os H) (rc Φ X C ((i, p) :: os) (upd H p o)) := ⟨rfl, rfl, fun b z => by
    rcases z with z | z | ⟨j, z⟩
    · exact .inl (.inl z)
    · exact .inl (.inr (.inl z))
    · rcases List.mem_cons.mp z with e | z
      · cases e; exact .inr n
      · exact .inl (.inr (.inr ⟨j, z⟩)), ⟨[], by simp [rcK]⟩, fun b u h _ => Grow.upd n b u h, fun b u h => ⟨u, Grow.upd n b u h⟩, fun b z => List.mem_cons_of_mem _ z, fun b u h _ => Grow.upd n b u h⟩
/-- a new object for slot i -/
theorem Rl.add {ρ : Env} {μ : Sto} {C : List Addr} {os : Os} {σ : St} {H : Hp} {p : Addr} {o : HO} (i : Option Nat) (R : Rl Φ X ρ μ C os σ H) (n : H p = none) : Rl Φ X ρ μ C ((i, p) :: os) σ (upd H p o) := by
  have S : Stp (rc Φ X C os H) (rc Φ X C ((i, p) :: os) (upd H p o)) := stp_add n
  have np : ∀ j, (j, p) ∉ os := fun j z => by
    obtain ⟨_, _, _, u, e⟩ := R.fre j p z
    rw [n] at e; cases e
  refine R.move S (fun _ => False) (fun b u _ h => Grow.upd n b u h) (fun j t v q h1 h2 => ?_) (fun m b c h1 h2 h3 => h3.stepH S (Grow.upd n b)) (fun j k b z1 z2 => ?_) (fun j b z => ?_) (fun _ h => h.elim) fun b u h => ⟨u, Grow.upd n b u h⟩
  · cases t with
    | sh d => exact Rep.step S h2
    | ow d =>
      obtain ⟨b, e1, e2, e3⟩ := h2
      exact ⟨b, e1, List.mem_cons_of_mem _ e2, e3.stepH S (Grow.upd n b)⟩
    | bd c ns ds =>
      obtain ⟨b, e1, e2, e3⟩ := h2
      exact ⟨b, e1, List.mem_cons_of_mem _ e2, BdR.stepB S (Grow.upd n b) e3⟩
    | eh c ns ds =>
      obtain ⟨b, dx, e1, e2, e3⟩ := h2
      exact ⟨b, dx, e1, e2, e3.step S⟩
  · rcases List.mem_cons.mp z1 with e1 | z1 <;> rcases List.mem_cons.mp z2 with e2 | z2
    · cases e1; cases e2; rfl
    · cases e1; exact (np _ z2).elim
    · cases e2; exact (np _ z1).elim
    · exact R.own j k b z1 z2
  · rcases List.mem_cons.mp z with e | z
    · cases e
      refine ⟨?_, fun hC => ?_, fun hA => ?_, ⟨o, upd_same⟩⟩
      · cases h0 : Φ.H0 p with
        | none => exact .inl rfl
        | some u =>
          refine .inr (Classical.byContradiction fun hm => ?_)
          have hC : p ∉ C := fun hC => by
            obtain ⟨u', e'⟩ := R.clv p hC
            rw [n] at e'; cases e'
          rw [R.frm p u h0 hC hm] at n
          cases n
      · obtain ⟨u', e'⟩ := R.clv p hC
        rw [n] at e'; cases e'
      · obtain ⟨u', e'⟩ := R.alv p (.inl hA)
        rw [n] at e'; cases e'
    · obtain ⟨h1, h2, h3, u, h4⟩ := R.fre j b z
      exact ⟨h1, h2, h3, u, Grow.upd n b u h4⟩
theorem PostF.bndA {i : Nat} {C : List Addr} {os : Os} {σ : St} {H : Hp} {f : Mo (List D)} {g : List D → Mo D} {ρ : Env} {μ : Sto} {Q : VK} {Q1 : List V → Hp → Prop} (h : PostF Φ X i C os σ H (bnd f g ρ μ) Q)
    (k : ∀ d ρ1 μ1 v H1 C1 os1, Rl Φ X ρ1 μ1 C1 os1 σ H1 → Stp (rc Φ X C os H) (rc Φ X C1 os1 H1) → Reps (rc Φ X C1 os1 H1) v d → PostF Φ X i C1 os1 σ H1 (g d ρ1 μ1) Q → Q1 v H1) : PostA Φ X C os σ H (f ρ μ) Q1 := by
  unfold bnd at h
  cases e : f ρ μ with
  | ok d ρ1 μ1 =>
    rw [e] at h
    refine fun v H1 C1 os1 R S q => k d ρ1 μ1 v H1 C1 os1 R S q ?_
    have h : PostF Φ X i C os σ H (g d ρ1 μ1) Q := h
    cases e2 : g d ρ1 μ1 with
    | ok d2 ρ2 μ2 => rw [e2] at h; exact fun a H' C' os' R' T w => h a H' C' os' R' (S.trans T) w
    | ex c ns ds ρ2 μ2 => rw [e2] at h; exact fun Cc dx H' C' os' R' T g e => h Cc dx H' C' os' R' (S.trans T) g e
    | no => rw [e2] at h; exact h
  | ex c ns ds ρ1 μ1 => rw [e] at h; exact h
  | no => rw [e] at h; exact h
theorem lift_okF {i : Nat} {ρ : Env} {μ : Sto} {C : List Addr} {os : Os} {σ : St} {H : Hp} {o : Option D} {Q : VK} (R : Rl Φ X ρ μ C os σ H) (p : PostF Φ X i C os σ H (lift o ρ μ) Q) :
    ∃ d, o = some d ∧ ∀ a u, H a = none → NewR (rc Φ X C os H) u d → Q (.ref a) (upd H a u) := by
  cases o with
  | none => exact p.elim
  | some d => exact ⟨d, rfl, fun a u n w => p a _ C os (R.add (some i) n) (stp_add n) (w.own (stp_add n) upd_same)⟩
variable {fa : Mo (List D)} {es : List Expr}
theorem df_lst {i : Nat} (h : DA Φ X es fa) : DF Φ X i (.List es pos) (lstM fa) := PE.imp (pe_lst h) fun σ H Q ⟨ρ, μ, C, os, R, z⟩ =>
  ⟨ρ, μ, C, os, R, PostF.bndA z fun ds ρ1 μ1 vs H1 C1 os1 R1 S1 q1 z1 => by
    obtain ⟨d, e, k⟩ := lift_okF R1 z1
    unfold mkL at e
    split at e
    · rename_i hl
      cases e
      exact ⟨by rw [q1.length, line_eq]; exact hl, fun p n => k _ _ n ⟨_, rfl, q1⟩⟩
    · cases e⟩
def setF (i : Nat) (f : Mo D) : Mo Fl := bnd f fun d => put i (.ow d)
theorem ds_setF {i : Nat} {x : Str} {pos' : Pos} (hN : X.N.Nodup) (he : DF Φ X i e f) (hi : X.N[i]? = some x := by rfl) (hx : Loc X.env.scope x := by first | exact Or.inl rfl | exact Or.inr rfl)
    (hs : swapsWith e (some (.Name x pos')) pos.line X.env = pure false := by rfl) (hf : X.fn x = true ∨ X.env.scope.names.lookup x = some .local := by first | exact .inl rfl | exact .inr rfl) :
    DS Φ X (.Assign [.Name x pos'] e pos) (setF i f) := PS.imp (ps_set hN hi hx he hs hf) fun D σ H ⟨ρ, μ, C, os, R, z⟩ => by
  refine ⟨ρ, μ, C, os, R, ?_⟩
  unfold setF bnd at z
  cases e : f ρ μ with
  | no => rw [e] at z; exact z
  | ex c ns ds ρ1 μ1 => rw [e] at z; exact fun Cc dx H' C' os' R S g e => z Cc dx σ H' C' os' R S g e
  | ok d ρ1 μ1 =>
    rw [e] at z
    exact fun a H1 C1 os1 R1 S1 w => z _ _ C1 _ (R1.setv (t := .ow d) ⟨a, rfl, List.mem_cons_self, w⟩) S1
end
end L2.DL

/-! DL7: owned lists and cells changed; for, while. -/
namespace L2.DL
open PySem PySem.Spec PyProof.Rows
section
variable {Φ : Ctx} {X : Cx} {a b c e : Expr} {f g k : Mo D} {pos : Pos}
theorem stp_mut {C : List Addr} {os : Os} {H : Hp} {p : Addr} {o o0 : HO} (h : H p = some o0) (hA : AA Φ C os p) (hB : (none, p) ∉ os) : Stp (rc Φ X C os H) (rc Φ X C os (upd H p o)) :=
  ⟨rfl, rfl, fun b z => .inl z, ⟨[], by simp [rcK]⟩, fun b u z n => by
    have nb : b ≠ p := fun e => n (by rw [e]; exact hA)
    show upd H p o b = some u
    rw [upd_ne nb]; exact z, fun b u z => by
    by_cases hb : b = p
    · exact ⟨o, by rw [hb]; exact upd_same⟩
    · exact ⟨u, by
        show upd H p o b = some u
        rw [upd_ne hb]; exact z⟩, fun b z => z, fun b u z w => by
    have nb : b ≠ p := fun e => hB (by rw [← e]; exact w)
    show upd H p o b = some u
    rw [upd_ne nb]; exact z⟩
theorem Rl.notB {ρ : Env} {μ : Sto} {C : List Addr} {os : Os} {σ : St} {H : Hp} {i : Nat} {p : Addr} (R : Rl Φ X ρ μ C os σ H) (h : (some i, p) ∈ os ∨ p ∈ C) : (none, p) ∉ os := fun z => by
  rcases h with h | h
  · have q := R.own none (some i) p z h
    cases q
  · exact (R.fre _ _ z).2.1 h
theorem Rl.forget {ρ : Env} {μ : Sto} {C : List Addr} {os : Os} {σ : St} {H : Hp} (i : Nat) (R : Rl Φ X ρ μ C os σ H) : Rl Φ X (ρ.set i none) μ C os σ H where
  len := by rw [List.length_set]; exact R.len
  env := fun j t q => by
    by_cases hj : i = j
    · subst hj
      by_cases hl : i < ρ.length
      · rw [List.getElem?_set_self hl] at q; cases q
      · rw [List.getElem?_eq_none (by rw [List.length_set]; omega)] at q; cases q
    · rw [List.getElem?_set_ne hj] at q
      exact R.env j t q
  sto := R.sto
  own := R.own
  fre := R.fre
  pre := R.pre
  cfr := R.cfr
  cnd := R.cnd
  clv := R.clv
  frm := R.frm
  alv := R.alv
theorem Rl.sete {ρ : Env} {μ : Sto} {C : List Addr} {os : Os} {σ : St} {H : Hp} {i : Nat} {v : V} {t : Ent} (R : Rl Φ X ρ μ C os σ H) (hv : σ[i]? = some (some v)) (h : EntR Φ (rc Φ X C os H) os i v t) : Rl Φ X (ρ.set i (some t)) μ C os σ H := by
  have q := R.setv (i := i) (v := v) h
  have e : σ.set i (some v) = σ := by
    apply List.ext_getElem?
    intro j
    by_cases hj : i = j
    · subst hj
      rw [List.getElem?_set_self (List.getElem?_eq_some_iff.mp hv).1, hv]
    · rw [List.getElem?_set_ne hj]
  rw [e] at q
  exact q
/-- an owned object changed -/
theorem Rl.mutO {ρ : Env} {μ : Sto} {C : List Addr} {os : Os} {σ : St} {H : Hp} {i : Nat} {p : Addr} {t : Ent} {o : HO} (R : Rl Φ X ρ μ C os σ H) (hv : σ[i]? = some (some (.ref p))) (hm : (some i, p) ∈ os)
    (h : EntR Φ (rc Φ X C os (upd H p o)) os i (.ref p) t) : Rl Φ X (ρ.set i (some t)) μ C os σ (upd H p o) ∧ Stp (rc Φ X C os H) (rc Φ X C os (upd H p o)) := by
  obtain ⟨f1, f2, f3, o0, h0⟩ := R.fre _ p hm
  have S : Stp (rc Φ X C os H) (rc Φ X C os (upd H p o)) := stp_mut h0 (.inr (.inr ⟨_, hm⟩)) (R.notB (.inl hm))
  have ne : ∀ {b : Addr} {u : HO}, b ≠ p → H b = some u → upd H p o b = some u := fun nb z => by rw [upd_ne nb]; exact z
  have R1 : Rl Φ X (ρ.set i none) μ C os σ (upd H p o) := by
    refine (R.forget i).move S (fun b => b = p) (fun b u nb z => ne nb z) (fun j t v q h1 h2 => ?_) (fun m b c h1 h2 h3 => ?_) R.own (fun j b z => ?_) (fun b e _ => by rw [e]; exact f1) S.l
    · have hj : j ≠ i := fun e => by
        subst e
        by_cases hl : j < ρ.length
        · rw [List.getElem?_set_self hl] at q; cases q
        · rw [List.getElem?_eq_none (by rw [List.length_set]; omega)] at q; cases q
      cases t with
      | sh d => exact Rep.step S h2
      | ow d =>
        obtain ⟨b, e1, e2, e3⟩ := h2
        exact ⟨b, e1, e2, e3.stepH S fun u z => ne (fun e => hj (Option.some.inj (R.own (some j) (some i) p (e ▸ e2) hm))) z⟩
      | bd c ns ds =>
        obtain ⟨b, e1, e2, e3⟩ := h2
        exact ⟨b, e1, e2, BdR.stepB S (fun u z => ne (fun e => hj (Option.some.inj (R.own (some j) (some i) p (e ▸ e2) hm))) z) e3⟩
      | eh c ns ds =>
        obtain ⟨b, dx, e1, e2, e3⟩ := h2
        exact ⟨b, dx, e1, e2, e3.step S⟩
    · exact h3.stepH S fun u z => ne (fun e => f2 (e ▸ List.mem_of_getElem? h1)) z
    · obtain ⟨h1, h2, h3, u, h4⟩ := R.fre j b z
      exact ⟨h1, h2, h3, S.l b u h4⟩
  have R2 := R1.sete hv h
  rw [List.set_set] at R2
  exact ⟨R2, S⟩
/-- a cell changed -/
theorem Rl.mutC {ρ : Env} {μ : Sto} {C : List Addr} {os : Os} {σ : St} {H : Hp} {n : Nat} {p : Addr} {c : Cell} {o : HO} (R : Rl Φ X ρ μ C os σ H) (hp : C[n]? = some p) (h : CellR (rc Φ X C os (upd H p o)) p c) :
    Rl Φ X ρ (μ.set n c) C os σ (upd H p o) ∧ Stp (rc Φ X C os H) (rc Φ X C os (upd H p o)) := by
  have hC : p ∈ C := List.mem_of_getElem? hp
  obtain ⟨o0, h0⟩ := R.clv p hC
  have S : Stp (rc Φ X C os H) (rc Φ X C os (upd H p o)) := stp_mut h0 (.inr (.inl hC)) (R.notB (i := 0) (.inr hC))
  have ne : ∀ {b : Addr} {u : HO}, b ≠ p → H b = some u → upd H p o b = some u := fun nb z => by rw [upd_ne nb]; exact z
  have nos : ∀ {j : Option Nat} {b : Addr}, (j, b) ∈ os → b ≠ p := fun z e => (R.fre _ _ z).2.1 (e ▸ hC)
  refine ⟨⟨R.len, fun j t q => ?_, ⟨by rw [List.length_set]; exact R.sto.1, fun m b c' h1 h2 => ?_⟩, R.own, fun j b z => ?_, R.pre, R.cfr, R.cnd, fun b z => let ⟨u, e⟩ := R.clv b z; S.l b u e, fun b u h1 h2 h3 => ne (fun e => h2 (e ▸ hC)) (R.frm b u h1 h2 h3),
    fun b z => let ⟨u, e⟩ := R.alv b z; S.l b u e⟩, S⟩
  · obtain ⟨v, h1, h2⟩ := R.env j t q
    refine ⟨v, h1, ?_⟩
    cases t with
    | sh d => exact Rep.step S h2
    | ow d =>
      obtain ⟨b, e1, e2, e3⟩ := h2
      exact ⟨b, e1, e2, e3.stepH S fun u z => ne (nos e2) z⟩
    | bd c ns ds =>
      obtain ⟨b, e1, e2, e3⟩ := h2
      exact ⟨b, e1, e2, BdR.stepB S (fun u z => ne (nos e2) z) e3⟩
    | eh c ns ds =>
      obtain ⟨b, dx, e1, e2, e3⟩ := h2
      exact ⟨b, dx, e1, e2, e3.step S⟩
  · by_cases hm : n = m
    · subst hm
      have hl : n < μ.length := by
        have := (List.getElem?_eq_some_iff.mp h2).1
        rwa [List.length_set] at this
      rw [List.getElem?_set_self hl] at h2
      cases h2
      have e : b = p := Option.some.inj (h1.symm.trans hp)
      rw [e]; exact h
    · rw [List.getElem?_set_ne hm] at h2
      refine (R.sto.2 m b c' h1 h2).stepH S fun u z => ne (fun e => hm ?_) z
      exact (List.getElem_inj R.cnd).mp ((List.getElem?_eq_some_iff.mp hp).2.trans ((List.getElem?_eq_some_iff.mp h1).2.trans e).symm)
  · obtain ⟨h1, h2, h3, u, h4⟩ := R.fre j b z
    exact ⟨h1, h2, h3, S.l b u h4⟩

/-! ### a list that a name holds, changed -/
/-- the list at slot i (owned, or a cell's) -/
def lstAt (i : Nat) (ρ : Env) (μ : Sto) : Option (List D) := match ρ[i]? with
  | some (some (.ow (.lst ds))) => some ds
  | some (some (.sh (.cell n))) => match μ[n]? with
    | some (.lst ds) => some ds
    | _ => none
  | _ => none
def lstPut (i : Nat) (ds : List D) : Mo Fl := fun ρ μ => match ρ[i]? with
  | some (some (.ow (.lst _))) => .ok .nx (ρ.set i (some (.ow (.lst ds)))) μ
  | some (some (.sh (.cell n))) => .ok .nx ρ (μ.set n (.lst ds))
  | _ => .no
/-- h: what becomes of the list -/
def lstUp (i : Nat) (h : List D → Option (List D)) : Mo Fl := fun ρ μ => match lstAt i ρ μ with
  | some ds => match h ds with
    | some es => lstPut i es ρ μ
    | none => .no
  | none => .no
def isLst (i : Nat) : Mo Unit := fun ρ μ => match lstAt i ρ μ with
  | some _ => .ok () ρ μ
  | none => .no
theorem lstAt_ok {ρ : Env} {μ : Sto} {C : List Addr} {os : Os} {σ : St} {H : Hp} {i : Nat} {ds : List D} (R : Rl Φ X ρ μ C os σ H) (h : lstAt i ρ μ = some ds) : ∃ p vs, σ[i]? = some (some (.ref p)) ∧ H p = some (.lst vs) ∧ Reps (rc Φ X C os H) vs ds ∧ AA Φ C os p ∧
    ∀ (ws : List V) (es : List D), Reps (rc Φ X C os H) ws es → ∃ ρ' μ', lstPut i es ρ μ = .ok .nx ρ' μ' ∧ Rl Φ X ρ' μ' C os σ (upd H p (.lst ws)) ∧ Stp (rc Φ X C os H) (rc Φ X C os (upd H p (.lst ws))) := by
  unfold lstAt at h
  cases q : ρ[i]? with
  | none => rw [q] at h; cases h
  | some o =>
    cases o with
    | none => rw [q] at h; cases h
    | some t =>
      obtain ⟨v, h1, h2⟩ := R.env i _ q
      cases t with
      | ow d =>
        cases d with
        | lst ds' =>
          rw [q] at h
          cases h
          obtain ⟨p, rfl, hm, vs, hp, qs⟩ := h2
          refine ⟨p, vs, h1, hp, qs, .inr (.inr ⟨_, hm⟩), fun ws es hq => ?_⟩
          have S : Stp (rc Φ X C os H) (rc Φ X C os (upd H p (.lst ws))) := stp_mut hp (.inr (.inr ⟨_, hm⟩)) (R.notB (.inl hm))
          have z := R.mutO (t := .ow (.lst es)) (o := .lst ws) h1 hm ⟨p, rfl, hm, ws, upd_same, hq.step S⟩
          exact ⟨_, _, by unfold lstPut; rw [q], z.1, z.2⟩
        | _ => rw [q] at h; cases h
      | sh d =>
        cases d with
        | cell n =>
          rw [q] at h
          cases q2 : μ[n]? with
          | none => simp only [q2] at h; cases h
          | some c =>
            simp only [q2] at h
            cases c with
            | lst ds' =>
              cases h
              cases h2 with
              | @cell p _ hc =>
                obtain ⟨vs, hp, qs⟩ := cell_at R hc q2
                refine ⟨p, vs, h1, hp, qs, .inr (.inl (List.mem_of_getElem? hc)), fun ws es hq => ?_⟩
                have S : Stp (rc Φ X C os H) (rc Φ X C os (upd H p (.lst ws))) := stp_mut hp (.inr (.inl (List.mem_of_getElem? hc))) (R.notB (i := 0) (.inr (List.mem_of_getElem? hc)))
                have z := R.mutC (c := .lst es) (o := .lst ws) hc ⟨ws, upd_same, hq.step S⟩
                exact ⟨_, _, by unfold lstPut; rw [q], z.1, z.2⟩
            | _ => cases h
        | _ => rw [q] at h; cases h
      | bd c ns ds => rw [q] at h; cases h
      | eh c ns ds => rw [q] at h; cases h
theorem lstUp_ok {ρ : Env} {μ : Sto} {C : List Addr} {os : Os} {σ : St} {H : Hp} {i : Nat} {h : List D → Option (List D)} {E : Ends} (R : Rl Φ X ρ μ C os σ H) (z : PostS Φ X C os H (lstUp i h ρ μ) E) :
    ∃ p vs ds es, σ[i]? = some (some (.ref p)) ∧ H p = some (.lst vs) ∧ Reps (rc Φ X C os H) vs ds ∧ h ds = some es ∧ ∀ ws, Reps (rc Φ X C os H) ws es → E.nx σ (upd H p (.lst ws)) := by
  unfold lstUp at z
  cases e : lstAt i ρ μ with
  | none => rw [e] at z; exact z.elim
  | some ds =>
    rw [e] at z
    cases e2 : h ds with
    | none => simp only [e2] at z; exact z.elim
    | some es =>
      simp only [e2] at z
      obtain ⟨p, vs, h1, h2, h3, _, k⟩ := lstAt_ok R e
      refine ⟨p, vs, ds, es, h1, h2, h3, e2, fun ws hq => ?_⟩
      obtain ⟨ρ', μ', e3, R', S⟩ := k ws es hq
      rw [e3] at z
      exact z σ _ C os R' S
theorem isLst_ok {ρ : Env} {μ : Sto} {C : List Addr} {os : Os} {σ : St} {H : Hp} {i : Nat} {g : Mo Fl} {E : Ends} (R : Rl Φ X ρ μ C os σ H) (z : PostS Φ X C os H (bnd (isLst i) (fun _ => g) ρ μ) E) :
    ∃ p vs, σ[i]? = some (some (.ref p)) ∧ H p = some (.lst vs) ∧ PostS Φ X C os H (g ρ μ) E := by
  unfold bnd isLst at z
  cases e : lstAt i ρ μ with
  | none => rw [e] at z; exact z.elim
  | some ds =>
    rw [e] at z
    obtain ⟨p, vs, h1, h2, _⟩ := lstAt_ok R e
    exact ⟨p, vs, h1, h2, z⟩
def apnM (i : Nat) (f : Mo D) : Mo Fl := bnd (isLst i) fun _ => bnd f fun d => lstUp i fun ds => if ds.length < lineN then some (ds ++ [d]) else none
theorem ds_apn {i : Nat} {x : Str} {p1 p2 cpos : Pos} (he : DE Φ X e f) (hN : X.N[i]? = some x := by rfl) (hv : Vis X.env.scope x := by first | exact Or.inl rfl | exact Or.inr (Or.inl rfl) | exact Or.inr (Or.inr rfl)) (hd : (x == ("__debug__" : Str)) = false := by decide)
    (hcd : (x == ("__classdict__" : Str)) = false := by decide) (hs : swapsWith (.Call (.Attribute (.Name x p1) "append" p2) [e] [] cpos) none pos.line X.env = pure false := by rfl)
    (hst : starEach [e] X.env = (false, eval e X.env) :: starEach [] X.env := by rfl) (hbase : attributeBase (.Name x p1) "append" X.env (eval (.Name x p1) X.env) = eval (.Name x p1) X.env := by rfl)
    (hfew : ((backTo cpos (starEach [e] X.env)).all (fun y => !y.1) && (backToKw cpos (keywordEach [] X.env)).all (fun y => y.1.isSome) && decide ([e].length + ([] : List Keyword).length + (if ([] : List Keyword).isEmpty then 0 else 1) < 30)) = true := by rfl)
    (hline : (p2.endLine == cpos.line) = true := by rfl) (hpl : (backTo cpos (starEach [] X.env)).any (·.1) = false := by rfl) : DS Φ X (.Expr (.Call (.Attribute (.Name x p1) "append" p2) [e] [] cpos) pos) (apnM i f) :=
  PS.imp (ps_expr (pe_bm PySem.F.plainAttrs_list PySem.F.slot_list_append PySem.F.type_list_append mt_append (pe_var hN hv hd hcd) (pa_cons he pa_nil hst) hbase hfew hline hst hpl) hs) fun D σ H ⟨ρ, μ, C, os, R, z⟩ => by
    obtain ⟨p, vs, h1, h2, z1⟩ := isLst_ok R z
    refine ⟨_, h1, .inl ⟨rfl, vs, .of h2⟩, ρ, μ, C, os, R, PostS.bndE z1 fun d ρ1 μ1 v H1 C1 os1 R1 S1 q1 z2 => ?_⟩
    obtain ⟨p', vs', ds, es, h3, h4, h5, h6, k⟩ := lstUp_ok R1 z2
    rw [h1] at h3; cases h3
    split at h6
    · rename_i hl
      cases h6
      exact ⟨p, vs', v, rfl, rfl, h4, by rw [h5.length, line_eq]; exact hl, k _ (h5.append (.one q1))⟩
    · cases h6
/-- x[j] = e -/
def stiM (i : Nat) (f g : Mo D) : Mo Fl := bnd f fun d => bnd (isLst i) fun _ => bnd g fun j => lstUp i fun ds => match j with
  | .int n => (ixN ds.length n).map fun m => ds.set m d
  | _ => none
theorem ds_sti {i : Nat} {x : Str} {p1 p2 : Pos} (he : DE Φ X e f) (hj : DE Φ X b g) (hN : X.N[i]? = some x := by rfl) (hv : Vis X.env.scope x := by first | exact Or.inl rfl | exact Or.inr (Or.inl rfl) | exact Or.inr (Or.inr rfl))
    (hd : (x == ("__debug__" : Str)) = false := by decide) (hcd : (x == ("__classdict__" : Str)) = false := by decide)
    (ha : ∀ v, assign (.Subscript (.Name x p1) b p2) X.env v = (do
      let ov ← holding [v] (eval (.Name x p1) X.env)
      let iv ← holding [v, ov] (eval b X.env)
      standAt p2
      holding [v, ov, iv] (setItem ov iv v)
      release [v, ov, iv] []) := by intro _; rfl)
    (hs : swapsWithSole [.Subscript (.Name x p1) b p2] e pos.line X.env = pure false := by rfl) (hw : swappedStores [.Subscript (.Name x p1) b p2] e X.env = pure none := by rfl) (h1 : (assignEach [.Subscript (.Name x p1) b p2] X.env).map (·.2) = [assign (.Subscript (.Name x p1) b p2) X.env] := by rfl) :
    DS Φ X (.Assign [.Subscript (.Name x p1) b p2] e pos) (stiM i f g) :=
  PS.imp (ps_asg he (pg_sub (pe_var hN hv hd hcd) hj set_list ha) hs hw h1) fun D σ H ⟨ρ, μ, C, os, R, z⟩ =>
    ⟨ρ, μ, C, os, R, PostS.bndE z fun d ρ1 μ1 v H1 C1 os1 R1 S1 q1 z1 => by
      obtain ⟨p, vs, h1, h2, z2⟩ := isLst_ok R1 z1
      refine ⟨_, h1, ρ1, μ1, C1, os1, R1, PostS.bndE z2 fun j ρ2 μ2 w H2 C2 os2 R2 S2 q2 z3 => ?_⟩
      obtain ⟨p', vs', ds, es, h3, h4, h5, h6, k⟩ := lstUp_ok R2 z3
      rw [h1] at h3; cases h3
      cases q2 with
      | int n =>
        obtain ⟨m, h7, rfl⟩ := Option.map_eq_some_iff.mp h6
        exact ⟨p, vs', n, m, rfl, rfl, h4, by rw [h5.length]; exact h7, k _ (Reps.set (q1.step S2) m h5)⟩
      | _ => cases h6⟩
end
end L2.DL

/-! DL8: targets, what is walked, for, while, list comprehensions. -/
namespace L2.DL
open PySem PySem.Spec PyProof.Rows
section
variable {Φ : Ctx} {X : Cx} {a b c e : Expr} {f g k : Mo D} {pos : Pos}
/-- what a walk yields: a value, or a pair that is unpacked at once -/
def RepU (r : RC) (v : V) (d : D) : Prop := Rep r v d ∨ ∃ a vs ds, v = .ref a ∧ d = .tup ds ∧ r.H a = some (.tup vs) ∧ ¬ r.A a ∧ Reps r vs ds
abbrev Vr := RC → V → D → Prop
/-! ### targets -/
def PostG (Φ : Ctx) (X : Cx) (C : List Addr) (os : Os) (H : Hp) (o : O Unit) (Q : St → Hp → Prop) : Prop := match o with
  | .ok _ ρ' μ' => ∀ σ' H' C' os', Rl Φ X ρ' μ' C' os' σ' H' → Stp (rc Φ X C os H) (rc Φ X C' os' H') → Q σ' H'
  | _ => False
def cG (U : Vr) (Φ : Ctx) (X : Cx) (g : D → Mo Unit) : TG := fun v σ H Q => ∃ ρ μ C os d, Rl Φ X ρ μ C os σ H ∧ U (rc Φ X C os H) v d ∧ PostG Φ X C os H (g d ρ μ) Q
def cGs (Φ : Ctx) (X : Cx) (g : List D → Mo Unit) : TGs := fun vs σ H Q => ∃ ρ μ C os ds, Rl Φ X ρ μ C os σ H ∧ Reps (rc Φ X C os H) vs ds ∧ PostG Φ X C os H (g ds ρ μ) Q
def DG (U : Vr) (Φ : Ctx) (X : Cx) (tg : Expr) (g : D → Mo Unit) : Prop := PG X tg (cG U Φ X g)
def DGs (Φ : Ctx) (X : Cx) (tgs : List Expr) (g : List D → Mo Unit) : Prop := PGs X tgs (cGs Φ X g)
theorem PG.imp {tg : Expr} {t t' : TG} (h : PG X tg t) (i : ∀ v σ H Q, t' v σ H Q → t v σ H Q) : PG X tg t' := ⟨fun pins s σ H v u Q I r q => h.run pins s σ H v u Q I r (i v σ H Q q)⟩
theorem PGs.imp {tgs : List Expr} {t t' : TGs} (h : PGs X tgs t) (i : ∀ v σ H Q, t' v σ H Q → t v σ H Q) : PGs X tgs t' := ⟨fun pins s σ H v u Q I r q => h.run pins s σ H v u Q I r (i v σ H Q q)⟩
theorem PostG.from {C C1 : List Addr} {os os1 : Os} {H H1 : Hp} {o : O Unit} {Q : St → Hp → Prop} (S : Stp (rc Φ X C os H) (rc Φ X C1 os1 H1)) (h : PostG Φ X C os H o Q) : PostG Φ X C1 os1 H1 o Q := by
  cases o with
  | ok d ρ' μ' => exact fun σ' H' C' os' R T => h σ' H' C' os' R (S.trans T)
  | ex c ns ds ρ' μ' => exact h
  | no => exact h
def tgN (i : Nat) (d : D) : Mo Unit := fun ρ μ => .ok () (ρ.set i (some (.sh d))) μ
def tgT (n : Nat) (g : List D → Mo Unit) : D → Mo Unit
  | .tup ds => if ds.length = n then g ds else no
  | _ => no
def tgNil : List D → Mo Unit
  | [] => ret ()
  | _ => no
def tgCons (g : D → Mo Unit) (gs : List D → Mo Unit) : List D → Mo Unit
  | d :: ds => bnd (g d) fun _ => gs ds
  | [] => no
theorem dg_name {i : Nat} {x : Str} (hN : X.N.Nodup) (hi : X.N[i]? = some x := by rfl) (hx : Loc X.env.scope x := by first | exact Or.inl rfl | exact Or.inr rfl) (hf : X.fn x = true ∨ X.env.scope.names.lookup x = some .local := by first | exact .inl rfl | exact .inr rfl) :
    DG Rep Φ X (.Name x pos) (tgN i) := PG.imp (pg_name hN hi hx hf) fun v σ H Q ⟨ρ, μ, C, os, d, R, q, z⟩ => z _ _ C os (R.setv (t := .sh d) q) (Stp.refl _)
theorem dgs_nil : DGs Φ X [] tgNil := PGs.imp pgs_nil fun vs σ H Q ⟨ρ, μ, C, os, ds, R, q, z⟩ => by
  cases q with
  | nil => exact ⟨rfl, z _ _ C os R (Stp.refl _)⟩
  | cons h t => exact z.elim
theorem dgs_cons {e : Expr} {es : List Expr} {g : D → Mo Unit} {gs : List D → Mo Unit} (h1 : DG Rep Φ X e g) (h2 : DGs Φ X es gs) (hs : (assignEach (e :: es) X.env).map (·.2) = assign e X.env :: (assignEach es X.env).map (·.2) := by rfl) : DGs Φ X (e :: es) (tgCons g gs) :=
  PGs.imp (pgs_cons h1 h2 hs) fun vs σ H Q ⟨ρ, μ, C, os, ds, R, q, z⟩ => by
    cases q with
    | nil => exact z.elim
    | @cons v d vs ds h t =>
      refine ⟨v, vs, rfl, ρ, μ, C, os, d, R, h, ?_⟩
      have z : PostG Φ X C os H (bnd (g d) (fun _ => gs ds) ρ μ) Q := z
      unfold bnd at z
      cases e1 : g d ρ μ with
      | no => rw [e1] at z; exact z.elim
      | ex c ns ds ρ1 μ1 => rw [e1] at z; exact z.elim
      | ok u ρ1 μ1 =>
        rw [e1] at z
        exact fun σ1 H1 C1 os1 R1 S1 => ⟨ρ1, μ1, C1, os1, ds, R1, t.step S1, PostG.from S1 z⟩
theorem dg_tup {es : List Expr} {n : Nat} {m : Nat} {gs : List D → Mo Unit} (hc : X.calm = true) (h : DGs Φ X es gs) (hn : (assignEach es X.env).length = n := by rfl) (hst : (assignEach es X.env).findIdx? (·.1) = none := by rfl) :
    DG RepU Φ X (.Tuple es m pos) (tgT n gs) := PG.imp (pg_tup hc h hn hst) fun v σ H Q ⟨ρ, μ, C, os, d, R, q, z⟩ => by
  have fin : ∀ {a : Addr} {vs : List V} {ds : List D}, SqT X.K H a vs → Reps (rc Φ X C os H) vs ds → PostG Φ X C os H ((if ds.length = n then gs ds else no) ρ μ) Q → gTup X.K n (cGs Φ X gs) (.ref a) σ H Q := fun {a vs ds} hT qs z => by
    by_cases hl : ds.length = n
    · rw [if_pos hl] at z
      exact ⟨a, vs, rfl, hT, by rw [qs.length]; exact hl, ρ, μ, C, os, ds, R, qs, z⟩
    · rw [if_neg hl] at z
      exact z.elim
  rcases q with q | ⟨a, vs, ds, rfl, rfl, hH, _, qs⟩
  · cases q with
    | @tup a vs ds hT qs => exact fin hT.sq qs z
    | _ => exact z.elim
  · exact fin (.of hH) qs z
theorem DG.rep {tg : Expr} {g : D → Mo Unit} (h : DG RepU Φ X tg g) : DG Rep Φ X tg g := PG.imp h fun v σ H Q ⟨ρ, μ, C, os, d, R, q, z⟩ => ⟨ρ, μ, C, os, d, R, .inl q, z⟩
/-- a, b = e with any targets -/
def asgM (f : Mo D) (g : D → Mo Unit) : Mo Fl := bnd f fun d => bnd (g d) fun _ => ret .nx
theorem PostG_nx {C : List Addr} {os : Os} {H : Hp} {g : Mo Unit} {ρ : Env} {μ : Sto} {E : Ends} (z : PostS Φ X C os H (bnd g (fun _ => ret .nx) ρ μ) E) (hx : ∀ c ns ds ρ' μ', g ρ μ ≠ .ex c ns ds ρ' μ') : PostG Φ X C os H (g ρ μ) E.nx := by
  unfold bnd at z
  cases e : g ρ μ with
  | no => rw [e] at z; exact z
  | ex c ns ds ρ1 μ1 => exact (hx _ _ _ _ _ e).elim
  | ok u ρ1 μ1 => rw [e] at z; exact fun σ' H' C' os' R S => z σ' H' C' os' R S
/-- a target's store raises nothing -/
def NoEx (g : D → Mo Unit) : Prop := ∀ d ρ μ c ns ds ρ' μ', g d ρ μ ≠ .ex c ns ds ρ' μ'
theorem ds_asg {tg : Expr} {g : D → Mo Unit} (he : DE Φ X e f) (hg : DG Rep Φ X tg g) (hx : NoEx g) (hs : swapsWithSole [tg] e pos.line X.env = pure false := by rfl) (hw : swappedStores [tg] e X.env = pure none := by rfl)
    (h1 : (assignEach [tg] X.env).map (·.2) = [assign tg X.env] := by rfl) : DS Φ X (.Assign [tg] e pos) (asgM f g) := PS.imp (ps_asg he hg hs hw h1) fun D σ H ⟨ρ, μ, C, os, R, z⟩ =>
  ⟨ρ, μ, C, os, R, PostS.bndE z fun d ρ1 μ1 v H1 C1 os1 R1 S1 q1 z1 => ⟨ρ1, μ1, C1, os1, d, R1, q1, PostG_nx z1 (hx d ρ1 μ1)⟩⟩

/-! ### what is walked -/
structure ItOk (U : Vr) (J : It) (r : RC) (ds : List D) : Prop where
  go : ∀ (i : Nat) r', Stq r r' → i < ds.length → J.go i r'.H
  yl : ∀ (i : Nat) r' x H' d, Stq r r' → (∀ p, r'.H p = none → ¬ r'.A p) → ds[i]? = some d → J.yld i r'.H x H' → Grow r'.H H' ∧ U (r'.at H') x d
  st : ∀ r', Stq r r' → J.stop ds.length r'.H
def PostI (U : Vr) (Φ : Ctx) (X : Cx) (C : List Addr) (os : Os) (σ : St) (H : Hp) (o : O (List D)) (R : It → Hp → Prop) : Prop := match o with
  | .ok ds ρ' μ' => ∀ J H' C' os', Rl Φ X ρ' μ' C' os' σ H' → Stp (rc Φ X C os H) (rc Φ X C' os' H') → ItOk U J (rc Φ X C' os' H') ds → R J H'
  | .ex c ns ds ρ' μ' => ∀ Cc dx H' C' os', Rl Φ X ρ' μ' C' os' σ H' → Stp (rc Φ X C os H) (rc Φ X C' os' H') → X.mg c = some (.ref Cc) → EhR (rc Φ X C' os' H') dx c ns ds → Φ.W (.ref Cc) (some dx) σ H'
  | .no => False
def cI (U : Vr) (Φ : Ctx) (X : Cx) (f : Mo (List D)) : TI := fun σ H R => ∃ ρ μ C os, Rl Φ X ρ μ C os σ H ∧ PostI U Φ X C os σ H (f ρ μ) R
def DI (U : Vr) (Φ : Ctx) (X : Cx) (tg e : Expr) (f : Mo (List D)) : Prop := PI X tg e (cI U Φ X f)
theorem PI.imp {tg e : Expr} {t t' : TI} (h : PI X tg e t) (i : ∀ σ H R, t' σ H R → t σ H R) : PI X tg e t' := ⟨fun pins s σ H R I q => h.run pins s σ H R I (i σ H R q)⟩
theorem PI.or {tg e : Expr} {t t' : TI} (h : PI X tg e t) (h' : PI X tg e t') : PI X tg e (fun σ H R => t σ H R ∨ t' σ H R) := ⟨fun pins s σ H R I q => by
  rcases q with q | q
  · exact h.run pins s σ H R I q
  · exact h'.run pins s σ H R I q⟩
theorem PostI.from {U : Vr} {C C1 : List Addr} {os os1 : Os} {σ : St} {H H1 : Hp} {o : O (List D)} {Q : It → Hp → Prop} (S : Stp (rc Φ X C os H) (rc Φ X C1 os1 H1)) (h : PostI U Φ X C os σ H o Q) : PostI U Φ X C1 os1 σ H1 o Q := by
  cases o with
  | ok d ρ' μ' => exact fun J H' C' os' R T q => h J H' C' os' R (S.trans T) q
  | ex c ns ds ρ' μ' => exact fun Cc dx H' C' os' R T g e => h Cc dx H' C' os' R (S.trans T) g e
  | no => exact h
theorem sqL_stp {r r' : RC} (S : Stq r r') {a : Addr} {vs : List V} (h : (r.H a = some (.lst vs) ∧ ¬ r.A a) ∨ r.Lst a vs) : SqL r.K r'.H a vs := by
  rcases h with ⟨h, n⟩ | h
  · exact .inl (.inl (S.h _ _ h n))
  · rw [← S.k]; exact (S.lst h).sq
theorem it_list {r : RC} {a : Addr} {vs : List V} {ds : List D} (h : (r.H a = some (.lst vs) ∧ ¬ r.A a) ∨ r.Lst a vs) (q : Reps r vs ds) : ItOk Rep (Itl r.K a) r ds where
  go := fun i r' S hi => by
    obtain ⟨v, e, _⟩ := q.get (List.getElem?_eq_getElem hi)
    exact ⟨vs, v, sqL_stp S h, e⟩
  yl := fun i r' x H' d S _ e ⟨e1, e2⟩ => by
    subst e1
    obtain ⟨v, e3, e4⟩ := q.get e
    have e5 := e2 vs (sqL_stp S h)
    rw [e3] at e5; cases e5
    exact ⟨Grow.refl _, e4.stq S⟩
  st := fun r' S => ⟨vs, sqL_stp S h, Nat.le_of_eq q.length⟩
theorem it_tup {r : RC} {a : Addr} {vs : List V} {ds : List D} (h : r.Tup a vs) (q : Reps r vs ds) : ItOk Rep (Itt r.K a) r ds where
  go := fun i r' S hi => by
    obtain ⟨v, e, _⟩ := q.get (List.getElem?_eq_getElem hi)
    exact ⟨vs, v, S.k ▸ (S.tup h).sq, e⟩
  yl := fun i r' x H' d S _ e ⟨e1, e2⟩ => by
    subst e1
    obtain ⟨v, e3, e4⟩ := q.get e
    have e5 := e2 vs (S.k ▸ (S.tup h).sq)
    rw [e3] at e5; cases e5
    exact ⟨Grow.refl _, e4.stq S⟩
  st := fun r' S => ⟨vs, S.k ▸ (S.tup h).sq, Nat.le_of_eq q.length⟩
theorem it_range {r : RC} (lo : Int) (n : Nat) : ItOk Rep (Itr lo n) r ((List.range n).map fun k => D.int (lo + (k : Nat))) where
  go := fun i r' S hi => (by simpa using hi : i < n)
  yl := fun i r' x H' d S _ e ⟨e1, e2⟩ => by
    subst e1 e2
    rw [List.getElem?_map] at e
    cases q : (List.range n)[i]? with
    | none => rw [q] at e; cases e
    | some k =>
      rw [q] at e
      cases e
      obtain ⟨h1, h2⟩ := List.getElem?_eq_some_iff.mp q
      rw [List.getElem_range] at h2
      subst h2
      exact ⟨Grow.refl _, .int _⟩
  st := fun r' S => by simp [Itr]
theorem it_str {r : RC} (s : Str) : ItOk Rep (Its s) r (s.cps.toList.map fun c => D.str ⟨#[c]⟩) where
  go := fun i r' S hi => (by simpa using hi : i < s.cps.size)
  yl := fun i r' x H' d S _ e ⟨e1, c, e2, e3⟩ => by
    subst e1 e3
    rw [List.getElem?_map, Array.getElem?_toList, e2] at e
    cases e
    exact ⟨Grow.refl _, .str _⟩
  st := fun r' S => by simp [Its]
def seqD : D → Option (List D)
  | .lst ds | .tup ds | .frz ds => some ds
  | _ => none
def walk (f : Mo D) : Mo (List D) := bnd f fun d => lift (seqD d)
theorem walk_ok {U : Vr} {ρ : Env} {μ : Sto} {C : List Addr} {os : Os} {σ : St} {H : Hp} {R : It → Hp → Prop} {g : D → Option (List D)} (z : PostI U Φ X C os σ H (bnd f (fun d => lift (g d)) ρ μ) R) {Q1 : VK}
    (k : ∀ d ds ρ1 μ1 v H1 C1 os1, f ρ μ = .ok d ρ1 μ1 → g d = some ds → Rl Φ X ρ1 μ1 C1 os1 σ H1 → Stp (rc Φ X C os H) (rc Φ X C1 os1 H1) → Rep (rc Φ X C1 os1 H1) v d → (∀ J, ItOk U J (rc Φ X C1 os1 H1) ds → R J H1) → Q1 v H1) : PostE Φ X C os σ H (f ρ μ) Q1 := by
  unfold bnd at z
  cases e : f ρ μ with
  | no => rw [e] at z; exact z.elim
  | ex c ns ds ρ1 μ1 => rw [e] at z; exact z
  | ok d ρ1 μ1 =>
    rw [e] at z
    intro v H1 C1 os1 R1 S1 q
    cases e2 : g d with
    | none => simp only [lift, e2] at z; exact z.elim
    | some ds =>
      simp only [lift, e2] at z
      exact k d ds ρ1 μ1 v H1 C1 os1 e e2 R1 S1 q fun J hJ => z J H1 C1 os1 R1 S1 hJ
theorem di_seq {tg : Expr} (h : DE Φ X e f) : DI Rep Φ X tg e (walk f) := PI.imp (PI.or (pi_list h) (pi_tup h)) fun σ H R ⟨ρ, μ, C, os, R0, z⟩ => by
  have key : (∃ ds ρ1 μ1, f ρ μ = .ok (.tup ds) ρ1 μ1) ∨ ∀ ds ρ1 μ1, f ρ μ ≠ .ok (.tup ds) ρ1 μ1 := Classical.em _ |>.imp id fun h ds ρ1 μ1 e => h ⟨ds, ρ1, μ1, e⟩
  rcases key with ⟨ds0, ρ0, μ0, e0⟩ | nt
  · refine .inr ⟨ρ, μ, C, os, R0, walk_ok z fun d ds ρ1 μ1 v H1 C1 os1 e1 e2 R1 S1 q k => ?_⟩
    rw [e0] at e1; cases e1; cases e2
    cases q with
    | tup hT qs => exact ⟨_, rfl, ⟨_, hT.sq⟩, k _ (it_tup hT qs)⟩
  · refine .inl ⟨ρ, μ, C, os, R0, walk_ok z fun d ds ρ1 μ1 v H1 C1 os1 e1 e2 R1 S1 q k => ?_⟩
    cases q with
    | lst ha n qs => cases e2; exact ⟨_, rfl, ⟨_, .of ha⟩, k _ (it_list (.inl ⟨ha, n⟩) qs)⟩
    | frz ha qs => cases e2; exact ⟨_, rfl, ⟨_, ha.sq⟩, k _ (it_list (.inr ha) qs)⟩
    | tup hT qs => exact (nt _ _ _ e1).elim
    | _ => cases e2
def chrs : D → Option (List D)
  | .str s => some (s.cps.toList.map fun c => D.str ⟨#[c]⟩)
  | _ => none
def walkS (f : Mo D) : Mo (List D) := bnd f fun d => lift (chrs d)
theorem di_str {tg : Expr} (h : DE Φ X e f) : DI Rep Φ X tg e (walkS f) := PI.imp (pi_str h) fun σ H R ⟨ρ, μ, C, os, R0, z⟩ =>
  ⟨ρ, μ, C, os, R0, walk_ok z fun d ds ρ1 μ1 v H1 C1 os1 e1 e2 R1 S1 q k => by
    cases q with
    | str s => cases e2; exact ⟨s, rfl, k _ (it_str s)⟩
    | _ => cases e2⟩
theorem PostI.bndA {U : Vr} {C : List Addr} {os : Os} {σ : St} {H : Hp} {f : Mo (List D)} {g : List D → Option (List D)} {ρ : Env} {μ : Sto} {R : It → Hp → Prop} {Q1 : List V → Hp → Prop} (z : PostI U Φ X C os σ H (bnd f (fun d => lift (g d)) ρ μ) R)
    (k : ∀ d ds v H1 C1 os1, g d = some ds → (∀ p, (rc Φ X C1 os1 H1).H p = none → ¬ (rc Φ X C1 os1 H1).A p) → Reps (rc Φ X C1 os1 H1) v d → (∀ J, ItOk U J (rc Φ X C1 os1 H1) ds → R J H1) → Q1 v H1) : PostA Φ X C os σ H (f ρ μ) Q1 := by
  unfold bnd at z
  cases e : f ρ μ with
  | no => rw [e] at z; exact z.elim
  | ex c ns ds ρ1 μ1 => rw [e] at z; exact z
  | ok d ρ1 μ1 =>
    rw [e] at z
    intro v H1 C1 os1 R1 S1 q
    cases e2 : g d with
    | none => simp only [lift, e2] at z; exact z.elim
    | some ds =>
      simp only [lift, e2] at z
      exact k d ds v H1 C1 os1 e2 R1.fr q fun J hJ => z J H1 C1 os1 R1 S1 hJ
def rngL (lo hi : Int) : List D := (List.range (hi - lo).toNat).map fun k => D.int (lo + (k : Nat))
def inB (i : Int) : Bool := Nat.ble i.natAbs 4611686018427387903
def rng1 : List D → Option (List D)
  | [.int j] => if inB j then some (rngL 0 j) else none
  | _ => none
def rng2 : List D → Option (List D)
  | [.int i, .int j] => if inB i && inB j then some (rngL i j) else none
  | _ => none
def rngM1 (f : Mo (List D)) : Mo (List D) := bnd f fun ds => lift (rng1 ds)
def rngM2 (f : Mo (List D)) : Mo (List D) := bnd f fun ds => lift (rng2 ds)
theorem inB_of {i : Int} (h : inB i = true) : -(2 ^ 62) ≤ i ∧ i < 2 ^ 62 := by
  have h : i.natAbs ≤ 4611686018427387903 := Nat.le_of_ble_eq_true h
  omega
theorem di_rng1 {tg a : Expr} {p : Pos} {fa : Mo (List D)} (hm : X.mg "range" = none) (ha : DA Φ X [a] fa) (hg : Gl X "range" := by rfl) (hs : starEach [a] X.env = [(false, eval a X.env)] := by rfl) :
    DI Rep Φ X tg (.Call (.Name "range" p) [a] [] pos) (rngM1 fa) := PI.imp (pi_range1 hg hm ha hs) fun σ H R ⟨ρ, μ, C, os, R0, z⟩ =>
  ⟨ρ, μ, C, os, R0, PostI.bndA z fun d ds vs H1 C1 os1 e _ q k => by
    cases q with
    | nil => cases e
    | cons h t =>
      cases t with
      | cons _ _ => cases h <;> cases e
      | nil =>
        cases h with
        | int j =>
          simp only [rng1] at e
          split at e
          · rename_i hb
            cases e
            refine ⟨j, rfl, (inB_of hb).1, (inB_of hb).2, ?_⟩
            have w := it_range (r := rc Φ X C1 os1 H1) 0 j.toNat
            have e2 : (j - 0).toNat = j.toNat := by omega
            unfold rngL at k
            rw [e2] at k
            exact k _ w
          · cases e
        | _ => cases e⟩
theorem di_rng2 {tg a b : Expr} {p : Pos} {fa : Mo (List D)} (hm : X.mg "range" = none) (ha : DA Φ X [a, b] fa) (hg : Gl X "range" := by rfl) (hs : starEach [a, b] X.env = [(false, eval a X.env), (false, eval b X.env)] := by rfl) (hs2 : starEach [b] X.env = [(false, eval b X.env)] := by rfl) :
    DI Rep Φ X tg (.Call (.Name "range" p) [a, b] [] pos) (rngM2 fa) := PI.imp (pi_range2 hg hm ha hs hs2) fun σ H R ⟨ρ, μ, C, os, R0, z⟩ =>
  ⟨ρ, μ, C, os, R0, PostI.bndA z fun d ds vs H1 C1 os1 e _ q k => by
    cases q with
    | nil => cases e
    | cons h t =>
      cases t with
      | nil => cases h <;> cases e
      | cons h2 t2 =>
        cases t2 with
        | cons _ _ => cases h <;> cases h2 <;> cases e
        | nil =>
          cases h <;> first
            | (cases e; done)
            | (cases h2 <;> first
                | (cases e; done)
                | (simp only [rng2] at e
                   split at e
                   · rename_i hb
                     rw [Bool.and_eq_true] at hb
                     cases e
                     exact ⟨_, _, rfl, ⟨(inB_of hb.1).1, (inB_of hb.1).2, (inB_of hb.2).1, (inB_of hb.2).2⟩, k _ (it_range _ _)⟩
                   · cases e))⟩
/-! zip of two lists or two tuples -/
def zipL (xs ys : List D) : List D := (xs.zip ys).map fun p => .tup [p.1, p.2]
def zipD : List D → Option (List D)
  | [.lst xs, .lst ys] => some (zipL xs ys)
  | [.tup xs, .tup ys] => some (zipL xs ys)
  | _ => none
def zipM (f : Mo (List D)) : Mo (List D) := bnd f fun ds => lift (zipD ds)
theorem zipL_get {xs ys : List D} {i : Nat} {d : D} (h : (zipL xs ys)[i]? = some d) : ∃ x y, xs[i]? = some x ∧ ys[i]? = some y ∧ d = .tup [x, y] := by
  unfold zipL at h
  rw [List.getElem?_map] at h
  cases q : (xs.zip ys)[i]? with
  | none => rw [q] at h; cases h
  | some p =>
    rw [q] at h
    cases h
    obtain ⟨h1, h2⟩ := List.getElem?_zip_eq_some.mp q
    exact ⟨p.1, p.2, h1, h2, rfl⟩
theorem zipL_len (xs ys : List D) : (zipL xs ys).length = min xs.length ys.length := by simp [zipL]
theorem it_zipL {r : RC} {a b : Addr} {vs ws : List V} {xs ys : List D} (ha : r.H a = some (.lst vs)) (na : ¬ r.A a) (hb : r.H b = some (.lst ws)) (nb : ¬ r.A b) (qa : Reps r vs xs) (qb : Reps r ws ys) : ItOk RepU (Itz r.K a b) r (zipL xs ys) where
  go := fun i r' S hi => by
    rw [zipL_len] at hi
    obtain ⟨v, e, _⟩ := qa.get (List.getElem?_eq_getElem (show i < xs.length by omega))
    obtain ⟨w, e', _⟩ := qb.get (List.getElem?_eq_getElem (show i < ys.length by omega))
    exact ⟨vs, ws, v, w, .of (S.h _ _ ha na), .of (S.h _ _ hb nb), e, e'⟩
  yl := fun i r' x H' d S hn e ⟨T, x1, y1, ex, hT, eH, k1, k2⟩ => by
    subst ex eH
    obtain ⟨d1, d2, g1, g2, rfl⟩ := zipL_get e
    obtain ⟨v, e3, e4⟩ := qa.get g1
    obtain ⟨w, e5, e6⟩ := qb.get g2
    have e7 := k1 vs (.of (S.h _ _ ha na))
    have e8 := k2 ws (.of (S.h _ _ hb nb))
    rw [e3] at e7; cases e7
    rw [e5] at e8; cases e8
    exact ⟨Grow.upd hT, .inr ⟨T, _, _, rfl, rfl, upd_same, hn T hT, Reps.step (Grow.stp (Grow.upd hT)) (.cons (e4.stq S) (.cons (e6.stq S) .nil))⟩⟩
  st := fun r' S => ⟨vs, ws, .of (S.h _ _ ha na), .of (S.h _ _ hb nb), by rw [zipL_len, qa.length, qb.length]; omega⟩
theorem it_zipT {r : RC} {a b : Addr} {vs ws : List V} {xs ys : List D} (ha : r.Tup a vs) (hb : r.Tup b ws) (qa : Reps r vs xs) (qb : Reps r ws ys) : ItOk RepU (RZ.ItzT r.K a b) r (zipL xs ys) where
  go := fun i r' S hi => by
    rw [zipL_len] at hi
    obtain ⟨v, e, _⟩ := qa.get (List.getElem?_eq_getElem (show i < xs.length by omega))
    obtain ⟨w, e', _⟩ := qb.get (List.getElem?_eq_getElem (show i < ys.length by omega))
    exact ⟨vs, ws, v, w, S.k ▸ (S.tup ha).sq, S.k ▸ (S.tup hb).sq, e, e'⟩
  yl := fun i r' x H' d S hn e ⟨T, x1, y1, ex, hT, eH, k1, k2⟩ => by
    subst ex eH
    obtain ⟨d1, d2, g1, g2, rfl⟩ := zipL_get e
    obtain ⟨v, e3, e4⟩ := qa.get g1
    obtain ⟨w, e5, e6⟩ := qb.get g2
    have e7 := k1 vs (S.k ▸ (S.tup ha).sq)
    have e8 := k2 ws (S.k ▸ (S.tup hb).sq)
    rw [e3] at e7; cases e7
    rw [e5] at e8; cases e8
    exact ⟨Grow.upd hT, .inr ⟨T, _, _, rfl, rfl, upd_same, hn T hT, Reps.step (Grow.stp (Grow.upd hT)) (.cons (e4.stq S) (.cons (e6.stq S) .nil))⟩⟩
  st := fun r' S => ⟨vs, ws, S.k ▸ (S.tup ha).sq, S.k ▸ (S.tup hb).sq, by rw [zipL_len, qa.length, qb.length]; omega⟩
theorem di_zip {a b : Expr} {p tpos : Pos} {elts : List Expr} {kk : Nat} {fa : Mo (List D)} (hm : X.mg "zip" = none) (ha : DA Φ X [a, b] fa) (hg : Gl X "zip" := by rfl) (hs : starEach [a, b] X.env = (false, eval a X.env) :: starEach [b] X.env := by rfl)
    (hpl : (backTo pos (starEach [b] X.env)).any (·.1) = false := by rfl) : DI RepU Φ X (.Tuple elts kk tpos) (.Call (.Name "zip" p) [a, b] [] pos) (zipM fa) := PI.imp (RZ.pi_zipA hg hm ha hs hpl) fun σ H R ⟨ρ, μ, C, os, R0, z⟩ =>
  ⟨ρ, μ, C, os, R0, PostI.bndA z fun d ds vs H1 C1 os1 e hn q k => by
    cases q with
    | nil => cases e
    | cons h t =>
      cases t with
      | nil => cases h <;> cases e
      | cons h2 t2 =>
        cases t2 with
        | cons _ _ => cases h <;> cases h2 <;> cases e
        | nil =>
          cases h with
          | @lst a1 vs1 ds1 g1 n1 q1 =>
            cases h2 with
            | @lst a2 vs2 ds2 g2 n2 q2 =>
              cases e
              exact ⟨a1, a2, vs1, vs2, rfl, .inl ⟨.of g1, .of g2, k _ (it_zipL g1 n1 g2 n2 q1 q2)⟩⟩
            | _ => cases e
          | @tup a1 vs1 ds1 g1 q1 =>
            cases h2 with
            | @tup a2 vs2 ds2 g2 q2 =>
              cases e
              exact ⟨a1, a2, vs1, vs2, rfl, .inr ⟨g1.sq, g2.sq, k _ (it_zipT g1 g2 q1 q2)⟩⟩
            | _ => cases e
          | _ => cases h2 <;> cases e⟩
end
end L2.DL

/-! DL9: for, while, list comprehensions. -/
namespace L2.DL
open PySem PySem.Spec PyProof.Rows
section
variable {Φ : Ctx} {X : Cx} {a b c e : Expr} {f g k : Mo D} {pos : Pos} {fs gs : Mo Fl} {ft : Mo Bool}
/-! ### for -/
def forL (gt : D → Mo Unit) (body : Mo Fl) : List D → Mo Fl
  | [] => ret .nx
  | d :: ds => bnd (gt d) fun _ => bnd body fun fl => match fl with
    | .nx => forL gt body ds
    | .ct => forL gt body ds
    | .bk => ret .nx
    | .rt v => ret (.rt v)
    | .ro v => ret (.ro v)
def forM (fi : Mo (List D)) (gt : D → Mo Unit) (body : Mo Fl) : Mo Fl := bnd fi fun ds => forL gt body ds
theorem ds_for {U : Vr} {tg iter : Expr} {body : List Stmt} {fi : Mo (List D)} {gt : D → Mo Unit} {n : Nat} (cn : Cn Φ X n) (hi : DI U Φ X tg iter fi) (hg : DG U Φ X tg gt) (hx : NoEx gt) (hb : DSs Φ X body fs)
    (hs : ∀ x, foldedSetIterable iter X.env x = pure x := by intro _; rfl) : DS Φ X (.For tg iter body [] pos) (forM fi gt fs) := PS.imp (ps_for cn.po cn.calm hi hg hb hs) fun D σ H ⟨ρ, μ, C, os, R, z⟩ => by
  refine ⟨ρ, μ, C, os, R, ?_⟩
  unfold forM bnd at z
  cases e : fi ρ μ with
  | no => rw [e] at z; exact z.elim
  | ex c ns ds ρ1 μ1 => rw [e] at z; exact fun Cc dx H' C' os' R S g e => z Cc dx σ H' C' os' R S g e
  | ok ds ρ1 μ1 =>
    rw [e] at z
    intro J H1 C1 os1 R1 S1 hJ
    have z := PostS.from S1 z
    let W : Nat → Nat → L2.St → Hp → Prop := fun i m σ H => m = ds.length - i ∧ i ≤ ds.length ∧ ∃ ρ μ C os, Rl Φ X ρ μ C os σ H ∧ Stp (rc Φ X C1 os1 H1) (rc Φ X C os H) ∧ PostS Φ X C os H (forL gt fs (ds.drop i) ρ μ) D
    refine ⟨W, ⟨ds.length, rfl, Nat.zero_le _, ρ1, μ1, C1, os1, R1, Stp.refl _, z⟩, ?_⟩
    rintro i m σ2 H2 ⟨rfl, hi, ρ2, μ2, C2, os2, R2, S2, z2⟩
    by_cases hlt : i < ds.length
    · refine .inr ⟨hJ.go i _ S2.q hlt, fun σ' H' => W (i + 1) (ds.length - (i + 1)) σ' H', fun σ' H' h => ⟨ds.length - (i + 1), by omega, h⟩, fun x H3 hy => ?_⟩
      obtain ⟨gr, rep⟩ := hJ.yl i _ x H3 ds[i] S2.q R2.fr (List.getElem?_eq_getElem hlt) hy
      have R3 : Rl Φ X ρ2 μ2 C2 os2 σ2 H3 := R2.grow gr
      have S3 : Stp (rc Φ X C2 os2 H2) (rc Φ X C2 os2 H3) := stp_grow gr
      have z3 := PostS.from S3 z2
      rw [List.drop_eq_getElem_cons hlt] at z3
      refine ⟨ρ2, μ2, C2, os2, ds[i], R3, rep, ?_⟩
      have z3 : PostS Φ X C2 os2 H3 (bnd (gt ds[i]) (fun _ => bnd fs fun fl => match fl with
        | .nx => forL gt fs (ds.drop (i + 1))
        | .ct => forL gt fs (ds.drop (i + 1))
        | .bk => ret .nx
        | .rt v => ret (.rt v)
        | .ro v => ret (.ro v)) ρ2 μ2) D := z3
      unfold bnd at z3
      cases e1 : gt ds[i] ρ2 μ2 with
      | no => rw [e1] at z3; exact z3
      | ex c ns es ρ3 μ3 => exact (hx _ _ _ _ _ _ _ _ e1).elim
      | ok u ρ3 μ3 =>
        rw [e1] at z3
        intro σ4 H4 C4 os4 R4 S4
        refine ⟨ρ3, μ3, C4, os4, R4, ?_⟩
        have z4 := PostS.from S4 z3
        cases e2 : fs ρ3 μ3 with
        | no => simp only [e2] at z4; exact z4
        | ex c ns es ρ5 μ5 => simp only [e2] at z4; exact z4
        | ok fl ρ5 μ5 =>
          simp only [e2] at z4
          intro σ5 H5 C5 os5 R5 S5
          have S6 := ((S2.trans S3).trans S4).trans S5
          cases fl with
          | nx => exact ⟨rfl, hlt, ρ5, μ5, C5, os5, R5, S6, PostS.from S5 z4⟩
          | ct => exact ⟨rfl, hlt, ρ5, μ5, C5, os5, R5, S6, PostS.from S5 z4⟩
          | bk => exact z4 σ5 H5 C5 os5 R5 S5
          | rt d => exact z4 σ5 H5 C5 os5 R5 S5
          | ro d => exact z4 σ5 H5 C5 os5 R5 S5
    · have ei : i = ds.length := by omega
      subst ei
      rw [List.drop_length] at z2
      exact .inl ⟨hJ.st _ S2.q, retS R2 z2⟩

/-! ### while -/
def whileN (t : Mo Bool) (body : Mo Fl) : Nat → Mo Fl
  | 0 => no
  | n + 1 => bnd t fun b => if b then bnd body fun fl => match fl with
    | .nx => whileN t body n
    | .ct => whileN t body n
    | .bk => ret .nx
    | .rt v => ret (.rt v)
    | .ro v => ret (.ro v) else ret .nx
open Classical in
noncomputable def whileM (t : Mo Bool) (body : Mo Fl) : Mo Fl := fun ρ μ => if h : ∃ n, whileN t body n ρ μ ≠ .no then whileN t body (Classical.choose h) ρ μ else .no
theorem whileN_mono {t : Mo Bool} {body : Mo Fl} : ∀ {n : Nat} {ρ : Env} {μ : Sto}, whileN t body n ρ μ ≠ .no → whileN t body (n + 1) ρ μ = whileN t body n ρ μ
  | 0, _, _, h => (h rfl).elim
  | n + 1, ρ, μ, h => by
    have e1 : ∀ m, whileN t body (m + 1) ρ μ = bnd t (fun b => if b then bnd body fun fl => match fl with
        | .nx => whileN t body m
        | .ct => whileN t body m
        | .bk => ret .nx
        | .rt v => ret (.rt v)
        | .ro v => ret (.ro v) else ret .nx) ρ μ := fun _ => rfl
    rw [e1] at h
    rw [e1, e1]
    unfold bnd at h ⊢
    cases e : t ρ μ with
    | no => rfl
    | ex c ns ds ρ1 μ1 => rfl
    | ok b ρ1 μ1 =>
      simp only [e] at h ⊢
      cases b with
      | false => rfl
      | true =>
        simp only [if_true] at h ⊢
        cases e2 : body ρ1 μ1 with
        | no => rfl
        | ex c ns ds ρ2 μ2 => rfl
        | ok fl ρ2 μ2 =>
          simp only [e2] at h ⊢
          cases fl with
          | nx => exact whileN_mono h
          | ct => exact whileN_mono h
          | bk => rfl
          | rt v => rfl
          | ro v => rfl
theorem whileN_le {t : Mo Bool} {body : Mo Fl} {n : Nat} {ρ : Env} {μ : Sto} (h : whileN t body n ρ μ ≠ .no) : ∀ k, whileN t body (n + k) ρ μ = whileN t body n ρ μ
  | 0 => rfl
  | k + 1 => by
    have ih := whileN_le h k
    rw [← Nat.add_assoc, whileN_mono (by rw [ih]; exact h), ih]
theorem whileM_of {t : Mo Bool} {body : Mo Fl} {n : Nat} {ρ : Env} {μ : Sto} {r : O Fl} (h : whileN t body n ρ μ = r) (hr : r ≠ .no) : whileM t body ρ μ = r := by
  have hn : whileN t body n ρ μ ≠ .no := by rw [h]; exact hr
  have he : ∃ n, whileN t body n ρ μ ≠ .no := ⟨n, hn⟩
  unfold whileM
  rw [dif_pos he]
  have hc := Classical.choose_spec he
  rcases Nat.le_total n (Classical.choose he) with q | q
  · obtain ⟨k, e⟩ := Nat.exists_eq_add_of_le q
    rw [e, whileN_le hn k, h]
  · obtain ⟨k, e⟩ := Nat.exists_eq_add_of_le q
    rw [← whileN_le hc k, ← e, h]
theorem ds_while {test : Expr} {body : List Stmt} {n : Nat} (cn : Cn Φ X n) (ht : DT Φ X test ft) (hb : DSs Φ X body fs) : DS Φ X (.While test body [] pos) (whileM ft fs) := PS.imp (ps_while cn.po ht hb) fun D σ H ⟨ρ, μ, C, os, R, z⟩ => by
  unfold whileM at z
  split at z
  · rename_i h
    refine ⟨fun m σ H => ∃ ρ μ C os, Rl Φ X ρ μ C os σ H ∧ PostS Φ X C os H (whileN ft fs m ρ μ) D, ⟨_, ρ, μ, C, os, R, z⟩, ?_⟩
    rintro m σ1 H1 ⟨ρ1, μ1, C1, os1, R1, z1⟩
    cases m with
    | zero => exact z1.elim
    | succ m =>
      refine ⟨ρ1, μ1, C1, os1, R1, PostS.bndT (f := ft) z1 fun b ρ2 μ2 H2 C2 os2 R2 S2 z2 => ?_⟩
      cases b with
      | false => exact (if_neg Bool.false_ne_true).mpr (retS R2 z2)
      | true =>
        refine (if_pos rfl).mpr ⟨fun σ' H' => ∃ ρ μ C os, Rl Φ X ρ μ C os σ' H' ∧ PostS Φ X C os H' (whileN ft fs m ρ μ) D, fun σ' H' h => ⟨m, Nat.lt_succ_self m, h⟩, ρ2, μ2, C2, os2, R2, ?_⟩
        have z2 : PostS Φ X C2 os2 H2 (bnd fs (fun fl => match fl with
          | .nx => whileN ft fs m
          | .ct => whileN ft fs m
          | .bk => ret .nx
          | .rt v => ret (.rt v)
          | .ro v => ret (.ro v)) ρ2 μ2) D := z2
        unfold bnd at z2
        cases e2 : fs ρ2 μ2 with
        | no => rw [e2] at z2; exact z2
        | ex c ns es ρ5 μ5 => rw [e2] at z2; exact z2
        | ok fl ρ5 μ5 =>
          rw [e2] at z2
          intro σ5 H5 C5 os5 R5 S5
          cases fl with
          | nx => exact ⟨ρ5, μ5, C5, os5, R5, PostS.from S5 z2⟩
          | ct => exact ⟨ρ5, μ5, C5, os5, R5, PostS.from S5 z2⟩
          | bk => exact z2 σ5 H5 C5 os5 R5 S5
          | rt d => exact z2 σ5 H5 C5 os5 R5 S5
          | ro d => exact z2 σ5 H5 C5 os5 R5 S5
  · exact z.elim

/-! ### comprehensions: the block's own names are wiped -/
def Ctx.nx (Φ : Ctx) : Ctx := { Φ with W := fun _ _ _ _ => False }
def wipD (ρ : Env) : List Nat → Env
  | [] => ρ
  | v :: vs => (wipD ρ vs).set v none
def shO : Option (Option Ent) → Option Ent
  | some (some (.sh d)) => some (.sh d)
  | _ => none
/-- behind the block: the wiped names as they were, if shared -/
def resD (ρ0 ρ : Env) : List Nat → Env
  | [] => ρ
  | v :: vs => (resD ρ0 ρ vs).set v (shO ρ0[v]?)
theorem wip_len (ρ : Env) : ∀ vs, (wipD ρ vs).length = ρ.length
  | [] => rfl
  | v :: vs => by unfold wipD; rw [List.length_set, wip_len ρ vs]
theorem res_len (ρ0 ρ : Env) : ∀ vs, (resD ρ0 ρ vs).length = ρ.length
  | [] => rfl
  | v :: vs => by unfold resD; rw [List.length_set, res_len ρ0 ρ vs]
theorem wip_some {ρ : Env} {i : Nat} {t : Ent} : ∀ {vs : List Nat}, (wipD ρ vs)[i]? = some (some t) → ρ[i]? = some (some t) ∧ i ∉ vs
  | [], h => ⟨h, by simp⟩
  | v :: vs, h => by
    unfold wipD at h
    by_cases hi : v = i
    · subst hi
      by_cases hv : v < (wipD ρ vs).length
      · rw [List.getElem?_set_self hv] at h; cases h
      · rw [List.getElem?_eq_none (by simpa using hv)] at h; cases h
    · rw [List.getElem?_set_ne hi] at h
      obtain ⟨h1, h2⟩ := wip_some h
      exact ⟨h1, by simp only [List.mem_cons, not_or]; exact ⟨fun e => hi e.symm, h2⟩⟩
theorem wipe_out' {σ : L2.St} {i : Nat} : ∀ {vs : List Nat}, i ∉ vs → (wipe σ vs)[i]? = σ[i]?
  | [], _ => rfl
  | v :: vs, h => by
    unfold wipe
    simp only [List.mem_cons, not_or] at h
    rw [List.getElem?_set_ne (Ne.symm h.1)]
    exact wipe_out' h.2
theorem wipe_in {σ : L2.St} {i : Nat} : ∀ {vs : List Nat}, i ∈ vs → i < σ.length → (wipe σ vs)[i]? = some none
  | [], h, _ => by cases h
  | v :: vs, h, hl => by
    unfold wipe
    by_cases hv : v = i
    · subst hv
      rw [List.getElem?_set_self (by rw [wipe_length]; exact hl)]
    · rw [List.getElem?_set_ne hv]
      rcases List.mem_cons.mp h with z | z
      · exact (hv z.symm).elim
      · exact wipe_in z hl
theorem wipe_set {σ : L2.St} {i : Nat} {v : Option V} {vs : List Nat} (h : i ∈ vs) : wipe (σ.set i v) vs = wipe σ vs := by
  apply List.ext_getElem?
  intro j
  by_cases hj : j ∈ vs
  · by_cases hl : j < σ.length
    · rw [wipe_in hj (by rw [List.length_set]; exact hl), wipe_in hj hl]
    · rw [List.getElem?_eq_none (by rw [wipe_length, List.length_set]; omega), List.getElem?_eq_none (by rw [wipe_length]; omega)]
  · rw [wipe_out' hj, wipe_out' hj, List.getElem?_set_ne (fun e => hj (by rw [← e]; exact h))]
theorem wipe_wipe (σ : L2.St) (vs : List Nat) : wipe (wipe σ vs) vs = wipe σ vs := by
  apply List.ext_getElem?
  intro j
  by_cases hj : j ∈ vs
  · by_cases hl : j < σ.length
    · rw [wipe_in hj (by rw [wipe_length]; exact hl), wipe_in hj hl]
    · rw [List.getElem?_eq_none (by rw [wipe_length, wipe_length]; omega), List.getElem?_eq_none (by rw [wipe_length]; omega)]
  · rw [wipe_out' hj]
theorem Rl.wipe {ρ : Env} {μ : Sto} {C : List Addr} {os : Os} {σ : L2.St} {H : Hp} (R : Rl Φ X ρ μ C os σ H) (vs : List Nat) : Rl Φ X (wipD ρ vs) μ C os (L2.wipe σ vs) H where
  len := by rw [wip_len, wipe_length]; exact R.len
  env := fun i t h => by
    obtain ⟨h1, h2⟩ := wip_some h
    obtain ⟨v, h3, h4⟩ := R.env i t h1
    exact ⟨v, by rw [wipe_out' h2]; exact h3, h4⟩
  sto := R.sto
  own := R.own
  fre := R.fre
  pre := R.pre
  cfr := R.cfr
  cnd := R.cnd
  clv := R.clv
  frm := R.frm
  alv := R.alv
theorem res_some {ρ0 ρ : Env} {i : Nat} {t : Ent} : ∀ {vs : List Nat}, (resD ρ0 ρ vs)[i]? = some (some t) → (i ∈ vs ∧ ∃ d, t = .sh d ∧ ρ0[i]? = some (some (.sh d))) ∨ (i ∉ vs ∧ ρ[i]? = some (some t))
  | [], h => .inr ⟨by simp, h⟩
  | v :: vs, h => by
    unfold resD at h
    by_cases hi : v = i
    · subst hi
      by_cases hv : v < (resD ρ0 ρ vs).length
      · rw [List.getElem?_set_self hv] at h
        have h := Option.some.inj h
        unfold shO at h
        split at h
        · rename_i d e
          cases h
          exact .inl ⟨List.mem_cons_self, d, rfl, e⟩
        · cases h
      · rw [List.getElem?_eq_none (by simpa using hv)] at h; cases h
    · rw [List.getElem?_set_ne hi] at h
      rcases res_some h with ⟨h1, h2⟩ | ⟨h1, h2⟩
      · exact .inl ⟨List.mem_cons_of_mem _ h1, h2⟩
      · exact .inr ⟨by simp only [List.mem_cons, not_or]; exact ⟨fun e => hi e.symm, h1⟩, h2⟩
/-- the block is left -/
theorem Rl.unwipe {ρ0 ρ : Env} {μ0 μ : Sto} {C0 C : List Addr} {os0 os : Os} {σ : L2.St} {H0 H : Hp} {vs : List Nat} (R0 : Rl Φ X ρ0 μ0 C0 os0 σ H0) (S : Stp (rc Φ X C0 os0 H0) (rc Φ X C os H)) (R : Rl Φ X ρ μ C os (L2.wipe σ vs) H) :
    Rl Φ X (resD ρ0 ρ vs) μ C os σ H where
  len := by rw [res_len, R.len, wipe_length]
  env := fun i t h => by
    rcases res_some h with ⟨h1, d, rfl, h2⟩ | ⟨h1, h2⟩
    · obtain ⟨v, h3, h4⟩ := R0.env i _ h2
      exact ⟨v, h3, Rep.step S h4⟩
    · obtain ⟨v, h3, h4⟩ := R.env i t h2
      exact ⟨v, by rw [wipe_out' h1] at h3; exact h3, h4⟩
  sto := R.sto
  own := R.own
  fre := R.fre
  pre := R.pre
  cfr := R.cfr
  cnd := R.cnd
  clv := R.clv
  frm := R.frm
  alv := R.alv
theorem Rl.wW {Φ : Ctx} {K : PySem.W.Frag} {mg : Str → Option Value} {ρ : Env} {μ : Sto} {C : List Addr} {os : Os} {σ : L2.St} {H : Hp} (R : RlK Φ K mg ρ μ C os σ H) (w : WX) : RlK { Φ with W := w } K mg ρ μ C os σ H :=
  ⟨R.len, fun i t h => by
    obtain ⟨v, h1, h2⟩ := R.env i t h
    refine ⟨v, h1, ?_⟩
    cases t with
    | sh d => exact h2
    | ow d => exact h2
    | bd c ns ds => exact h2
    | eh c ns ds => exact h2, R.sto, R.own, R.fre, R.pre, R.cfr, R.cnd, R.clv, R.frm, R.alv⟩
theorem Rl.unW {Φ : Ctx} {K : PySem.W.Frag} {mg : Str → Option Value} {ρ : Env} {μ : Sto} {C : List Addr} {os : Os} {σ : L2.St} {H : Hp} {w : WX} (R : RlK { Φ with W := w } K mg ρ μ C os σ H) : RlK Φ K mg ρ μ C os σ H := Rl.wW R Φ.W
end
end L2.DL

/-! DL10: [e for t in w if c]. -/
namespace L2.DL
open PySem PySem.Spec PyProof.Rows
section
variable {Φ : Ctx} {X : Cx} {a b c e : Expr} {f g k : Mo D} {pos : Pos} {ft : Mo Bool}
/-! ### targets that store block names alone -/
def PostGp (Φ : Ctx) (X : Cx) (vs : List Nat) (σ : L2.St) (C : List Addr) (os : Os) (H : Hp) (o : O Unit) (Q : L2.St → Hp → Prop) : Prop := match o with
  | .ok _ ρ' μ' => ∀ σ' H' C' os', Rl Φ X ρ' μ' C' os' σ' H' → Stp (rc Φ X C os H) (rc Φ X C' os' H') → wipe σ' vs = wipe σ vs → Q σ' H'
  | _ => False
def cGp (U : Vr) (Φ : Ctx) (X : Cx) (vs : List Nat) (g : D → Mo Unit) : TG := fun v σ H Q => ∃ ρ μ C os d, Rl Φ X ρ μ C os σ H ∧ U (rc Φ X C os H) v d ∧ PostGp Φ X vs σ C os H (g d ρ μ) Q
def cGsp (Φ : Ctx) (X : Cx) (vs : List Nat) (g : List D → Mo Unit) : TGs := fun ws σ H Q => ∃ ρ μ C os ds, Rl Φ X ρ μ C os σ H ∧ Reps (rc Φ X C os H) ws ds ∧ PostGp Φ X vs σ C os H (g ds ρ μ) Q
def DGp (U : Vr) (Φ : Ctx) (X : Cx) (vs : List Nat) (tg : Expr) (g : D → Mo Unit) : Prop := PG X tg (cGp U Φ X vs g)
def DGsp (Φ : Ctx) (X : Cx) (vs : List Nat) (tgs : List Expr) (g : List D → Mo Unit) : Prop := PGs X tgs (cGsp Φ X vs g)
variable {vs : List Nat}
theorem dgp_name {i : Nat} {x : Str} (hN : X.N.Nodup) (hm : i ∈ vs := by decide) (hi : X.N[i]? = some x := by rfl) (hx : Loc X.env.scope x := by first | exact Or.inl rfl | exact Or.inr rfl)
    (hf : X.fn x = true ∨ X.env.scope.names.lookup x = some .local := by first | exact .inl rfl | exact .inr rfl) : DGp Rep Φ X vs (.Name x pos) (tgN i) :=
  PG.imp (pg_name hN hi hx hf) fun v σ H Q ⟨ρ, μ, C, os, d, R, q, z⟩ => z _ _ C os (R.setv (t := .sh d) q) (Stp.refl _) (wipe_set hm)
theorem dgsp_nil : DGsp Φ X vs [] tgNil := PGs.imp pgs_nil fun ws σ H Q ⟨ρ, μ, C, os, ds, R, q, z⟩ => by
  cases q with
  | nil => exact ⟨rfl, z _ _ C os R (Stp.refl _) rfl⟩
  | cons h t => exact z.elim
theorem dgsp_cons {e : Expr} {es : List Expr} {g : D → Mo Unit} {gs : List D → Mo Unit} (h1 : DGp Rep Φ X vs e g) (h2 : DGsp Φ X vs es gs) (hs : (assignEach (e :: es) X.env).map (·.2) = assign e X.env :: (assignEach es X.env).map (·.2) := by rfl) : DGsp Φ X vs (e :: es) (tgCons g gs) :=
  PGs.imp (pgs_cons h1 h2 hs) fun ws σ H Q ⟨ρ, μ, C, os, ds, R, q, z⟩ => by
    cases q with
    | nil => exact z.elim
    | @cons v d ws ds h t =>
      refine ⟨v, ws, rfl, ρ, μ, C, os, d, R, h, ?_⟩
      have z : PostGp Φ X vs σ C os H (bnd (g d) (fun _ => gs ds) ρ μ) Q := z
      unfold bnd at z
      cases e1 : g d ρ μ with
      | no => rw [e1] at z; exact z.elim
      | ex c ns ds ρ1 μ1 => rw [e1] at z; exact z.elim
      | ok u ρ1 μ1 =>
        rw [e1] at z
        intro σ1 H1 C1 os1 R1 S1 w1
        refine ⟨ρ1, μ1, C1, os1, ds, R1, t.step S1, ?_⟩
        cases e2 : gs ds ρ1 μ1 with
        | no => simp only [e2] at z; exact z.elim
        | ex c ns ds ρ1 μ1 => simp only [e2] at z; exact z.elim
        | ok u ρ2 μ2 =>
          simp only [e2] at z
          exact fun σ' H' C' os' R2 S2 w2 => z σ' H' C' os' R2 (S1.trans S2) (w2.trans w1)
theorem dgp_tup {es : List Expr} {n : Nat} {m : Nat} {gs : List D → Mo Unit} (hc : X.calm = true) (h : DGsp Φ X vs es gs) (hn : (assignEach es X.env).length = n := by rfl) (hst : (assignEach es X.env).findIdx? (·.1) = none := by rfl) :
    DGp RepU Φ X vs (.Tuple es m pos) (tgT n gs) := PG.imp (pg_tup hc h hn hst) fun v σ H Q ⟨ρ, μ, C, os, d, R, q, z⟩ => by
  have fin : ∀ {a : Addr} {ws : List V} {ds : List D}, SqT X.K H a ws → Reps (rc Φ X C os H) ws ds → PostGp Φ X vs σ C os H ((if ds.length = n then gs ds else no) ρ μ) Q → gTup X.K n (cGsp Φ X vs gs) (.ref a) σ H Q := fun {a ws ds} hT qs z => by
    by_cases hl : ds.length = n
    · rw [if_pos hl] at z
      exact ⟨a, ws, rfl, hT, by rw [qs.length]; exact hl, ρ, μ, C, os, ds, R, qs, z⟩
    · rw [if_neg hl] at z
      exact z.elim
  rcases q with q | ⟨a, ws, ds, rfl, rfl, hH, _, qs⟩
  · cases q with
    | @tup a ws ds hT qs => exact fin hT.sq qs z
    | _ => exact z.elim
  · exact fin (.of hH) qs z
theorem DGp.rep {tg : Expr} {g : D → Mo Unit} (h : DGp RepU Φ X vs tg g) : DGp Rep Φ X vs tg g := PG.imp h fun v σ H Q ⟨ρ, μ, C, os, d, R, q, z⟩ => ⟨ρ, μ, C, os, d, R, .inl q, z⟩

/-! ### the tests of a clause -/
def DTs (Φ : Ctx) (X : Cx) (es : List Expr) (f : Mo Bool) : Prop := PTs X es (cT Φ X f)
theorem dts_nil : DTs Φ X [] (ret true) := ⟨fun pins s σ H Q I ⟨ρ, μ, C, os, R, z⟩ => pts_nil.run pins s σ H Q I (retT R z)⟩
theorem dts_one (h : DT Φ X c ft) : DTs Φ X [c] ft := pts_one h

/-- a thing under way is let go -/
theorem Rl.rel {ρ : Env} {μ : Sto} {C : List Addr} {os : Os} {σ : L2.St} {H : Hp} {p : Addr} (R : Rl Φ X ρ μ C os σ H) (hm : (none, p) ∈ os) : Rl Φ X ρ μ C (noA p os) σ H ∧ Stq (rc Φ X C os H) (rc Φ X C (noA p os) H) := by
  have keep : ∀ {j : Nat} {b : Addr}, (some j, b) ∈ os → (some j, b) ∈ noA p os := fun {j b} z => mem_noA.mpr ⟨z, fun e => by
    have q := R.own (some j) none p (e ▸ z) hm
    cases q⟩
  have S : Stq (rc Φ X C os H) (rc Φ X C (noA p os) H) := ⟨rfl, rfl, fun b z => by
    rcases z with z | z | ⟨j, z⟩
    · exact .inl (.inl z)
    · exact .inl (.inr (.inl z))
    · exact .inl (.inr (.inr ⟨j, (mem_noA.mp z).1⟩)), ⟨[], by simp [rcK]⟩, fun b o z _ => z⟩
  have own : ∀ {a : Addr} {d : D}, OwnR (rc Φ X C os H) a d → OwnR (rc Φ X C (noA p os) H) a d := fun {a d} h => by
    cases d with
    | lst ds => obtain ⟨vs, e, q⟩ := h; exact ⟨vs, e, q.stq S⟩
    | dct ks ds => obtain ⟨kvs, e, e2, q⟩ := h; exact ⟨kvs, e, e2, q.stq S⟩
    | _ => exact h.elim
  have bd : ∀ {a : Addr} {c : Str} {ns : List Str} {ds : List D}, BdR (rc Φ X C os H) a c ns ds → BdR (rc Φ X C (noA p os) H) a c ns ds := fun ⟨Cc, dx, fs, h, m, e, q⟩ => ⟨Cc, dx, fs, h, m, e, q.stq S⟩
  refine ⟨⟨R.len, fun i t h => ?_, ⟨R.sto.1, fun n b c h1 h2 => ?_⟩, fun i j b z1 z2 => R.own i j b (mem_noA.mp z1).1 (mem_noA.mp z2).1, fun i b z => R.fre i b (mem_noA.mp z).1, R.pre, R.cfr, R.cnd, R.clv, R.frm, R.alv⟩, S⟩
  · obtain ⟨v, h1, h2⟩ := R.env i t h
    refine ⟨v, h1, ?_⟩
    cases t with
    | sh d => exact Rep.stq S h2
    | ow d =>
      obtain ⟨b, e1, e2, e3⟩ := h2
      exact ⟨b, e1, keep e2, own e3⟩
    | bd c ns ds =>
      obtain ⟨b, e1, e2, e3⟩ := h2
      exact ⟨b, e1, keep e2, bd e3⟩
    | eh c ns ds =>
      obtain ⟨b, dx, e1, e2, fs, e3, e4, e5, e6⟩ := h2
      exact ⟨b, dx, e1, e2, fs, e3, S.na e3 e4, e5, e6.stq S⟩
  · have h := R.sto.2 n b c h1 h2
    cases c with
    | lst ds => obtain ⟨vs, e, q⟩ := h; exact ⟨vs, e, q.stq S⟩
    | dct ks ds => obtain ⟨kvs, e, e2, q⟩ := h; exact ⟨kvs, e, e2, q.stq S⟩
    | ins c ns ds => exact bd h
/-- a thing under way is changed -/
theorem Rl.mutB {ρ : Env} {μ : Sto} {C : List Addr} {os : Os} {σ : L2.St} {H : Hp} {p : Addr} (R : Rl Φ X ρ μ C os σ H) (hm : (none, p) ∈ os) (o : HO) : Rl Φ X ρ μ C os σ (upd H p o) ∧ Stq (rc Φ X C os H) (rc Φ X C os (upd H p o)) := by
  obtain ⟨f1, f2, f3, o0, h0⟩ := R.fre _ p hm
  have ne : ∀ {b : Addr} {u : HO}, b ≠ p → H b = some u → upd H p o b = some u := fun nb z => by rw [upd_ne nb]; exact z
  have S : Stq (rc Φ X C os H) (rc Φ X C os (upd H p o)) := ⟨rfl, rfl, fun b z => .inl z, ⟨[], by simp [rcK]⟩, fun b u z n => ne (fun e => n (by rw [e]; exact .inr (.inr ⟨_, hm⟩))) z⟩
  have live : ∀ b u, H b = some u → ∃ u', upd H p o b = some u' := fun b u z => by
    by_cases hb : b = p
    · exact ⟨o, by rw [hb]; exact upd_same⟩
    · exact ⟨u, ne hb z⟩
  have nos : ∀ {j : Nat} {b : Addr}, (some j, b) ∈ os → b ≠ p := fun z e => by
    have q := R.own (some _) none p (e ▸ z) hm
    cases q
  have own : ∀ {a : Addr} {d : D}, a ≠ p → OwnR (rc Φ X C os H) a d → OwnR (rc Φ X C os (upd H p o)) a d := fun {a d} na h => by
    cases d with
    | lst ds => obtain ⟨vs, e, q⟩ := h; exact ⟨vs, ne na e, q.stq S⟩
    | dct ks ds => obtain ⟨kvs, e, e2, q⟩ := h; exact ⟨kvs, ne na e, e2, q.stq S⟩
    | _ => exact h.elim
  have bd : ∀ {a : Addr} {c : Str} {ns : List Str} {ds : List D}, a ≠ p → BdR (rc Φ X C os H) a c ns ds → BdR (rc Φ X C os (upd H p o)) a c ns ds := fun na ⟨Cc, dx, fs, h, m, e, q⟩ => ⟨Cc, dx, fs, ne na h, m, e, q.stq S⟩
  refine ⟨⟨R.len, fun i t h => ?_, ⟨R.sto.1, fun n b c h1 h2 => ?_⟩, R.own, fun i b z => ?_, R.pre, R.cfr, R.cnd, fun b z => let ⟨u, e⟩ := R.clv b z; live b u e, fun b u h1 h2 h3 => ?_, fun b z => let ⟨u, e⟩ := R.alv b z; live b u e⟩, S⟩
  · obtain ⟨v, h1, h2⟩ := R.env i t h
    refine ⟨v, h1, ?_⟩
    cases t with
    | sh d => exact Rep.stq S h2
    | ow d =>
      obtain ⟨b, e1, e2, e3⟩ := h2
      exact ⟨b, e1, e2, own (nos e2) e3⟩
    | bd c ns ds =>
      obtain ⟨b, e1, e2, e3⟩ := h2
      exact ⟨b, e1, e2, bd (nos e2) e3⟩
    | eh c ns ds =>
      obtain ⟨b, dx, e1, e2, fs, e3, e4, e5, e6⟩ := h2
      exact ⟨b, dx, e1, e2, fs, S.h _ _ e3 e4, S.na e3 e4, e5, e6.stq S⟩
  · have h := R.sto.2 n b c h1 h2
    have na : b ≠ p := fun e => f2 (e ▸ List.mem_of_getElem? h1)
    cases c with
    | lst ds => obtain ⟨vs, e, q⟩ := h; exact ⟨vs, ne na e, q.stq S⟩
    | dct ks ds => obtain ⟨kvs, e, e2, q⟩ := h; exact ⟨kvs, ne na e, e2, q.stq S⟩
    | ins c ns ds => exact bd na h
  · obtain ⟨h1, h2, h3, u, h4⟩ := R.fre i b z
    exact ⟨h1, h2, h3, live b u h4⟩
  · refine ne (fun e => ?_) (R.frm b u h1 h2 h3)
    subst e
    rcases f1 with z | z
    · rw [h1] at z; cases z
    · exact h3 z

/-! ### the rule -/
/-- item by item; acc: what has been kept -/
def lcGo (own : List Nat) (gt : D → Mo Unit) (ft : Mo Bool) (fe : Mo D) : List D → List D → Mo (List D)
  | [], acc => ret acc
  | d :: ds, acc => fun ρ μ => match gt d ρ μ with
    | .ok _ ρ1 μ1 => match ft ρ1 μ1 with
      | .ok true ρ2 μ2 => match fe ρ2 μ2 with
        | .ok v ρ3 μ3 => if acc.length < lineN then lcGo own gt ft fe ds (acc ++ [v]) (wipD ρ3 own) μ3 else .no
        | _ => .no
      | .ok false ρ2 μ2 => lcGo own gt ft fe ds acc (wipD ρ2 own) μ2
      | _ => .no
    | _ => .no
def lcAll (own : List Nat) (gt : D → Mo Unit) (ft : Mo Bool) (fe : Mo D) (ds : List D) : Mo D := fun ρ μ => match lcGo own gt ft fe ds [] (wipD ρ own) μ with
  | .ok vs ρ' μ' => .ok (.lst vs) (resD ρ ρ' own) μ'
  | _ => .no
def lcM (own : List Nat) (fi : Mo (List D)) (gt : D → Mo Unit) (ft : Mo Bool) (fe : Mo D) : Mo D := bnd fi fun ds => lcAll own gt ft fe ds
/-- what holds of the list at p behind a block -/
def LcEnd (Φ : Ctx) (X : Cx) (own : List Nat) (σ : L2.St) (r1 : RC) (p : Addr) (K : List D → Env → Sto → List V → Hp → List Addr → Os → Prop) (o : O (List D)) : Prop := match o with
  | .ok vs ρ' μ' => ∀ accV H' C' os', Rl Φ X ρ' μ' C' os' (wipe σ own) H' → (none, p) ∈ os' → H' p = some (.lst accV) → Reps (rc Φ X C' os' H') accV vs → Stp r1 (rc Φ X C' os' H') → K vs ρ' μ' accV H' C' os'
  | _ => False
theorem stp_mutB {r1 : RC} {C : List Addr} {os : Os} {H : Hp} {p : Addr} (S : Stp r1 (rc Φ X C os H)) (hp : r1.H p = none) (o : HO) : Stp r1 (rc Φ X C os (upd H p o)) := by
  have ne : ∀ {b : Addr} {u w : HO}, r1.H b = some w → H b = some u → upd H p o b = some u := fun {b u w} h z => by
    rw [upd_ne (fun e => by rw [e, hp] at h; cases h)]
    exact z
  exact ⟨S.k, S.g, S.a, S.c, fun b u h n => ne h (S.h b u h n), fun b u h => let ⟨u', e⟩ := S.l b u h; ⟨u', ne h e⟩, S.m, fun b u h n => ne h (S.n b u h n)⟩
theorem lc_run {U : Vr} {own : List Nat} {gt : D → Mo Unit} {ft : Mo Bool} {fe : Mo D} {g : TG} {tt : TT} {te : TE} {σ : L2.St} {H1 : Hp} {C1 : List Addr} {os1 : Os} {ρ1 : Env} {μ1 : Sto} {J : It} {ds : List D} {p : Addr} {Qd : Hp → Prop}
    (hg : g = cGp U Φ.nx X own gt) (ht : tt = cT Φ.nx X ft) (he : te = cE Φ.nx X fe) (R1 : Rl Φ X ρ1 μ1 C1 os1 σ H1) (hJ : ItOk U J (rc Φ X C1 os1 H1) ds) (hp : H1 p = none)
    (z : LcEnd Φ X own σ (rc Φ X C1 os1 H1) p (fun vs ρ' μ' accV H' C' os' => Qd H') (lcGo own gt ft fe ds [] (wipD ρ1 own) μ1)) :
    ∃ W : Nat → Nat → Hp → Prop, (∃ m, W 0 m (upd H1 p (.lst []))) ∧ ∀ i m H, W i m H →
      (J.stop i H ∧ Qd H) ∨ (J.go i H ∧ ∃ Nx : Hp → Prop, (∀ H', Nx H' → ∃ m', m' < m ∧ W (i + 1) m' H') ∧ ∀ x H', J.yld i H x H' → g x (wipe σ own) H' fun σ2 H2 => wipe σ2 own = wipe σ own ∧ tt σ2 H2 fun b H3 =>
        if b = true then te σ2 H3 fun y H4 => ∃ acc, H4 p = some (.lst acc) ∧ acc.length < sizeLine ∧ Nx (upd H4 p (.lst (acc ++ [y]))) else Nx H3) := by
  subst hg ht he
  let r1 := rc Φ X C1 os1 H1
  let W : Nat → Nat → Hp → Prop := fun i m H => m = ds.length - i ∧ i ≤ ds.length ∧ ∃ ρ μ C os acc accV, Rl Φ X ρ μ C os (wipe σ own) H ∧ (none, p) ∈ os ∧ H p = some (.lst accV) ∧ Reps (rc Φ X C os H) accV acc ∧ Stp r1 (rc Φ X C os H) ∧
    LcEnd Φ X own σ r1 p (fun vs ρ' μ' accV H' C' os' => Qd H') (lcGo own gt ft fe (ds.drop i) acc ρ μ)
  refine ⟨W, ⟨ds.length, rfl, Nat.zero_le _, wipD ρ1 own, μ1, C1, (none, p) :: os1, [], [], (R1.add none hp).wipe own, List.mem_cons_self, upd_same, .nil, stp_add hp, z⟩, ?_⟩
  rintro i m H ⟨rfl, hi, ρ, μ, C, os, acc, accV, R, hm, hH, qa, S, z⟩
  by_cases hlt : i < ds.length
  · refine .inr ⟨hJ.go i _ S.q hlt, fun H' => W (i + 1) (ds.length - (i + 1)) H', fun H' h => ⟨ds.length - (i + 1), by omega, h⟩, fun x H2 hy => ?_⟩
    obtain ⟨gr, rep⟩ := hJ.yl i _ x H2 ds[i] S.q R.fr (List.getElem?_eq_getElem hlt) hy
    have R2 : Rl Φ X ρ μ C os (wipe σ own) H2 := R.grow gr
    have S2 : Stp (rc Φ X C os H) (rc Φ X C os H2) := stp_grow gr
    rw [List.drop_eq_getElem_cons hlt] at z
    unfold lcGo at z
    refine ⟨ρ, μ, C, os, ds[i], Rl.wW R2 _, rep, ?_⟩
    cases e1 : gt ds[i] ρ μ with
    | no => simp only [e1] at z; exact z.elim
    | ex c ns es ρ3 μ3 => simp only [e1] at z; exact z.elim
    | ok u ρ3 μ3 =>
      simp only [e1] at z
      intro σ3 H3 C3 os3 R3 S3 hw
      have hw : wipe σ3 own = wipe σ own := by rw [hw, wipe_wipe]
      refine ⟨hw, ρ3, μ3, C3, os3, R3, ?_⟩
      cases e2 : ft ρ3 μ3 with
      | no => simp only [e2] at z; exact z.elim
      | ex c ns es ρ4 μ4 => simp only [e2] at z; exact z.elim
      | ok b ρ4 μ4 =>
        intro H4 C4 os4 R4 S4
        have T4 : Stp (rc Φ X C os H) (rc Φ X C4 os4 H4) := (S2.trans S3).trans S4
        cases b with
        | false =>
          simp only [e2] at z
          refine (if_neg Bool.false_ne_true).mpr ⟨rfl, hlt, wipD ρ4 own, μ4, C4, os4, acc, accV, ?_, T4.m p hm, T4.n p _ hH hm, qa.step T4, S.trans T4, z⟩
          have q := Rl.wipe (Φ := Φ) (X := X) (Rl.unW R4) own
          rw [hw] at q
          exact q
        | true =>
          simp only [e2] at z
          refine (if_pos rfl).mpr ⟨ρ4, μ4, C4, os4, R4, ?_⟩
          cases e3 : fe ρ4 μ4 with
          | no => simp only [e3] at z; exact z.elim
          | ex c ns es ρ5 μ5 => simp only [e3] at z; exact z.elim
          | ok v ρ5 μ5 =>
            simp only [e3] at z
            intro y H5 C5 os5 R5 S5 q5
            have T5 : Stp (rc Φ X C os H) (rc Φ X C5 os5 H5) := T4.trans S5
            have q6 := qa.step T5
            split at z
            · rename_i hl
              have R6 := Rl.wipe (Φ := Φ) (X := X) (Rl.unW R5) own
              rw [hw] at R6
              obtain ⟨R7, S7⟩ := R6.mutB (T5.m p hm) (.lst (accV ++ [y]))
              exact ⟨accV, T5.n p _ hH hm, by rw [q6.length, line_eq]; exact hl, rfl, hlt, wipD ρ5 own, μ5, C5, os5, acc ++ [v], accV ++ [y], R7, T5.m p hm, upd_same, (q6.append (.one q5)).stq S7, stp_mutB (S.trans T5) hp _, z⟩
            · exact z.elim
  · have ei : i = ds.length := by omega
    subst ei
    rw [List.drop_length] at z
    exact .inl ⟨hJ.st _ S.q, z accV H C os R hm hH qa S⟩
/-- behind the block: the list is given out -/
theorem lc_out {own : List Nat} {σ : L2.St} {H1 H : Hp} {C1 C : List Addr} {os1 os : Os} {ρ1 ρ : Env} {μ1 μ : Sto} {p : Addr} {accV : List V} {vs : List D} (R1 : Rl Φ X ρ1 μ1 C1 os1 σ H1) (hp : H1 p = none) (R : Rl Φ X ρ μ C os (wipe σ own) H) (hm : (none, p) ∈ os)
    (hH : H p = some (.lst accV)) (qa : Reps (rc Φ X C os H) accV vs) (S : Stp (rc Φ X C1 os1 H1) (rc Φ X C os H)) :
    Rl Φ X (resD ρ1 ρ own) μ C (noA p os) σ H ∧ Stp (rc Φ X C1 os1 H1) (rc Φ X C (noA p os) H) ∧ Rep (rc Φ X C (noA p os) H) (.ref p) (.lst vs) := by
  obtain ⟨R2, S2⟩ := R.rel hm
  have S3 : Stp (rc Φ X C1 os1 H1) (rc Φ X C (noA p os) H) := ⟨rfl, rfl, fun b z => by
    rcases z with z | z | ⟨j, z⟩
    · exact S.a b (.inl z)
    · exact S.a b (.inr (.inl z))
    · exact S.a b (.inr (.inr ⟨j, (mem_noA.mp z).1⟩)), S.c, S.h, S.l, fun b z => mem_noA.mpr ⟨S.m b z, fun e => by
      obtain ⟨_, _, _, u, e2⟩ := R1.fre none b z
      rw [e, hp] at e2; cases e2⟩, S.n⟩
  refine ⟨R1.unwipe S3 R2, S3, .lst hH ?_ (qa.stq S2)⟩
  obtain ⟨_, h2, h3, _⟩ := R.fre none p hm
  rintro (z | z | ⟨j, z⟩)
  · exact h3 z
  · exact h2 z
  · exact (mem_noA.mp z).2 rfl
theorem lcI {U : Vr} {own : List Nat} {fi : Mo (List D)} {gt : D → Mo Unit} {ft : Mo Bool} {fe : Mo D} {σ : L2.St} {H : Hp} {Q : VK} (z : cE Φ X (lcM own fi gt ft fe) σ H Q) : tLc (cI U Φ X fi) (cGp U Φ.nx X own gt) (cT Φ.nx X ft) (cE Φ.nx X fe) own σ H Q := by
  obtain ⟨ρ, μ, C, os, R, z⟩ := z
  refine ⟨ρ, μ, C, os, R, ?_⟩
  unfold lcM bnd at z
  cases e : fi ρ μ with
  | no => rw [e] at z; exact z.elim
  | ex c ns ds ρ1 μ1 => rw [e] at z; exact z
  | ok ds ρ1 μ1 =>
    rw [e] at z
    intro J H1 C1 os1 R1 S1 hJ p hp
    have z : PostE Φ X C os σ H (lcAll own gt ft fe ds ρ1 μ1) Q := z
    have z := PostE.from S1 z
    refine lc_run (U := U) (Qd := fun H => Q (.ref p) H) rfl rfl rfl R1 hJ hp ?_
    unfold lcAll at z
    cases e2 : lcGo own gt ft fe ds [] (wipD ρ1 own) μ1 with
    | no => rw [e2] at z; exact z
    | ex c ns es ρ2 μ2 => rw [e2] at z; exact z
    | ok vs ρ2 μ2 =>
      rw [e2] at z
      intro accV H2 C2 os2 R2 hm hH qa S
      obtain ⟨R3, S3, q3⟩ := lc_out R1 hp R2 hm hH qa S
      exact z _ _ _ _ R3 S3 q3
theorem de_lc {U : Vr} {tg iter : Expr} {ifs : List Expr} {scope : Scope} {own : List (Str × Nat)} {fi : Mo (List D)} {gt : D → Mo Unit} {ft : Mo Bool} {fe : Mo D} {vs : List Nat} {n : Nat} (cn : Cn Φ X n) (ok : BlkOk X.N X.env.scope scope own) (hvs : own.map (·.2) = vs) (hi : DI U Φ X tg iter fi)
    (hg : ∀ (s : Shared) (H : Hp) (C : Addr) (cl : List (Str × Addr)) (fp : List Addr), DGp U Φ.nx (X.blk s H scope (compEnvC scope cl C X.env) fp) vs tg gt) (ht : ∀ (s : Shared) (H : Hp) (C : Addr) (cl : List (Str × Addr)) (fp : List Addr), DTs Φ.nx (X.blk s H scope (compEnvC scope cl C X.env) fp) ifs ft)
    (he : ∀ (s : Shared) (H : Hp) (C : Addr) (cl : List (Str × Addr)) (fp : List Addr), DE Φ.nx (X.blk s H scope (compEnvC scope cl C X.env) fp) e fe) (hs : ∀ x, foldedSetIterable iter X.env x = pure x := by intro _; rfl) :
    DE Φ X (.ListComp e [⟨tg, iter, ifs, 0⟩] scope pos) (lcM vs fi gt ft fe) := by
  subst hvs
  exact PE.imp (pe_lc (g := cGp U Φ.nx X (own.map fun y : Str × Nat => y.2) gt) (tt := cT Φ.nx X ft) (te := cE Φ.nx X fe) cn.calm cn.nd hi ok hg ht he hs) fun σ H Q z => lcI z
end
end L2.DL

/-! DL11: built-in functions, types and methods. -/
namespace L2.DL
open PySem PySem.Spec PyProof.Rows
/-- a built-in upon one value -/
def Cal1 (X : Cx) (r : List V → Hp → VK → Prop) (h : D → Option D) : Prop := ∀ (q : RC) (x : V) (d1 d : D) (Q : VK), q.K = X.K → q.mg = X.mg → (∀ p, q.H p = none → ¬ q.A p) → RepW q x d1 → h d1 = some d →
  (∀ v H', Grow q.H H' → Rep (q.at H') v d → Q v H') → r [x] q.H Q
/-- a built-in upon some values -/
def CalN (X : Cx) (r : List V → Hp → VK → Prop) (h : List D → Option D) : Prop := ∀ (q : RC) (xs : List V) (ds : List D) (d : D) (Q : VK), q.K = X.K → q.mg = X.mg → (∀ p, q.H p = none → ¬ q.A p) → Reps q xs ds → h ds = some d →
  (∀ v H', Grow q.H H' → Rep (q.at H') v d → Q v H') → r xs q.H Q
section
variable {Φ : Ctx} {X : Cx} {a b c e : Expr} {es : List Expr} {f g k : Mo D} {fa : Mo (List D)} {pos p apos : Pos} {x : Str} {id T : String} {r : List V → Hp → VK → Prop} {h : D → Option D} {hn : List D → Option D}
def opN (h : List D → Option D) (f : Mo (List D)) : Mo D := bnd f fun ds => lift (h ds)
theorem run_c1 (hD : Cal1 X r h) {σ : L2.St} {H : Hp} {Q : VK} (z : cE Φ X (op1 h f) σ H Q) : tCB r (tCons (cB Φ X f) tNil) σ H Q := by
  obtain ⟨ρ, μ, C, os, R, z⟩ := z
  refine ⟨ρ, μ, C, os, R, cB_bnd z fun d1 ρ1 μ1 x H1 C1 os1 R1 S1 q1 z1 => ?_⟩
  obtain ⟨d, e, k⟩ := lift_ok R1 z1
  exact hD (rc Φ X C1 os1 H1) x d1 d Q rfl rfl R1.fr q1 e k
theorem run_cN (hD : CalN X r hn) {σ : L2.St} {H : Hp} {Q : VK} (z : cE Φ X (opN hn fa) σ H Q) : tCB r (cA Φ X fa) σ H Q := by
  obtain ⟨ρ, μ, C, os, R, z⟩ := z
  refine ⟨ρ, μ, C, os, R, PostE.bndA z fun ds ρ1 μ1 vs H1 C1 os1 R1 S1 q1 z1 => ?_⟩
  obtain ⟨d, e, k⟩ := lift_ok R1 z1
  exact hD (rc Φ X C1 os1 H1) vs ds d Q rfl rfl R1.fr q1 e k
theorem de_b1 (hc : CallR X (.builtin id) r) (hD : Cal1 X r h) (hm : X.mg x = none) (hv : bootBuiltins x = some (.builtin id)) (ha : DB Φ X e f) (hg : Gl X x) (hx : x ≠ "__name__") (hdb : (x == ("__debug__" : Str)) = false)
    (he : starEach (e :: []) X.env = (false, eval e X.env) :: starEach [] X.env) (hpl : (backTo pos (starEach [] X.env)).any (·.1) = false) : DE Φ X (.Call (.Name x p) [e] [] pos) (op1 h f) :=
  PE.imp (pe_callB hc hg hm hv (pa_cons ha pa_nil he) hx hdb he hpl) fun σ H Q z => run_c1 hD z
theorem de_t1 (hc : CallR X (.type T) r) (hD : Cal1 X r h) (hm : X.mg x = none) (hv : bootBuiltins x = some (.type T)) (ha : DB Φ X e f) (hg : Gl X x) (hx : x ≠ "__name__") (hdb : (x == ("__debug__" : Str)) = false)
    (he : starEach (e :: []) X.env = (false, eval e X.env) :: starEach [] X.env) (hpl : (backTo pos (starEach [] X.env)).any (·.1) = false) : DE Φ X (.Call (.Name x p) [e] [] pos) (op1 h f) :=
  PE.imp (pe_callTy hc hg hm hv (pa_cons ha pa_nil he) hx hdb he hpl) fun σ H Q z => run_c1 hD z
theorem de_bN (hc : CallR X (.builtin id) r) (hD : CalN X r hn) (hm : X.mg x = none) (hv : bootBuiltins x = some (.builtin id)) (ha : DA Φ X (e :: es) fa) (hg : Gl X x) (hx : x ≠ "__name__") (hdb : (x == ("__debug__" : Str)) = false)
    (he : starEach (e :: es) X.env = (false, eval e X.env) :: starEach es X.env) (hpl : (backTo pos (starEach es X.env)).any (·.1) = false) : DE Φ X (.Call (.Name x p) (e :: es) [] pos) (opN hn fa) :=
  PE.imp (pe_callB hc hg hm hv ha hx hdb he hpl) fun σ H Q z => run_cN hD z

/-! ### len, abs, int, max, min, all, any, sum, list, tuple, sorted -/
def lenD : D → Option D
  | .str s => if s.length ≤ lineN then some (.int s.length) else none
  | .lst ds | .tup ds | .frz ds => some (.int ds.length)
  | .dct ks _ => some (.int ks.length)
  | _ => none
theorem cd_len : Cal1 X (fun xs H Q => (∃ x n, xs = [x] ∧ LenV X.K x H n ∧ Q (.int n) H) ∨ ∃ d kvs, xs = [.ref d] ∧ H d = some (.dK kvs) ∧ Q (.int kvs.length) H) lenD := by
  intro q x d1 d Q hK _ _ h1 e k
  cases d1 with
  | str s =>
    simp only [lenD] at e
    split at e
    · rename_i hl
      cases e
      exact .inl ⟨x, s.length, rfl, by rw [h1.str]; exact ⟨by rw [line_eq]; exact hl, rfl⟩, k _ _ (Grow.refl _) (.int _)⟩
    · cases e
  | lst ds =>
    obtain ⟨a, vs, rfl, ha, qa⟩ := h1.lst
    cases e
    exact .inl ⟨_, ds.length, rfl, .inl ⟨vs, .of ha, qa.length.symm⟩, k _ _ (Grow.refl _) (.int _)⟩
  | frz ds =>
    obtain ⟨a, vs, rfl, ha, qa⟩ := h1.frz
    cases e
    exact .inl ⟨_, ds.length, rfl, .inl ⟨vs, hK ▸ ha.sq, qa.length.symm⟩, k _ _ (Grow.refl _) (.int _)⟩
  | tup ds =>
    obtain ⟨a, vs, rfl, ha, qa⟩ := h1.tup
    cases e
    exact .inl ⟨_, ds.length, rfl, .inr ⟨vs, hK ▸ ha.sq, qa.length.symm⟩, k _ _ (Grow.refl _) (.int _)⟩
  | dct ks ds =>
    obtain ⟨a, kvs, rfl, ha, hk, qa⟩ := h1.dct
    cases e
    subst hk
    refine .inr ⟨a, kvs, rfl, ha, ?_⟩
    have w := k (.int kvs.length) _ (Grow.refl _)
    rw [List.length_map] at w
    exact w (.int _)
  | _ => cases e
theorem de_len (hm : X.mg "len" = none) (ha : DB Φ X e f) (hg : Gl X "len" := by rfl) (he : starEach (e :: []) X.env = (false, eval e X.env) :: starEach [] X.env := by rfl) (hpl : (backTo pos (starEach [] X.env)).any (·.1) = false := by rfl) :
    DE Φ X (.Call (.Name "len" p) [e] [] pos) (op1 lenD f) := de_b1 (call_len.or call_lenD) cd_len hm PySem.boot_len ha hg (by decide) (by decide) he hpl
def absD : D → Option D
  | .int i => some (.int (if i < 0 then -i else i))
  | _ => none
theorem cd_abs : Cal1 X (fun xs H Q => ∃ i, xs = [.int i] ∧ Q (.int (if i < 0 then -i else i)) H) absD := by
  intro q x d1 d Q _ _ _ h1 e k
  cases d1 <;> first
    | (cases e; exact ⟨_, by rw [h1.int], k _ _ (Grow.refl _) (.int _)⟩)
    | cases e
theorem de_abs (hm : X.mg "abs" = none) (ha : DB Φ X e f) (hg : Gl X "abs" := by rfl) (he : starEach (e :: []) X.env = (false, eval e X.env) :: starEach [] X.env := by rfl) (hpl : (backTo pos (starEach [] X.env)).any (·.1) = false := by rfl) :
    DE Φ X (.Call (.Name "abs" p) [e] [] pos) (op1 absD f) := de_b1 call_abs cd_abs hm (by decide +kernel) ha hg (by decide) (by decide) he hpl
def intD : D → Option D
  | .int i => some (.int i)
  | .bl b => some (.int (if b then 1 else 0))
  | _ => none
theorem cd_int : Cal1 X (fun xs H Q => (∃ i, xs = [.int i] ∧ Q (.int i) H) ∨ ∃ k, xs = [.bl k] ∧ Q (.int (if k then 1 else 0)) H) intD := by
  intro q x d1 d Q _ _ _ h1 e k
  cases d1 <;> first
    | (cases e; exact .inl ⟨_, by rw [h1.int], k _ _ (Grow.refl _) (.int _)⟩)
    | (cases e; exact .inr ⟨_, by rw [h1.bl], k _ _ (Grow.refl _) (.int _)⟩)
    | cases e
theorem de_int1 (hm : X.mg "int" = none) (ha : DB Φ X e f) (hg : Gl X "int" := by rfl) (he : starEach (e :: []) X.env = (false, eval e X.env) :: starEach [] X.env := by rfl) (hpl : (backTo pos (starEach [] X.env)).any (·.1) = false := by rfl) :
    DE Φ X (.Call (.Name "int" p) [e] [] pos) (op1 intD f) := de_t1 call_int1 cd_int hm (by decide +kernel) ha hg (by decide) (by decide) he hpl
def listD : D → Option D
  | .lst ds | .tup ds | .frz ds => some (.lst ds)
  | _ => none
theorem cd_list : Cal1 X (fun xs H Q => ∃ p ys, xs = [.ref p] ∧ (SqL X.K H p ys ∨ SqT X.K H p ys) ∧ ∀ l, H l = none → Q (.ref l) (upd H l (.lst ys))) listD := by
  intro q x d1 d Q hK _ hn h1 e k
  have fin : ∀ {p : Addr} {vs : List V} {ds : List D}, (SqL X.K q.H p vs ∨ SqT X.K q.H p vs) → Reps q vs ds → d = .lst ds → ∃ p' ys, [V.ref p] = [V.ref p'] ∧ (SqL X.K q.H p' ys ∨ SqT X.K q.H p' ys) ∧ ∀ l, q.H l = none → Q (.ref l) (upd q.H l (.lst ys)) := fun hs qa e => by
    subst e
    exact ⟨_, _, rfl, hs, fun l n => k _ _ (Grow.upd n) (NewR.rep (d := .lst _) ⟨_, rfl, qa⟩ n (hn l n))⟩
  cases d1 with
  | lst ds => obtain ⟨a, vs, rfl, ha, qa⟩ := h1.lst; exact fin (.inl (.of ha)) qa (Option.some.inj e).symm
  | frz ds => obtain ⟨a, vs, rfl, ha, qa⟩ := h1.frz; exact fin (.inl (hK ▸ ha.sq)) qa (Option.some.inj e).symm
  | tup ds => obtain ⟨a, vs, rfl, ha, qa⟩ := h1.tup; exact fin (.inr (hK ▸ ha.sq)) qa (Option.some.inj e).symm
  | _ => cases e
theorem de_list (hm : X.mg "list" = none) (ha : DB Φ X e f) (hg : Gl X "list" := by rfl) (he : starEach (e :: []) X.env = (false, eval e X.env) :: starEach [] X.env := by rfl) (hpl : (backTo pos (starEach [] X.env)).any (·.1) = false := by rfl) :
    DE Φ X (.Call (.Name "list" p) [e] [] pos) (op1 listD f) := de_t1 call_list_of cd_list hm (by decide +kernel) ha hg (by decide) (by decide) he hpl
def tupleD : D → Option D
  | .lst ds | .tup ds | .frz ds => some (.tup ds)
  | _ => none
theorem cd_tuple : Cal1 X (fun xs H Q => ∃ p ys, xs = [.ref p] ∧ ((SqL X.K H p ys ∧ NewT ys H Q) ∨ (SqT X.K H p ys ∧ Q (.ref p) H))) tupleD := by
  intro q x d1 d Q hK _ hn h1 e k
  cases d1 with
  | lst ds => obtain ⟨a, vs, rfl, ha, qa⟩ := h1.lst; cases e; exact ⟨a, vs, rfl, .inl ⟨.of ha, newT hn qa k⟩⟩
  | frz ds => obtain ⟨a, vs, rfl, ha, qa⟩ := h1.frz; cases e; exact ⟨a, vs, rfl, .inl ⟨hK ▸ ha.sq, newT hn qa k⟩⟩
  | tup ds => obtain ⟨a, vs, rfl, ha, qa⟩ := h1.tup; cases e; exact ⟨a, vs, rfl, .inr ⟨hK ▸ ha.sq, k _ _ (Grow.refl _) (.tup ha qa)⟩⟩
  | _ => cases e
theorem de_tuple (hm : X.mg "tuple" = none) (ha : DB Φ X e f) (hg : Gl X "tuple" := by rfl) (he : starEach (e :: []) X.env = (false, eval e X.env) :: starEach [] X.env := by rfl) (hpl : (backTo pos (starEach [] X.env)).any (·.1) = false := by rfl) :
    DE Φ X (.Call (.Name "tuple" p) [e] [] pos) (op1 tupleD f) := de_t1 call_tupleX cd_tuple hm (by decide +kernel) ha hg (by decide) (by decide) he hpl
/-- the truths in a list -/
def blsOf : List D → Option (List Bool)
  | [] => some []
  | .bl b :: ds => (blsOf ds).map (b :: ·)
  | _ => none
theorem reps_bls {r : RC} : ∀ {vs : List V} {ds : List D} {bs : List Bool}, Reps r vs ds → blsOf ds = some bs → vs = bs.map V.bl
  | _, _, _, .nil, e => by cases e; rfl
  | _, _, _, .cons h t, e => by
    cases h with
    | bl b =>
      obtain ⟨cs, e2, rfl⟩ := Option.map_eq_some_iff.mp e
      rw [reps_bls t e2]; rfl
    | _ => cases e
def allD : D → Option D
  | .lst ds => (blsOf ds).map fun bs => .bl (bs.all fun y => y)
  | _ => none
def anyD : D → Option D
  | .lst ds => (blsOf ds).map fun bs => .bl (bs.any fun y => y)
  | _ => none
theorem cd_all : Cal1 X (rAll X.K) allD := by
  intro q x d1 d Q _ _ _ h1 e k
  cases d1 with
  | lst ds =>
    obtain ⟨a, vs, rfl, ha, qa⟩ := h1.lst
    obtain ⟨bs, e2, rfl⟩ := Option.map_eq_some_iff.mp e
    exact ⟨a, bs, rfl, .of (by rw [ha, reps_bls qa e2]), k _ _ (Grow.refl _) (.bl _)⟩
  | _ => cases e
theorem cd_any : Cal1 X (rAny X.K) anyD := by
  intro q x d1 d Q _ _ _ h1 e k
  cases d1 with
  | lst ds =>
    obtain ⟨a, vs, rfl, ha, qa⟩ := h1.lst
    obtain ⟨bs, e2, rfl⟩ := Option.map_eq_some_iff.mp e
    exact ⟨a, bs, rfl, .of (by rw [ha, reps_bls qa e2]), k _ _ (Grow.refl _) (.bl _)⟩
  | _ => cases e
theorem de_all (hc : X.calm = true) (hm : X.mg "all" = none) (ha : DB Φ X e f) (hg : Gl X "all" := by rfl) (he : starEach (e :: []) X.env = (false, eval e X.env) :: starEach [] X.env := by rfl) (hpl : (backTo pos (starEach [] X.env)).any (·.1) = false := by rfl) :
    DE Φ X (.Call (.Name "all" p) [e] [] pos) (op1 allD f) := de_b1 (cr_all hc) cd_all hm (by decide +kernel) ha hg (by decide) (by decide) he hpl
theorem de_any (hc : X.calm = true) (hm : X.mg "any" = none) (ha : DB Φ X e f) (hg : Gl X "any" := by rfl) (he : starEach (e :: []) X.env = (false, eval e X.env) :: starEach [] X.env := by rfl) (hpl : (backTo pos (starEach [] X.env)).any (·.1) = false := by rfl) :
    DE Φ X (.Call (.Name "any" p) [e] [] pos) (op1 anyD f) := de_b1 (cr_any hc) cd_any hm (by decide +kernel) ha hg (by decide) (by decide) he hpl
/-- the numbers in a list -/
def intsOf : List D → Option (List Int)
  | [] => some []
  | .int b :: ds => (intsOf ds).map (b :: ·)
  | _ => none
theorem intsOf_map : ∀ ns : List Int, intsOf (ns.map D.int) = some ns
  | [] => rfl
  | n :: ns => by
    show (intsOf (ns.map D.int)).map (n :: ·) = _
    rw [intsOf_map ns]; rfl
theorem reps_ints {r : RC} : ∀ {vs : List V} {ds : List D} {bs : List Int}, Reps r vs ds → intsOf ds = some bs → vs = bs.map V.int
  | _, _, _, .nil, e => by cases e; rfl
  | _, _, _, .cons h t, e => by
    cases h with
    | int b =>
      obtain ⟨cs, e2, rfl⟩ := Option.map_eq_some_iff.mp e
      rw [reps_ints t e2]; rfl
    | _ => cases e
theorem ints_reps {r : RC} : ∀ ns : List Int, Reps r (ns.map V.int) (ns.map D.int)
  | [] => .nil
  | n :: ns => .cons (.int n) (ints_reps ns)
/-- insertion, to say what sorted gives -/
def insI (n : Int) : List Int → List Int
  | [] => [n]
  | m :: ms => if n ≤ m then n :: m :: ms else m :: insI n ms
def srtI : List Int → List Int
  | [] => []
  | n :: ns => insI n (srtI ns)
theorem insI_perm (n : Int) : ∀ ns : List Int, (insI n ns).Perm (n :: ns)
  | [] => List.Perm.refl _
  | m :: ms => by
    unfold insI
    split
    · exact List.Perm.refl _
    · exact ((insI_perm n ms).cons m).trans (List.Perm.swap n m ms)
theorem insI_up (n : Int) : ∀ {ns : List Int}, ns.Pairwise (· ≤ ·) → (insI n ns).Pairwise (· ≤ ·)
  | [], _ => List.pairwise_singleton _ _
  | m :: ms, h => by
    unfold insI
    rw [List.pairwise_cons] at h
    split
    · rename_i hl
      refine List.pairwise_cons.mpr ⟨fun y hy => ?_, List.pairwise_cons.mpr h⟩
      rcases List.mem_cons.mp hy with e | hy
      · rw [e]; exact hl
      · exact Int.le_trans hl (h.1 y hy)
    · rename_i hl
      refine List.pairwise_cons.mpr ⟨fun y hy => ?_, insI_up n h.2⟩
      rcases List.mem_cons.mp ((insI_perm n ms).mem_iff.mp hy) with e | hy
      · rw [e]; omega
      · exact h.1 y hy
theorem srtI_perm : ∀ ns : List Int, (srtI ns).Perm ns
  | [] => List.Perm.refl _
  | n :: ns => (insI_perm n (srtI ns)).trans ((srtI_perm ns).cons n)
theorem srtI_up : ∀ ns : List Int, (srtI ns).Pairwise (· ≤ ·)
  | [] => List.Pairwise.nil
  | n :: ns => insI_up n (srtI_up ns)
theorem srtI_only {ms ns : List Int} (h : ms.Perm ns) (u : ms.Pairwise (· ≤ ·)) : ms = srtI ns :=
  (h.trans (srtI_perm ns).symm).eq_of_pairwise (fun a b _ _ h1 h2 => Int.le_antisymm h1 h2) u (srtI_up ns)
def sortedD : D → Option D
  | .lst ds => (intsOf ds).map fun ns => .lst ((srtI ns).map D.int)
  | _ => none
theorem cd_sorted : Cal1 X (rSortedI X.K) sortedD := by
  intro q x d1 d Q _ _ hn h1 e k
  cases d1 with
  | lst ds =>
    obtain ⟨a, vs, rfl, ha, qa⟩ := h1.lst
    obtain ⟨ns, e2, rfl⟩ := Option.map_eq_some_iff.mp e
    refine ⟨a, ns, rfl, .of (by rw [ha, reps_ints qa e2]), fun ns' p hp hu n => ?_⟩
    have e3 := srtI_only hp hu
    subst e3
    exact k _ _ (Grow.upd n) (NewR.rep (d := .lst _) ⟨_, rfl, ints_reps _⟩ n (hn p n))
  | _ => cases e
theorem de_sorted (hm : X.mg "sorted" = none) (ha : DB Φ X e f) (hg : Gl X "sorted" := by rfl) (he : starEach (e :: []) X.env = (false, eval e X.env) :: starEach [] X.env := by rfl) (hpl : (backTo pos (starEach [] X.env)).any (·.1) = false := by rfl) :
    DE Φ X (.Call (.Name "sorted" p) [e] [] pos) (op1 sortedD f) := de_b1 cr_sortedI cd_sorted hm (by decide +kernel) ha hg (by decide) (by decide) he hpl
def sumD : D → Option D
  | .lst ds => (intsOf ds).map fun ns => .int ns.sum
  | _ => none
theorem cd_sum : Cal1 X (rSum X.K) sumD := by
  intro q x d1 d Q _ _ hn h1 e k
  cases d1 with
  | lst ds =>
    obtain ⟨a, vs, rfl, ha, qa⟩ := h1.lst
    obtain ⟨ns, e2, rfl⟩ := Option.map_eq_some_iff.mp e
    exact ⟨a, ns, rfl, .of (by rw [ha, reps_ints qa e2]), k _ _ (Grow.refl _) (.int _)⟩
  | _ => cases e
theorem de_sum (hc : X.calm = true) (hm : X.mg "sum" = none) (ha : DB Φ X e f) (hg : Gl X "sum" := by rfl) (he : starEach (e :: []) X.env = (false, eval e X.env) :: starEach [] X.env := by rfl) (hpl : (backTo pos (starEach [] X.env)).any (·.1) = false := by rfl) :
    DE Φ X (.Call (.Name "sum" p) [e] [] pos) (op1 sumD f) := de_b1 (cr_sum hc) cd_sum hm (by decide +kernel) ha hg (by decide) (by decide) he hpl
def max2D : List D → Option D
  | [.int i, .int j] => some (.int (if j > i then j else i))
  | _ => none
def min2D : List D → Option D
  | [.int i, .int j] => some (.int (if j < i then j else i))
  | _ => none
theorem cd_max2 : CalN X (fun xs H Q => ∃ i j, xs = [.int i, .int j] ∧ Q (.int (if j > i then j else i)) H) max2D := by
  intro q xs ds d Q _ _ _ h1 e k
  unfold max2D at e
  split at e
  · cases e
    cases h1 with | cons h t => cases t with | cons h2 t2 => cases t2; cases h; cases h2; exact ⟨_, _, rfl, k _ _ (Grow.refl _) (.int _)⟩
  · cases e
theorem cd_min2 : CalN X (fun xs H Q => ∃ i j, xs = [.int i, .int j] ∧ Q (.int (if j < i then j else i)) H) min2D := by
  intro q xs ds d Q _ _ _ h1 e k
  unfold min2D at e
  split at e
  · cases e
    cases h1 with | cons h t => cases t with | cons h2 t2 => cases t2; cases h; cases h2; exact ⟨_, _, rfl, k _ _ (Grow.refl _) (.int _)⟩
  · cases e
theorem de_max2 (hc : X.calm = true) (hm : X.mg "max" = none) (ha : DA Φ X [a, b] fa) (hg : Gl X "max" := by rfl) (he : starEach [a, b] X.env = (false, eval a X.env) :: starEach [b] X.env := by rfl) (hpl : (backTo pos (starEach [b] X.env)).any (·.1) = false := by rfl) :
    DE Φ X (.Call (.Name "max" p) [a, b] [] pos) (opN max2D fa) := de_bN (call_max2 hc) cd_max2 hm (by decide +kernel) ha hg (by decide) (by decide) he hpl
theorem de_min2 (hc : X.calm = true) (hm : X.mg "min" = none) (ha : DA Φ X [a, b] fa) (hg : Gl X "min" := by rfl) (he : starEach [a, b] X.env = (false, eval a X.env) :: starEach [b] X.env := by rfl) (hpl : (backTo pos (starEach [b] X.env)).any (·.1) = false := by rfl) :
    DE Φ X (.Call (.Name "min" p) [a, b] [] pos) (opN min2D fa) := de_bN (call_min2 hc) cd_min2 hm (by decide +kernel) ha hg (by decide) (by decide) he hpl
def strD : D → Option D
  | .int i => if i.natAbs.log2 < 1920 then some (.str (toString i)) else none
  | _ => none
theorem cd_str : Cal1 X (fun xs H Q => ∃ i, xs = [.int i] ∧ i.natAbs.log2 < 1920 ∧ Q (.str (toString i)) H) strD := by
  intro q x d1 d Q _ _ _ h1 e k
  cases d1 with
  | int i =>
    simp only [strD] at e
    split at e
    · cases e
      exact ⟨i, by rw [h1.int], by assumption, k _ _ (Grow.refl _) (.str _)⟩
    · cases e
  | _ => cases e
theorem de_strI (hm : X.mg "str" = none) (ha : DB Φ X e f) (hg : Gl X "str" := by rfl) (he : starEach (e :: []) X.env = (false, eval e X.env) :: starEach [] X.env := by rfl) (hpl : (backTo pos (starEach [] X.env)).any (·.1) = false := by rfl) :
    DE Φ X (.Call (.Name "str" p) [e] [] pos) (op1 strD f) := de_t1 call_str_int cd_str hm (by decide +kernel) ha hg (by decide) (by decide) he hpl
end
end L2.DL

/-! DL12: methods of texts and tuples, isinstance, texts backward, dict displays. -/
namespace L2.DL
open PySem PySem.Spec PyProof.Rows
section
variable {Φ : Ctx} {X : Cx} {a b c e o : Expr} {es : List Expr} {f g k : Mo D} {fa : Mo (List D)} {pos p apos : Pos} {name : Str} {id : String} {r : V → List V → Hp → VK → Prop} {h : D → List D → Option D}
/-- a method by values -/
def MetD (X : Cx) (r : V → List V → Hp → VK → Prop) (h : D → List D → Option D) : Prop := ∀ (q : RC) (x : V) (xs : List V) (d0 : D) (ds : List D) (d : D) (Q : VK), q.K = X.K → q.mg = X.mg → (∀ p, q.H p = none → ¬ q.A p) → Rep q x d0 → Reps q xs ds → h d0 ds = some d →
  (∀ v H', Grow q.H H' → Rep (q.at H') v d → Q v H') → r x xs q.H Q
def isStr : D → Option Unit
  | .str _ => some ()
  | _ => none
def isTup : D → Option Unit
  | .tup _ => some ()
  | _ => none
/-- o.m() of a text -/
def met0 (h : D → List D → Option D) (f : Mo D) : Mo D := bnd f fun x => bnd (lift (isStr x)) fun _ => lift (h x [])
def met1 (h : D → List D → Option D) (f g : Mo D) : Mo D := bnd f fun x => bnd (lift (isStr x)) fun _ => bnd g fun y => lift (h x [y])
theorem isStr_bnd {ρ : Env} {μ : Sto} {C : List Addr} {os : Os} {σ : L2.St} {H : Hp} {v : V} {d : D} {k : Mo D} {Q : VK} (q : Rep (rc Φ X C os H) v d) (z : PostE Φ X C os σ H (bnd (lift (isStr d)) (fun _ => k) ρ μ) Q) : (∃ a, v = .str a) ∧ PostE Φ X C os σ H (k ρ μ) Q := by
  cases q with
  | str s => exact ⟨⟨s, rfl⟩, z⟩
  | _ => exact z.elim
theorem isTup_bnd {ρ : Env} {μ : Sto} {C : List Addr} {os : Os} {σ : L2.St} {H : Hp} {v : V} {d : D} {k : Mo D} {Q : VK} (q : Rep (rc Φ X C os H) v d) (z : PostE Φ X C os σ H (bnd (lift (isTup d)) (fun _ => k) ρ μ) Q) : TupNd X.K H v ∧ PostE Φ X C os σ H (k ρ μ) Q := by
  cases q with
  | tup hT qs => exact ⟨hT.nd, z⟩
  | _ => exact z.elim
theorem de_m0 (slot : Slot "str" name id) (ty : typeOf (.builtin id) = pure (.type "method_descriptor")) (rule : MtR X id r) (hD : MetD X r h) (ho : DE Φ X o f) (hbase : attributeBase o name X.env (eval o X.env) = eval o X.env) (hline : (apos.endLine == pos.line) = true) :
    DE Φ X (.Call (.Attribute o name apos) [] [] pos) (met0 h f) := PE.imp (pe_m0 slot ty rule ho hbase hline) fun σ H Q ⟨ρ, μ, C, os, R, z⟩ =>
  ⟨ρ, μ, C, os, R, PostE.bnd z fun d ρ1 μ1 v H1 C1 os1 R1 S1 q1 z1 => by
    obtain ⟨hs, z2⟩ := isStr_bnd q1 z1
    obtain ⟨d', e, k⟩ := lift_ok R1 z2
    exact ⟨hs, hD (rc Φ X C1 os1 H1) v [] d [] d' Q rfl rfl R1.fr q1 .nil e k⟩⟩
theorem de_m1 (slot : Slot "str" name id) (ty : typeOf (.builtin id) = pure (.type "method_descriptor")) (rule : MtR X id r) (hD : MetD X r h) (ho : DE Φ X o f) (he : DE Φ X e g) (hs : starEach [e] X.env = [(false, eval e X.env)]) (hbase : attributeBase o name X.env (eval o X.env) = eval o X.env)
    (hline : (apos.endLine == pos.line) = true) : DE Φ X (.Call (.Attribute o name apos) [e] [] pos) (met1 h f g) := PE.imp (pe_m1 slot ty rule ho he hs hbase hline) fun σ H Q ⟨ρ, μ, C, os, R, z⟩ =>
  ⟨ρ, μ, C, os, R, PostE.bnd z fun d ρ1 μ1 v H1 C1 os1 R1 S1 q1 z1 => by
    obtain ⟨hs, z2⟩ := isStr_bnd q1 z1
    exact ⟨hs, ρ1, μ1, C1, os1, R1, PostE.bnd z2 fun d2 ρ2 μ2 w H2 C2 os2 R2 S2 q2 z3 => by
      obtain ⟨d', e, k⟩ := lift_ok R2 z3
      exact hD (rc Φ X C2 os2 H2) v [w] d [d2] d' Q rfl rfl R2.fr (q1.step S2) (.one q2) e k⟩⟩
/-! split, join, upper .. -/
def txts (xs : List Str) : List D := xs.map D.str
theorem strs_reps {r : RC} : ∀ xs : List Str, Reps r (xs.map V.str) (txts xs)
  | [] => .nil
  | x :: xs => .cons (.str x) (strs_reps xs)
def strsOf : List D → Option (List Str)
  | [] => some []
  | .str b :: ds => (strsOf ds).map (b :: ·)
  | _ => none
theorem reps_strs {r : RC} : ∀ {vs : List V} {ds : List D} {bs : List Str}, Reps r vs ds → strsOf ds = some bs → vs = bs.map V.str
  | _, _, _, .nil, e => by cases e; rfl
  | _, _, _, .cons h t, e => by
    cases h with
    | str b =>
      obtain ⟨cs, e2, rfl⟩ := Option.map_eq_some_iff.mp e
      rw [reps_strs t e2]; rfl
    | _ => cases e
theorem strsOf_strs : ∀ xs : List Str, strsOf (txts xs) = some xs
  | [] => rfl
  | x :: xs => by
    show (strsOf (txts xs)).map (x :: ·) = _
    rw [strsOf_strs xs]; rfl
def splitD : D → List D → Option D
  | .str a, [.str b] => if (b.length == 0) = false ∧ a.length + 2 ≤ lineN then some (.lst (txts (Txt.split a b))) else none
  | _, _ => none
theorem md_split : MetD X (fun x xs H Q => ∃ a b, x = .str a ∧ xs = [.str b] ∧ (b.length == 0) = false ∧ a.length + 2 ≤ sizeLine ∧ rNewStrs (Txt.split a b) H Q) splitD := by
  intro q x xs d0 ds d Q _ _ hn h0 h1 e k
  unfold splitD at e
  split at e
  · split at e
    · rename_i hl
      cases e
      cases h0
      cases h1 with
      | cons hb t =>
        cases t
        cases hb
        exact ⟨_, _, rfl, rfl, hl.1, by rw [line_eq]; exact hl.2, fun p n => k _ _ (Grow.upd n) (NewR.rep (d := .lst _) ⟨_, rfl, strs_reps _⟩ n (hn p n))⟩
    · cases e
  · cases e
theorem de_split (ho : DE Φ X o f) (he : DE Φ X e g) (hs : starEach [e] X.env = [(false, eval e X.env)] := by rfl) (hbase : attributeBase o "split" X.env (eval o X.env) = eval o X.env := by rfl) (hline : (apos.endLine == pos.line) = true := by rfl) :
    DE Φ X (.Call (.Attribute o "split" apos) [e] [] pos) (met1 splitD f g) := de_m1 F.slot_str_split F.type_str_split mt_split md_split ho he hs hbase hline
def joinD : D → List D → Option D
  | .str a, [.lst ds] => match strsOf ds with
    | some ys => if (ys.map (·.length)).sum + ys.length * a.length ≤ 16777216 then some (.str (Txt.join a ys)) else none
    | none => none
  | _, _ => none
theorem md_join : MetD X (fun x xs H Q => ∃ a p, ∃ ys : List Str, x = .str a ∧ xs = [.ref p] ∧ (SqL X.K H p (ys.map V.str) ∨ SqT X.K H p (ys.map V.str)) ∧ (ys.map (·.length)).sum + ys.length * a.length ≤ 16777216 ∧ Q (.str (Txt.join a ys)) H) joinD := by
  intro q x xs d0 ds d Q _ _ hn h0 h1 e k
  unfold joinD at e
  split at e
  · split at e
    · rename_i ys hy
      split at e
      · rename_i hl
        cases e
        cases h0
        cases h1 with
        | cons hb t =>
          cases t
          cases hb with
          | lst hH n qs => exact ⟨_, _, ys, rfl, rfl, .inl (.of (by rw [hH, reps_strs qs hy])), hl, k _ _ (Grow.refl _) (.str _)⟩
      · cases e
    · cases e
  · cases e
theorem de_join (ho : DE Φ X o f) (he : DE Φ X e g) (hs : starEach [e] X.env = [(false, eval e X.env)] := by rfl) (hbase : attributeBase o "join" X.env (eval o X.env) = eval o X.env := by rfl) (hline : (apos.endLine == pos.line) = true := by rfl) :
    DE Φ X (.Call (.Attribute o "join" apos) [e] [] pos) (met1 joinD f g) := de_m1 F.slot_str_join F.type_str_join mt_join md_join ho he hs hbase hline
def upperD : D → List D → Option D
  | .str a, [] => if a.length ≤ 5592405 then some (.str (Txt.upper a)) else none
  | _, _ => none
theorem md_upper : MetD X (fun x xs H Q => ∃ a, x = .str a ∧ xs = [] ∧ a.length ≤ 5592405 ∧ Q (.str (Txt.upper a)) H) upperD := by
  intro q x xs d0 ds d Q _ _ hn h0 h1 e k
  unfold upperD at e
  split at e
  · split at e
    · cases e
      cases h0
      cases h1
      exact ⟨_, rfl, rfl, by assumption, k _ _ (Grow.refl _) (.str _)⟩
    · cases e
  · cases e
theorem de_upper (ho : DE Φ X o f) (hbase : attributeBase o "upper" X.env (eval o X.env) = eval o X.env := by rfl) (hline : (apos.endLine == pos.line) = true := by rfl) : DE Φ X (.Call (.Attribute o "upper" apos) [] [] pos) (met0 upperD f) :=
  de_m0 F.slot_str_upper F.type_str_upper mt_upper md_upper ho hbase hline
/-! t.index(y) -/
def idxF (y : D) : List D → Nat → Option Nat
  | [], _ => none
  | d :: ds, n => if eqF d y then some n else idxF y ds (n + 1)
theorem idxF_ok {y : D} : ∀ {ds : List D} {n j : Nat}, idxF y ds n = some j → ∃ z, n ≤ j ∧ ds[j - n]? = some z ∧ eqF z y = true ∧ ∀ (m : Nat) (w : D), m < j - n → ds[m]? = some w → eqF w y = false
  | [], _, _, e => by cases e
  | d :: ds, n, j, e => by
    unfold idxF at e
    split at e
    · rename_i h
      cases e
      exact ⟨d, Nat.le_refl _, by rw [Nat.sub_self]; rfl, h, fun m w hm => by omega⟩
    · rename_i h
      obtain ⟨z, h1, h2, h3, h4⟩ := idxF_ok e
      refine ⟨z, by omega, ?_, h3, fun m w hm hw => ?_⟩
      · have e2 : j - n = (j - (n + 1)) + 1 := by omega
        rw [e2]
        simpa using h2
      · cases m with
        | zero =>
          simp at hw
          subst hw
          simpa using h
        | succ m => exact h4 m w (by omega) (by simpa using hw)
def tupIxD : D → List D → Option D
  | .tup ds, [y] => if flatD y && ds.all flatD then (idxF y ds 0).map fun j => .int (j : Nat) else none
  | _, _ => none
theorem md_tupIx : MetD X (rTupIx X.K) tupIxD := by
  intro q x xs d0 ds d Q hK _ hn h0 h1 e k
  unfold tupIxD at e
  split at e
  · split at e
    · rename_i es y hf
      rw [Bool.and_eq_true] at hf
      obtain ⟨j, e2, rfl⟩ := Option.map_eq_some_iff.mp e
      obtain ⟨z, _, h2, h3, h4⟩ := idxF_ok e2
      rw [Nat.sub_zero] at h2 h4
      cases h0 with
      | tup hT qs =>
        cases h1 with
        | cons hy t =>
          cases t
          obtain ⟨w, hw, rw'⟩ := qs.get h2
          have fz : ∀ {i : Nat} {u : D}, es[i]? = some u → flatD u = true := fun hu => List.all_eq_true.mp hf.2 _ (List.mem_of_getElem? hu)
          refine ⟨_, _, _, j, w, rfl, rfl, hK ▸ hT.sq, hy.flat hf.1, qs.flatV hf.2, hw, by rw [rw'.eqF hy (fz h2) hf.1]; exact h3, fun m w' hm hw' => ?_, k _ _ (Grow.refl _) (.int _)⟩
          obtain ⟨d', hd', rd'⟩ := qs.getV hw'
          rw [rd'.eqF hy (fz hd') hf.1]
          exact h4 m d' hm hd'
    · cases e
  · cases e
def metT (h : D → List D → Option D) (f g : Mo D) : Mo D := bnd f fun x => bnd (lift (isTup x)) fun _ => bnd g fun y => lift (h x [y])
theorem de_tupIx (ho : DE Φ X o f) (he : DE Φ X e g) (hs : starEach [e] X.env = (false, eval e X.env) :: starEach [] X.env := by rfl) (hbase : attributeBase o "index" X.env (eval o X.env) = eval o X.env := by rfl)
    (hfew : ((backTo pos (starEach [e] X.env)).all (fun y => !y.1) && (backToKw pos (keywordEach [] X.env)).all (fun y => y.1.isSome) && decide ([e].length + ([] : List Keyword).length + (if ([] : List Keyword).isEmpty then 0 else 1) < 30)) = true := by rfl)
    (hline : (apos.endLine == pos.line) = true := by rfl) (hpl : (backTo pos (starEach [] X.env)).any (·.1) = false := by rfl) : DE Φ X (.Call (.Attribute o "index" apos) [e] [] pos) (metT tupIxD f g) :=
  PE.imp (pe_tm PySem.F.slot_tuple_index PySem.F.type_tuple_index mt_tupIx ho (pa_cons he pa_nil hs) hbase hfew hline hs hpl) fun σ H Q ⟨ρ, μ, C, os, R, z⟩ =>
    ⟨ρ, μ, C, os, R, PostE.bnd z fun d ρ1 μ1 v H1 C1 os1 R1 S1 q1 z1 => by
      obtain ⟨hs, z2⟩ := isTup_bnd q1 z1
      exact ⟨hs, ρ1, μ1, C1, os1, R1, PostE.bnd z2 fun d2 ρ2 μ2 w H2 C2 os2 R2 S2 q2 z3 => by
        obtain ⟨d', e, k⟩ := lift_ok R2 z3
        exact md_tupIx (rc Φ X C2 os2 H2) v [w] d [d2] d' Q rfl rfl R2.fr (q1.step S2) (.one q2) e k⟩⟩

/-! ### isinstance of built-in types -/
def tyN : D → Option String
  | .non => some "NoneType" | .bl _ => some "bool" | .int _ => some "int" | .str _ => some "str" | .tup _ => some "tuple" | .lst _ => some "list" | .frz _ => some "list" | .dct _ _ => some "dict"
  | _ => none
def isT (t T : String) : Bool := t == T || (t == "bool" && T == "int")
def tysD : List String := ["NoneType", "bool", "int", "str", "tuple", "list", "dict"]
theorem kit_tab : (tysD.all fun t => tysD.all fun T => decide (kitB t T = some (isT t T))) = true := by decide +kernel
theorem tyN_mem {d : D} {t : String} (h : tyN d = some t) : t ∈ tysD := by
  cases d <;> (first | (cases h; decide) | cases h)
theorem kit_is {K : PySem.W.Frag} {t T : String} (h1 : t ∈ tysD) (h2 : T ∈ tysD) : PySem.W.kitOne K (.type t) (.type T) = some (isT t T) :=
  kit_ty (of_decide_eq_true (List.all_eq_true.mp (List.all_eq_true.mp kit_tab t h1) T h2))
theorem RepW.ty {q : RC} {x : V} {d : D} {t : String} (h : RepW q x d) (e : tyN d = some t) : TyX q.K q.H x (.type t) := by
  cases d with
  | non => cases e; rw [h.non]; exact .base .non
  | bl b => cases e; rw [h.bl]; exact .base (.bl b)
  | int i => cases e; rw [h.int]; exact .base (.int i)
  | str s => cases e; rw [h.str]; exact .base (.str s)
  | tup ds =>
    obtain ⟨a, vs, rfl, ha, qa⟩ := h.tup
    cases e
    rcases ha with ⟨_, o, ha, _⟩ | ⟨o, its, n, h1, h2, _⟩
    · exact .fTuple ha
    · exact .kTuple h1 h2
  | lst ds => obtain ⟨a, vs, rfl, ha, qa⟩ := h.lst; cases e; exact .base (.lst ha)
  | frz ds =>
    obtain ⟨a, vs, rfl, ha, qa⟩ := h.frz
    cases e
    rcases ha with ⟨_, ha⟩ | ha
    · rcases ha with ha | ⟨o, ha⟩
      · exact .base (.lst ha)
      · exact .base (.frz ha)
    · rcases ha with ha | ⟨o, its, n, h1, h2, _⟩
      · rcases ha with ha | ⟨o, ha⟩ <;> cases ha
      · exact .kList h1 h2
  | dct ks ds => obtain ⟨a, kvs, rfl, ha, hk, qa⟩ := h.dct; cases e; exact .base (.dK ha)
  | ins c ns ds => cases e
  | cell n => cases e
def isiD (Ts : List String) (d : D) : Option D := (tyN d).map fun t => .bl (Ts.any (isT t))
theorem de_isi {T : Str} {S : String} {p2 : Pos} (hm : X.mg "isinstance" = none) (hmT : X.mg T = none) (ha : DB Φ X e f) (hvT : bootBuiltins T = some (.type S) := by decide +kernel) (hS : S ∈ tysD := by decide) (hg : Gl X "isinstance" := by rfl) (hgT : Gl X T := by rfl)
    (h1 : starEach [e, .Name T p2] X.env = (false, eval e X.env) :: starEach [.Name T p2] X.env := by rfl) (h2 : starEach [.Name T p2] X.env = (false, eval (.Name T p2) X.env) :: starEach [] X.env := by rfl)
    (hpl : (backTo pos (starEach [.Name T p2] X.env)).any (·.1) = false := by rfl) (hn : T ≠ "__name__" := by decide) (hdb : (T == ("__debug__" : Str)) = false := by decide) : DE Φ X (.Call (.Name "isinstance" p) [e, .Name T p2] [] pos) (op1 (isiD [S]) f) :=
  PE.imp (pe_callB call_isi hg hm (by decide +kernel) (pa_cons ha (pa_cons (pe_bltn (v := .ty S) hgT hmT hvT rfl hn hdb) pa_nil h2) h1) (by decide) (by decide) h1 hpl) fun σ H Q ⟨ρ, μ, C, os, R, z⟩ =>
    ⟨ρ, μ, C, os, R, cB_bnd z fun d1 ρ1 μ1 x H1 C1 os1 R1 S1 q1 z1 => by
      obtain ⟨d, e, k⟩ := lift_ok R1 z1
      obtain ⟨t, e2, rfl⟩ := Option.map_eq_some_iff.mp e
      refine ⟨x, .ty S, .type t, .type S, isT t S, rfl, .ty S, RepW.ty (q := rc Φ X C1 os1 H1) q1 e2, kit_is (tyN_mem e2) hS, ?_⟩
      have w := k (.bl (isT t S)) H1 (Grow.refl _)
      simp only [List.any_cons, List.any_nil, Bool.or_false] at w
      exact w (.bl _)⟩
theorem de_isi2 {T T' : Str} {S S' : String} {p2 p3 p4 : Pos} {n : Nat} (hm : X.mg "isinstance" = none) (hmT : X.mg T = none) (hmT' : X.mg T' = none) (ha : DE Φ X e f) (hvT : bootBuiltins T = some (.type S) := by decide +kernel) (hvT' : bootBuiltins T' = some (.type S') := by decide +kernel)
    (hS : S ∈ tysD := by decide) (hS' : S' ∈ tysD := by decide) (hg : Gl X "isinstance" := by rfl) (hgT : Gl X T := by rfl) (hgT' : Gl X T' := by rfl)
    (h1 : starEach [e, .Tuple [.Name T p2, .Name T' p3] n p4] X.env = (false, eval e X.env) :: starEach [.Tuple [.Name T p2, .Name T' p3] n p4] X.env := by rfl) (h2 : starEach [.Tuple [.Name T p2, .Name T' p3] n p4] X.env = (false, eval (.Tuple [.Name T p2, .Name T' p3] n p4) X.env) :: starEach [] X.env := by rfl)
    (h3 : starEach [.Name T p2, .Name T' p3] X.env = (false, eval (.Name T p2) X.env) :: starEach [.Name T' p3] X.env := by rfl) (h4 : starEach [.Name T' p3] X.env = (false, eval (.Name T' p3) X.env) :: starEach [] X.env := by rfl)
    (hpl : (backTo pos (starEach [.Tuple [.Name T p2, .Name T' p3] n p4] X.env)).any (·.1) = false := by rfl) (hn : T ≠ "__name__" := by decide) (hdb : (T == ("__debug__" : Str)) = false := by decide) (hn' : T' ≠ "__name__" := by decide) (hdb' : (T' == ("__debug__" : Str)) = false := by decide) :
    DE Φ X (.Call (.Name "isinstance" p) [e, .Tuple [.Name T p2, .Name T' p3] n p4] [] pos) (op1 (isiD [S, S']) f) :=
  PE.imp (pe_callB call_isiT hg hm (by decide +kernel) (pa_cons ha (pa_cons (pe_tup (pa_cons (pe_bltn (v := .ty S) hgT hmT hvT rfl hn hdb) (pa_cons (pe_bltn (v := .ty S') hgT' hmT' hvT' rfl hn' hdb') pa_nil h4) h3)) pa_nil h2) h1) (by decide) (by decide) h1 hpl) fun σ H Q ⟨ρ, μ, C, os, R, z⟩ =>
    ⟨ρ, μ, C, os, R, PostE.bnd z fun d1 ρ1 μ1 x H1 C1 os1 R1 S1 q1 z1 => by
      obtain ⟨d, e, k⟩ := lift_ok R1 z1
      obtain ⟨t, e2, rfl⟩ := Option.map_eq_some_iff.mp e
      refine ⟨by show 2 ≤ sizeLine; decide, fun tp n => ⟨x, tp, [.ty S, .ty S'], .type t, [.type S, .type S'], [S, S'].any (isT t), rfl, upd_same, .cons (.ty S) (.cons (.ty S') .nil), RepW.ty (q := rc Φ X C1 os1 (upd H1 tp (.tup [.ty S, .ty S']))) (.inl (q1.step (stp_grow (Grow.upd n)))) e2, ?_, k _ _ (Grow.upd n) (.bl _)⟩⟩
      refine kitAny_cons (kit_is (tyN_mem e2) hS) (fun hb => kitAny_cons (kit_is (tyN_mem e2) hS') (fun hb' => ?_) fun hb' => ?_) fun hb => ?_
      · simp only [List.any_cons, List.any_nil, hb, hb', Bool.or_false]; exact kitAny_nil
      · simp [List.any_cons, hb']
      · simp [List.any_cons, hb]⟩

/-! ### a text backward -/
def revS (z : Str) : Str := ⟨((Builtin.Str.strSliceIndices none none (-1) z.length).filterMap (z.cps[·]?)).toArray⟩
end
end L2.DL

/-! DL13: defs as functions on trees; their calls. -/
namespace L2.DL
open PySem PySem.Spec PyProof.Rows
/-- a def's answer: a value, a list or dict that nobody else holds, an error -/
inductive R where
  | ok (d : D) (μ : Sto) | ow (d : D) (μ : Sto) | ex (c : Str) (ns : List Str) (vs : List D) (μ : Sto) | no
abbrev Fn := List D → Sto → R
structure CIn (K : PySem.W.Frag) (mg : Str → Option Value) (A : Addr → Prop) (C : List Addr) (μ : Sto) (vs : List V) (ds : List D) (H : Hp) : Prop where
  arg : Reps ⟨K, mg, A, fun _ => False, C, H⟩ vs ds
  sto : StoR ⟨K, mg, A, fun _ => False, C, H⟩ μ
  cnd : C.Nodup
  cA : ∀ a ∈ C, A a
  alv : ∀ a, A a → ∃ o, H a = some o
/-- the avoided objects behind a call: zo is the list given out -/
def rO (K : PySem.W.Frag) (mg : Str → Option Value) (A : Addr → Prop) (zo : List Addr) (C : List Addr) (H : Hp) : RC := ⟨K, mg, fun a => A a ∨ a ∈ C ∨ a ∈ zo, fun _ => False, C, H⟩
structure COut (K : PySem.W.Frag) (mg : Str → Option Value) (A : Addr → Prop) (zo C : List Addr) (H : Hp) (C' : List Addr) (H' : Hp) (μ : Sto) : Prop where
  pre : ∃ m, C' = C ++ m
  cfr : ∀ a ∈ C', a ∈ C ∨ H a = none
  cnd : C'.Nodup
  clv : ∀ a ∈ C', ∃ o, H' a = some o
  frm : ∀ a o, H a = some o → a ∉ C → H' a = some o
  sto : StoR (rO K mg A zo C' H') μ
  zfr : ∀ a ∈ zo, H a = none ∧ a ∉ C' ∧ ∃ o, H' a = some o
def PostR (K : PySem.W.Frag) (mg : Str → Option Value) (A : Addr → Prop) (C : List Addr) (H : Hp) (r : R) (Q : VK) (E : XK) : Prop := match r with
  | .ok d μ => ∀ v H' C', COut K mg A [] C H C' H' μ → Rep (rO K mg A [] C' H') v d → Q v H'
  | .ow d μ => ∀ a H' C', COut K mg A [a] C H C' H' μ → OwnR (rO K mg A [a] C' H') a d → Q (.ref a) H'
  | .ex c ns es μ => ∀ Cc dx H' C', COut K mg A [] C H C' H' μ → mg c = some (.ref Cc) → EhR (rO K mg A [] C' H') dx c ns es → E (.ref Cc) (some dx) H'
  | .no => False
def spD (K : PySem.W.Frag) (mg : Str → Option Value) (G : Fn) : Sp := fun vs H Q E => ∃ ds μ A C, CIn K mg A C μ vs ds H ∧ PostR K mg A C H (G ds μ) Q E
/-- a def's body as a function -/
def runD (p n : Nat) (g : Mo Fl) : Fn := fun ds μ => if ds.length = p then (match g (ds.map (fun d => some (Ent.sh d)) ++ List.replicate (n - ds.length) none) μ with
  | .ok .nx _ μ' => .ok .non μ'
  | .ok (.rt d) _ μ' => .ok d μ'
  | .ok (.ro d) _ μ' => .ow d μ'
  | .ok _ _ _ => .no
  | .ex c ns vs _ μ' => .ex c ns vs μ'
  | .no => .no) else .no
theorem OwnR.stq {r r' : RC} (S : Stq r r') (hH : r'.H = r.H) {a : Addr} : ∀ {d : D}, OwnR r a d → OwnR r' a d
  | .lst _, ⟨vs, h, q⟩ => ⟨vs, by rw [hH]; exact h, q.stq S⟩
  | .dct _ _, ⟨kvs, h, e, q⟩ => ⟨kvs, by rw [hH]; exact h, e, q.stq S⟩
  | .non, h => h.elim | .bl _, h => h.elim | .int _, h => h.elim | .str _, h => h.elim | .tup _, h => h.elim | .frz _, h => h.elim | .ins _ _ _, h => h.elim | .cell _, h => h.elim
theorem CellR.stq {r r' : RC} (S : Stq r r') (hH : r'.H = r.H) {a : Addr} : ∀ {c : Cell}, CellR r a c → CellR r' a c
  | .lst _, ⟨vs, h, q⟩ => ⟨vs, by rw [hH]; exact h, q.stq S⟩
  | .dct _ _, ⟨kvs, h, e, q⟩ => ⟨kvs, by rw [hH]; exact h, e, q.stq S⟩
  | .ins _ _ _, ⟨Cc, dx, fs, h, m, e, q⟩ => ⟨Cc, dx, fs, by rw [hH]; exact h, by rw [S.g]; exact m, e, q.stq S⟩
theorem EhR.stq {r r' : RC} (S : Stq r r') {dx : Addr} {c : Str} {ns : List Str} {ds : List D} : EhR r dx c ns ds → EhR r' dx c ns ds := fun ⟨fs, h, n, e, q⟩ => ⟨fs, S.h _ _ h n, S.na h n, e, q.stq S⟩
theorem StoR.stq {r r' : RC} (S : Stq r r') (hH : r'.H = r.H) (hC : r'.C = r.C) {μ : Sto} (h : StoR r μ) : StoR r' μ := ⟨by rw [hC]; exact h.1, fun n a c h1 h2 => (h.2 n a c (by rw [← hC]; exact h1) h2).stq S hH⟩
/-- another avoid set, the same heap -/
theorem stq_A {K : PySem.W.Frag} {mg : Str → Option Value} {A A' B B' : Addr → Prop} {C : List Addr} {H : Hp} (h : ∀ b, A' b → A b) : Stq ⟨K, mg, A, B, C, H⟩ ⟨K, mg, A', B', C, H⟩ := ⟨rfl, rfl, fun b z => .inl (h b z), ⟨[], by simp⟩, fun _ _ e _ => e⟩
section
variable {P : Program} {w : World} {K : PySem.W.Frag} {mg : Str → Option Value} {base : Heap}
theorem Rl.init {Φ : Ctx} {N : List Str} {A : Addr → Prop} {C : List Addr} {μ : Sto} {vs : List V} {ds : List D} {H : Hp} (i : CIn K mg A C μ vs ds H) (h1 : Φ.H0 = H) (h2 : Φ.A0 = A) (h3 : Φ.C0 = C) (h4 : ∀ a, ¬ Φ.M0 a) :
    RlK Φ K mg (ds.map (fun d => some (Ent.sh d)) ++ List.replicate (N.length - ds.length) none) μ C [] (start N vs) H := by
  have hl := i.arg.length
  have S : Stq ⟨K, mg, A, fun _ => False, C, H⟩ (rcK Φ K mg C [] H) := stq_A fun b z => by
    rcases z with z | z | ⟨j, z⟩
    · rw [← h2]; exact z
    · exact i.cA b z
    · cases z
  subst h1 h2 h3
  refine ⟨by unfold start; simp [hl], fun j t e => ?_, i.sto.stq S rfl rfl, fun _ _ _ z => (by cases z), fun _ _ z => (by cases z), ⟨[], by simp⟩, fun a z => .inl z, i.cnd, fun a z => i.alv a (i.cA a z), fun a o z _ _ => z, fun a z => ?_⟩
  · by_cases hj : j < ds.length
    · rw [List.getElem?_append_left (by simpa using hj), List.getElem?_map] at e
      obtain ⟨d, e1, e2⟩ := Option.map_eq_some_iff.mp e
      cases e2
      obtain ⟨v, hv, q⟩ := i.arg.get e1
      refine ⟨v, ?_, q.stq S⟩
      unfold start
      rw [List.getElem?_append_left (by simpa [hl] using hj), List.getElem?_map, hv] <;> rfl
    · rw [List.getElem?_append_right (by simpa using hj), List.getElem?_replicate] at e
      split at e <;> cases e
  · rcases z with z | z
    · exact i.alv a z
    · exact (h4 a z).elim
theorem Rl.out {Φ : Ctx} {ρ : Env} {μ : Sto} {A : Addr → Prop} {C C' : List Addr} {os : Os} {σ : L2.St} {H H' : Hp} (h1 : Φ.H0 = H) (h2 : Φ.A0 = A) (h3 : Φ.C0 = C) (h4 : ∀ a, ¬ Φ.M0 a) (R : RlK Φ K mg ρ μ C' os σ H') (zo : List Addr) (hz : ∀ a ∈ zo, ∃ i, (i, a) ∈ os) :
    COut K mg A zo C H C' H' μ ∧ Stq (rcK Φ K mg C' os H') (rO K mg A zo C' H') := by
  subst h1 h2 h3
  have S : Stq (rcK Φ K mg C' os H') (rO K mg Φ.A0 zo C' H') := stq_A fun b z => by
    rcases z with z | z | z
    · exact .inl z
    · exact .inr (.inl z)
    · exact .inr (.inr (hz b z))
  refine ⟨⟨R.pre, R.cfr, R.cnd, R.clv, fun a o e n => R.frm a o e (fun hC => ?_) (h4 a), R.sto.stq S rfl rfl, fun a z => ?_⟩, S⟩
  · rcases R.cfr a hC with q | q
    · exact n q
    · rw [e] at q; cases q
  · obtain ⟨i, q⟩ := hz a z
    obtain ⟨f1, f2, _, f4⟩ := R.fre i a q
    exact ⟨f1.elim id fun z => (h4 a z).elim, f2, f4⟩
/-- THE RULE for a def -/
theorem Fun.okD {x qual : Str} {st : Stmt} {f : Addr} {fd : FuncData} {N ps : List Str} {k : Nat} {g : Mo Fl} (F : Fun K x qual st f fd) (S : FnScope N ps (defScope st))
    (hb : ∀ (Φ : Ctx) (cdv : Value) (A : Around) (outer : List PySem.Env) (s : Shared) (H : Hp) (E : XK), Cn Φ (cxOf (L2.CX P w) P w K mg base N qual (defScope st) f cdv A outer s H E) k → (∀ a, ¬ Φ.M0 a) →
      DSs Φ (cxOf (L2.CX P w) P w K mg base N qual (defScope st) f cdv A outer s H E) (defBody st) g) : FnOk P w K mg base (L2.CX P w) (k + 1) f fd ps (spD K mg (runD ps.length N.length g)) := by
  refine Fun.okX F S (fun vs H Q E h => ?_) fun cdv A outer s H vs Q E hr h => ?_
  · obtain ⟨ds, μ, A, C, i, z⟩ := h
    unfold runD at z
    split at z
    · rename_i hl
      rw [i.arg.length, hl]
    · exact z.elim
  · obtain ⟨ds, μ, A', C, i, z⟩ := h
    let Φ : Ctx := ⟨H, A', C, fun _ => False, fun cls d _ H' => E cls d H', none, "", none⟩
    have cn : Cn Φ (cxOf (L2.CX P w) P w K mg base N qual (defScope st) f cdv A outer s H E) k := ⟨S.nd, rfl, passes_of rfl, takes_of (X := cxOf (L2.CX P w) P w K mg base N qual (defScope st) f cdv A outer s H E) rfl rfl rfl rfl, hr⟩
    refine ⟨_, hb Φ cdv A outer s H E cn (fun _ h => h), _, μ, C, [], Rl.init (N := N) i rfl rfl rfl (fun _ h => h), ?_⟩
    have nm : ∀ a, ¬ Φ.M0 a := fun _ h => h
    unfold runD at z
    split at z
    · rename_i hl
      cases e : g (ds.map (fun d => some (Ent.sh d)) ++ List.replicate (N.length - ds.length) none) μ with
      | no => rw [e] at z; exact z
      | ex c ns es ρ' μ' =>
        rw [e] at z
        intro Cc dx σ' H' C' os' R _ hm he
        obtain ⟨o, S'⟩ := Rl.out (A := A') (C := C) (H := H) rfl rfl rfl nm R [] (fun a z => by cases z)
        exact z Cc dx H' C' o hm (he.stq S')
      | ok fl ρ' μ' =>
        rw [e] at z
        intro σ' H' C' os' R _
        cases fl with
        | bk => exact z.elim
        | ct => exact z.elim
        | nx =>
          obtain ⟨o, S'⟩ := Rl.out (A := A') (C := C) (H := H) rfl rfl rfl nm R [] (fun a z => by cases z)
          exact z .non H' C' o .non
        | rt d =>
          obtain ⟨o, S'⟩ := Rl.out (A := A') (C := C) (H := H) rfl rfl rfl nm R [] (fun a z => by cases z)
          exact fun v q => z v H' C' o (q.stq S')
        | ro d =>
          intro a j hj q
          obtain ⟨o, S'⟩ := Rl.out (A := A') (C := C) (H := H) rfl rfl rfl nm R [a] (fun b z => by
            cases List.mem_singleton.mp z
            exact ⟨j, hj⟩)
          exact z a H' C' o (q.stq S' rfl)
    · exact z.elim
end

/-! ### a call -/
section
variable {Φ : Ctx} {X : Cx} {f g : Mo D}
def osZ (i : Nat) (zo : List Addr) (os : Os) : Os := zo.map (fun a => (some i, a)) ++ os
theorem CIn.of {ρ : Env} {μ : Sto} {C : List Addr} {os : Os} {σ : L2.St} {H : Hp} {vs : List V} {ds : List D} (R : Rl Φ X ρ μ C os σ H) (q : Reps (rc Φ X C os H) vs ds) : CIn X.K X.mg (AA Φ C os) C μ vs ds H := by
  have S : Stq (rc Φ X C os H) ⟨X.K, X.mg, AA Φ C os, fun _ => False, C, H⟩ := stq_A fun b z => z
  refine ⟨q.stq S, R.sto.stq S rfl rfl, R.cnd, fun a z => .inr (.inl z), fun a z => ?_⟩
  rcases z with z | z | ⟨i, z⟩
  · exact R.alv a (.inl z)
  · exact R.clv a z
  · exact (R.fre i a z).2.2.2
theorem Rl.called {ρ : Env} {μ μ' : Sto} {C C' : List Addr} {os : Os} {σ : L2.St} {H H' : Hp} {zo : List Addr} {i : Nat} (R : Rl Φ X ρ μ C os σ H) (o : COut X.K X.mg (AA Φ C os) zo C H C' H' μ') :
    Rl Φ X ρ μ' C' (osZ i zo os) σ H' ∧ Stp (rc Φ X C os H) (rc Φ X C' (osZ i zo os) H') ∧ Stq (rO X.K X.mg (AA Φ C os) zo C' H') (rc Φ X C' (osZ i zo os) H') := by
  obtain ⟨m, em⟩ := o.pre
  have inC : ∀ a ∈ C, a ∈ C' := fun a z => by rw [em]; exact List.mem_append_left _ z
  have mz : ∀ {j b}, (j, b) ∈ osZ i zo os → (j = some i ∧ b ∈ zo) ∨ (j, b) ∈ os := fun {j b} z => by
    rcases List.mem_append.mp z with z | z
    · obtain ⟨a, h1, h2⟩ := List.mem_map.mp z
      cases h2
      exact .inl ⟨rfl, h1⟩
    · exact .inr z
  have mo : ∀ {j b}, (j, b) ∈ os → (j, b) ∈ osZ i zo os := fun z => List.mem_append_right _ z
  have nC : ∀ {j b}, (j, b) ∈ os → b ∉ C := fun z => (R.fre _ _ z).2.1
  have live : ∀ b u, H b = some u → ∃ u', H' b = some u' := fun b u e => by
    by_cases hC : b ∈ C
    · exact o.clv b (inC b hC)
    · exact ⟨u, o.frm b u e hC⟩
  have S : Stp (rc Φ X C os H) (rc Φ X C' (osZ i zo os) H') := by
    refine ⟨rfl, rfl, fun b z => ?_, o.pre, fun b u e n => o.frm b u e fun hC => n (.inr (.inl hC)), live, fun b z => mo z, fun b u e z => o.frm b u e (nC z)⟩
    rcases z with z | z | ⟨j, z⟩
    · exact .inl (.inl z)
    · rcases o.cfr b z with q | q
      · exact .inl (.inr (.inl q))
      · exact .inr q
    · rcases mz z with ⟨_, q⟩ | q
      · exact .inr (o.zfr b q).1
      · exact .inl (.inr (.inr ⟨j, q⟩))
  have S2 : Stq (rO X.K X.mg (AA Φ C os) zo C' H') (rc Φ X C' (osZ i zo os) H') := stq_A fun b z => by
    rcases z with z | z | ⟨j, z⟩
    · exact .inl (.inl z)
    · exact .inr (.inl z)
    · rcases mz z with ⟨_, q⟩ | q
      · exact .inr (.inr q)
      · exact .inl (.inr (.inr ⟨j, q⟩))
  have h0 : ∀ b, H b = none → Φ.H0 b = none := fun b e => by
    cases e0 : Φ.H0 b with
    | none => rfl
    | some u =>
      have nC : b ∉ C := fun z => by
        obtain ⟨u', e'⟩ := R.clv b z
        rw [e] at e'; cases e'
      have nM : ¬ Φ.M0 b := fun z => by
        obtain ⟨u', e'⟩ := R.alv b (.inr z)
        rw [e] at e'; cases e'
      rw [R.frm b u e0 nC nM] at e; cases e
  refine ⟨⟨R.len, fun j t e => ?_, o.sto.stq S2 rfl rfl, fun j k b z1 z2 => ?_, fun j b z => ?_, ?_, fun b z => ?_, o.cnd, o.clv, fun b u e n1 n2 => ?_, fun b z => ?_⟩, S, S2⟩
  · obtain ⟨v, h1, h2⟩ := R.env j t e
    refine ⟨v, h1, ?_⟩
    cases t with
    | sh d => exact Rep.step S h2
    | ow d =>
      obtain ⟨b, e1, e2, e3⟩ := h2
      exact ⟨b, e1, mo e2, e3.stepH S fun u hu => o.frm b u hu (nC e2)⟩
    | bd c ns ds =>
      obtain ⟨b, e1, e2, e3⟩ := h2
      exact ⟨b, e1, mo e2, BdR.stepB S (fun u hu => o.frm b u hu (nC e2)) e3⟩
    | eh c ns ds =>
      obtain ⟨b, dx, e1, e2, e3⟩ := h2
      exact ⟨b, dx, e1, e2, e3.step S⟩
  · rcases mz z1 with ⟨rfl, q1⟩ | q1 <;> rcases mz z2 with ⟨rfl, q2⟩ | q2
    · rfl
    · obtain ⟨_, _, _, u, e⟩ := R.fre _ _ q2
      rw [(o.zfr b q1).1] at e; cases e
    · obtain ⟨_, _, _, u, e⟩ := R.fre _ _ q1
      rw [(o.zfr b q2).1] at e; cases e
    · exact R.own j k b q1 q2
  · rcases mz z with ⟨rfl, q⟩ | q
    · obtain ⟨z1, z2, z3⟩ := o.zfr b q
      refine ⟨.inl (h0 b z1), z2, fun hA => ?_, z3⟩
      obtain ⟨u, e⟩ := R.alv b (.inl hA)
      rw [z1] at e; cases e
    · obtain ⟨f1, f2, f3, u, f4⟩ := R.fre j b q
      refine ⟨f1, fun hC => ?_, f3, live b u f4⟩
      rcases o.cfr b hC with y | y
      · exact f2 y
      · rw [f4] at y; cases y
  · obtain ⟨n, en⟩ := R.pre
    exact ⟨n ++ m, by rw [em, en, List.append_assoc]⟩
  · rcases o.cfr b z with q | q
    · exact R.cfr b q
    · exact .inr (h0 b q)
  · have nC : b ∉ C := fun z => n1 (inC b z)
    exact o.frm b u (R.frm b u e nC n2) nC
  · obtain ⟨u, e⟩ := R.alv b z
    exact live b u e
/-- the module's def x, as the function G, k levels deep -/
structure Dfn (P : Program) (w : World) (K : PySem.W.Frag) (mg : Str → Option Value) (base : Heap) (x : Str) (k : Nat) (G : Fn) : Prop where
  ex : ∃ f fd ps, FnOk P w K mg base (L2.CX P w) k f fd ps (spD K mg G) ∧ mg x = some (.ref f) ∧ PySem.W.keepIn K (.ref f) = true ∧ Binds K fd ps []
/-- what a call wants of the body it stands in -/
structure Cc (Φ : Ctx) (X : Cx) (k : Nat) : Prop where
  tk : Takes X Φ.W
  rm : Room k X.A
theorem Cn.cc {k : Nat} (c : Cn Φ X k) : Cc Φ X k := ⟨c.tk, c.rm⟩
theorem Cn.blk {k : Nat} (c : Cn Φ X k) {s : Shared} {H : Hp} {scope : Scope} {ce : PySem.Env} {fp : List Addr} : Cc Φ.nx (X.blk s H scope ce fp) k := ⟨takes0, c.rm⟩
def calM (G : Fn) (fa : Mo (List D)) : Mo D := bnd fa fun ds ρ μ => match G ds μ with
  | .ok d μ' => .ok d ρ μ'
  | .ow d μ' => .ok d ρ μ'
  | .ex c ns vs μ' => .ex c ns vs ρ μ'
  | .no => .no
def cawM (G : Fn) (fa : Mo (List D)) : Mo D := bnd fa fun ds ρ μ => match G ds μ with
  | .ow d μ' => .ok d ρ μ'
  | .ex c ns vs μ' => .ex c ns vs ρ μ'
  | _ => .no
theorem COut.let {A : Addr → Prop} {C C' : List Addr} {H H' : Hp} {μ : Sto} {K : PySem.W.Frag} {mg : Str → Option Value} {a : Addr} (o : COut K mg A [a] C H C' H' μ) (al : ∀ b, A b → ∃ u, H b = some u) : COut K mg A [] C H C' H' μ ∧ Stq (rO K mg A [a] C' H') (rO K mg A [] C' H') ∧ ¬ (rO K mg A [] C' H').A a := by
  have S : Stq (rO K mg A [a] C' H') (rO K mg A [] C' H') := stq_A fun b z => by
    rcases z with z | z | z
    · exact .inl z
    · exact .inr (.inl z)
    · cases z
  obtain ⟨z1, z2, _⟩ := o.zfr a List.mem_cons_self
  refine ⟨⟨o.pre, o.cfr, o.cnd, o.clv, o.frm, o.sto.stq S rfl rfl, fun b z => by cases z⟩, S, fun z => ?_⟩
  rcases z with z | z | z
  · obtain ⟨u, e⟩ := al a z
    rw [z1] at e; cases e
  · exact z2 z
  · cases z
/-- an argument list that stands, then the callee -/
theorem call_at {G : Fn} {ρ : Env} {μ : Sto} {C : List Addr} {os : Os} {σ : L2.St} {H : Hp} {vs : List V} {ds : List D} {Q : VK} (R : Rl Φ X ρ μ C os σ H) (q : Reps (rc Φ X C os H) vs ds)
    (z : PostE Φ X C os σ H ((fun ρ μ => match G ds μ with
      | .ok d μ' => .ok d ρ μ'
      | .ow d μ' => .ok d ρ μ'
      | .ex c ns vs μ' => .ex c ns vs ρ μ'
      | .no => .no : Mo D) ρ μ) Q) : spD X.K X.mg G vs H Q (WE Φ.W σ) := by
  have i := CIn.of R q
  refine ⟨ds, μ, AA Φ C os, C, i, ?_⟩
  cases e : G ds μ with
  | no => simp only [e] at z; exact z
  | ex c ns es μ' =>
    simp only [e] at z
    intro Cc dx H' C' o hm he
    obtain ⟨R', S', S2⟩ := R.called (i := 0) o
    exact z Cc dx H' C' _ R' S' hm (he.stq S2)
  | ok d μ' =>
    simp only [e] at z
    intro v H' C' o q'
    obtain ⟨R', S', S2⟩ := R.called (i := 0) o
    exact z v H' C' _ R' S' (q'.stq S2)
  | ow d μ' =>
    simp only [e] at z
    intro a H' C' o q'
    obtain ⟨o2, S3, na⟩ := o.let i.alv
    obtain ⟨R', S', S2⟩ := R.called (i := 0) o2
    exact z _ H' C' _ R' S' (((q'.stq S3 rfl).rep na).stq S2)
theorem call_atF {G : Fn} {j : Nat} {ρ : Env} {μ : Sto} {C : List Addr} {os : Os} {σ : L2.St} {H : Hp} {vs : List V} {ds : List D} {Q : VK} (R : Rl Φ X ρ μ C os σ H) (q : Reps (rc Φ X C os H) vs ds)
    (z : PostF Φ X j C os σ H ((fun ρ μ => match G ds μ with
      | .ow d μ' => .ok d ρ μ'
      | .ex c ns vs μ' => .ex c ns vs ρ μ'
      | _ => .no : Mo D) ρ μ) Q) : spD X.K X.mg G vs H Q (WE Φ.W σ) := by
  have i := CIn.of R q
  refine ⟨ds, μ, AA Φ C os, C, i, ?_⟩
  cases e : G ds μ with
  | no => simp only [e] at z; exact z
  | ok d μ' => simp only [e] at z; exact z.elim
  | ex c ns es μ' =>
    simp only [e] at z
    intro Cc dx H' C' o hm he
    obtain ⟨R', S', S2⟩ := R.called (i := 0) o
    exact z Cc dx H' C' _ R' S' hm (he.stq S2)
  | ow d μ' =>
    simp only [e] at z
    intro a H' C' o q'
    obtain ⟨R', S', S2⟩ := R.called (i := j) o
    exact z a H' C' _ R' S' (q'.stq S2 rfl)
variable {x : Str} {p pos : Pos} {e : Expr} {es : List Expr} {G : Fn} {k : Nat} {fa : Mo (List D)}
theorem de_call (F : Dfn X.prog X.w X.K X.mg X.base x k G) (c : Cc Φ X k) (hg : Gl X x) (ha : DA Φ X (e :: es) fa)
    (hdb : (x == ("__debug__" : Str)) = false := by decide) (he : starEach (e :: es) X.env = (false, eval e X.env) :: starEach es X.env := by rfl) (hpl : (backTo pos (starEach es X.env)).any (·.1) = false := by rfl) : DE Φ X (.Call (.Name x p) (e :: es) [] pos) (calM G fa) := by
  obtain ⟨f, fd, ps, F, hm, hk, hb⟩ := F.ex
  exact PE.imp (pe_callSD (dvs := []) F c.rm hg hm hk hb .nil (fun σ => passAt c.tk σ) ha hdb he hpl) fun σ H Q ⟨ρ, μ, C, os, R, z⟩ => ⟨ρ, μ, C, os, R, PostE.bndA z fun ds ρ1 μ1 vs H1 C1 os1 R1 S1 q1 z1 => by
    rw [List.append_nil]
    exact call_at R1 q1 z1⟩
theorem df_call {i : Nat} (F : Dfn X.prog X.w X.K X.mg X.base x k G) (c : Cc Φ X k) (hg : Gl X x) (ha : DA Φ X (e :: es) fa)
    (hdb : (x == ("__debug__" : Str)) = false := by decide) (he : starEach (e :: es) X.env = (false, eval e X.env) :: starEach es X.env := by rfl) (hpl : (backTo pos (starEach es X.env)).any (·.1) = false := by rfl) : DF Φ X i (.Call (.Name x p) (e :: es) [] pos) (cawM G fa) := by
  obtain ⟨f, fd, ps, F, hm, hk, hb⟩ := F.ex
  exact PE.imp (pe_callSD (dvs := []) F c.rm hg hm hk hb .nil (fun σ => passAt c.tk σ) ha hdb he hpl) fun σ H Q ⟨ρ, μ, C, os, R, z⟩ => ⟨ρ, μ, C, os, R, PostF.bndA z fun ds ρ1 μ1 vs H1 C1 os1 R1 S1 q1 z1 => by
    rw [List.append_nil]
    exact call_atF R1 q1 z1⟩
/-- return of a new list -/
def rtF (f : Mo D) : Mo Fl := bnd f fun d => ret (.ro d)
theorem ds_retF {i : Nat} {f : Mo D} (h : DF Φ X i e f) : DS Φ X (.Return (some e) pos) (rtF f) := PS.imp (ps_ret h) fun E σ H ⟨ρ, μ, C, os, R, z⟩ => by
  refine ⟨ρ, μ, C, os, R, ?_⟩
  unfold rtF bnd at z
  cases e : f ρ μ with
  | no => rw [e] at z; exact z
  | ex c ns ds ρ1 μ1 => rw [e] at z; exact fun Cc dx H' C' os' R S g e => z Cc dx σ H' C' os' R S g e
  | ok d ρ1 μ1 =>
    rw [e] at z
    exact fun a H1 C1 os1 R1 S1 w => z _ _ C1 _ R1 S1 a (some i) List.mem_cons_self w
end
end L2.DL

/-! DLH: several except clauses, each with or without a name. -/
namespace L2.DL
open PySem PySem.Spec PyProof.Rows
/-- a clause: its class, the slot of its name, its suite -/
structure Hd where
  c : Value
  nm : Option Nat
  ts : Addr → Value → Option Addr → TS
def Hd.beg (h : Hd) (σ : L2.St) (a : Addr) : L2.St := match h.nm with
  | none => σ
  | some i => σ.set i (some (.ref a))
def Hd.fin (h : Hd) (σ : L2.St) : L2.St := match h.nm with
  | none => σ
  | some i => σ.set i none
def Hd.ends (h : Hd) (D : Ends) : Ends := { nx := fun σ H => D.nx (h.fin σ) H, rt := D.rt, bk := fun σ H => D.bk (h.fin σ) H, ct := fun σ H => D.ct (h.fin σ) H }
def wH (K : PySem.W.Frag) (Wo : WX) (D : Ends) : List Hd → WX
  | [] => Wo
  | h :: r => fun cls d σ H => ∃ b, PySem.W.exmOne K cls h.c = some b ∧ (b = true → ∀ a, H a = none → h.ts a cls d (h.ends D) (h.beg σ a) H) ∧ (b = false → wH K Wo D r cls d σ H)
/-- the suite's rule, at each exception -/
def SuO (X : Cx) (b : Stmt) (bs : List Stmt) (ts : Addr → Value → Option Addr → TS) : Prop :=
  ∀ (a : Addr) (o : Obj) (cls : Value) (d : Option Addr) (pn : List (Addr × Obj)), Zc cls d o → (∃ ws, o.data = .fields ws) → PSs (X.suite a ((a, o) :: pn)) (b :: bs) (ts a cls d)
inductive HsOk (X : Cx) : List ExceptHandler → List Hd → Prop
  | nil : HsOk X [] []
  | bare {x : Str} {c : Value} {ts : Addr → Value → Option Addr → TS} {b : Stmt} {bs : List Stmt} {p q : Pos} {hs : List ExceptHandler} {l : List Hd} (hc : Names X x c) (su : SuO X b bs ts) (r : HsOk X hs l) :
      HsOk X (.ExceptHandler (some (.Name x p)) none (b :: bs) q :: hs) (⟨c, none, ts⟩ :: l)
  | as {x n : Str} {i : Nat} {c : Value} {ts : Addr → Value → Option Addr → TS} {b : Stmt} {bs : List Stmt} {p q : Pos} {hs : List ExceptHandler} {l : List Hd} (hc : Names X x c) (hi : X.N[i]? = some n) (hl : X.env.kindOf n = some .local) (su : SuO X b bs ts)
      (r : HsOk X hs l) : HsOk X (.ExceptHandler (some (.Name x p)) (some n) (b :: bs) q :: hs) (⟨c, some i, ts⟩ :: l)
section
variable {X : Cx} {body : List Stmt} {h0 : ExceptHandler} {hds : List ExceptHandler} {l : List Hd} {pos : Pos} {tb : WX → TS} {Wo : WX}
theorem ps_tryH (st : X.stack = X.env :: X.outer) (fr : X.env.frame = some X.env.locals) (nd : X.N.Nodup) (tk : Takes X Wo)
    (bd : ∀ (W : WX) (pn : List (Addr × Obj)) (xe : Value → Shared → Prop), Takes (X.tr pn xe) W → PassesOwn (model X.prog X.w) X.A X.env xe → PSs (X.tr pn xe) body (tb W))
    (hk : HsOk X (h0 :: hds) l) : PS X (.Try body (h0 :: hds) [] [] pos) (fun D σ H => tb (wH X.K Wo D l) D σ H) := by
  refine ⟨fun pins s σ H D I h => wpAny_Try_except ?_⟩
  have ok := I.ok
  have frs' : X.A.frames = some (X.env :: X.outer) := ok.frames.trans (congrArg some st)
  have caught : ∀ u s', XE (X.tr (X.pn ++ pins) (fun e s₁ => wpAny (model X.prog X.w) X.A (noteFrame e X.env) (fun _ s₂ => wpAny (model X.prog X.w) X.A (setFlight e none) (fun _ s₃ =>
      wpAny (model X.prog X.w) X.A (handleBy e X.env (h0 :: hds)) (SP X pins D) X.xe s₃) X.xe s₂) X.xe s₁)) (wH X.K Wo D l) u s' →
      wpAny (model X.prog X.w) X.A (noteFrame u X.env) (fun _ s₂ => wpAny (model X.prog X.w) X.A (setFlight u none) (fun _ s₃ => wpAny (model X.prog X.w) X.A (handleBy u X.env (h0 :: hds)) (SP X pins D) X.xe s₃) X.xe s₂) X.xe s' := by
    rintro u s' ⟨a, B, sI, pins', σ1, H1, cls, d, rfl, J0, nb, up, sky, na, os, ag, w⟩
    have J : Inv X pins σ1 H1 sI := J0.ofTry ok
    have sk : Sky B (X.env :: X.outer) a (Zc cls d) X.env.locals s'.heap := st ▸ sky
    refine Sky.land Zc.steady frs' fr sk fun h3 fl up3 => ?_
    have J3 : Inv X pins σ1 H1 { s' with heap := h3 } := J.landed nb fl.1 (up.trans up3) os ag
    obtain ⟨o3, v3, e3, z3, d3⟩ := fl.there
    have apart : a ∉ frs (X.env :: X.outer) := fun hm => by
      obtain ⟨_, o', e', hnf⟩ := fl.2.2.1.mem hm
      cases e3.symm.trans e'
      exact hnf _ d3
    have nL : a ≠ X.env.locals := fun z => apart (List.mem_filterMap.mpr ⟨X.env, List.mem_cons_self, fr.trans (congrArg some z.symm)⟩)
    have nF : a ∉ X.fs := fun hm => let ⟨e, he, q⟩ := List.mem_filterMap.mp hm; apart (List.mem_filterMap.mpr ⟨e, List.mem_cons_of_mem _ he, q⟩)
    have S3 := J3.suite e3 d3 na nL nF
    have tst : ∀ {x : Str} {c : Value} {p : Pos} {Q E : Value → Shared → Prop}, Names X x c → Q c { s' with heap := h3 } → wpAny (model X.prog X.w) (X.A.mark (some (.ref a))) (eval (.Name x p) X.env) Q E { s' with heap := h3 } := fun {x c p Q E} hc q => by
      obtain ⟨hg, hdb, hm | ⟨hm, hv, nn⟩⟩ := hc
      · exact ld_glob (X := X.suite a ((a, o3) :: (X.pn ++ pins))) S3 hg hm q hdb
      · exact ld_blt (X := X.suite a ((a, o3) :: (X.pn ++ pins))) S3 hg hm hv q nn hdb
    have LT : PySem.W.Looks (model X.prog X.w) h3 (typeOf (.ref a)) cls := fun _ _ _ _ k q => wpAny_typeOf_ref (k _ _ e3) (z3.1.symm ▸ q)
    have go : ∀ {hs' : List ExceptHandler} {l' : List Hd}, HsOk X hs' l' → wH X.K Wo D l' cls d σ1 H1 → wpAny (model X.prog X.w) X.A (handleBy (.ref a) X.env hs') (SP X pins D) X.xe { s' with heap := h3 } := by
      intro hs' l' hk'
      induction hk' with
      | nil =>
        intro w'
        refine wpAny_handleBy_nil ?_
        obtain ⟨y1, y2, y3, oe, ws, T, oT, ts', he, hz, hd, h1, hr⟩ := id fl
        unfold PySem.passOn
        refine wpAny_bind (wpAny_field he hd h1 ?_)
        rw [if_neg (by simp : ¬ ((Value.ref T == Value.none) = true))]
        have fin : wpAny (model X.prog X.w) X.A (setFlight (.ref a) X.env.frame) (fun _ s4 => wpAny (model X.prog X.w) X.A (throw (.ref a) : Sem Flow) (SP X pins D) X.xe s4) X.xe { s' with heap := h3 } := by
          rw [fr]
          exact HandSPX.setFlight_upZ fl fun h4 hh4 up4 => wpAny_throw (tk _ _ ⟨a, B, sI, pins, σ1, H1, cls, d, rfl, J, nb, (up.trans up3).trans up4, .inr (.inr (st.symm ▸ hh4)), na, os, ag, w'⟩)
        first
          | exact wpAny_bind (wpAny_pure (wpAny_bind fin))
          | exact wpAny_bind fin
      | @bare x c ts b bs p q hs2 l2 hc su r ih =>
        rintro ⟨k, k1, yes, no⟩
        refine wpAny_handleBy_cons (codeAny_handlers_test (tst hc ((PySem.W.exm_one (M := model X.prog X.w) J3.kIn LT k1).here ?_))) (by rintro ⟨⟩)
        cases k with
        | false => exact ih (no rfl)
        | true =>
          refine codeAny_handlers_suite (HandSPX.lands_againZ fl fun h4 fl4 up4 => ?_)
          have J4 : Inv X pins σ1 H1 { s' with heap := h4 } := J.landed nb fl4.1 ((up.trans up3).trans up4) os ag
          obtain ⟨o4, v4, e4, z4, d4⟩ := fl4.there
          refine wpAny_mono ((su a o4 cls d (X.pn ++ pins) z4 ⟨_, d4⟩).run [] _ _ H1 _ (J4.suite e4 d4 na nL nF) (yes rfl a na)) (fun f s6 z => ?_) (fun _ _ z => z.elim)
          cases f with
          | next => obtain ⟨σ6, H6, S6, q6⟩ := z; exact ⟨_, _, S6.unsuite ok, q6⟩
          | brk => obtain ⟨σ6, H6, S6, q6⟩ := z; exact ⟨_, _, S6.unsuite ok, q6⟩
          | cont => obtain ⟨σ6, H6, S6, q6⟩ := z; exact ⟨_, _, S6.unsuite ok, q6⟩
          | ret u => obtain ⟨v6, σ6, H6, S6, r6, q6⟩ := z; exact ⟨_, _, _, S6.unsuite ok, r6, q6⟩
      | @as x n i c ts b bs p q hs2 l2 hc hi hl su r ih =>
        rintro ⟨k, k1, yes, no⟩
        refine wpAny_handleBy_cons (codeAny_handlers_test (tst hc ((PySem.W.exm_one (M := model X.prog X.w) J3.kIn LT k1).here ?_))) (by rintro ⟨⟩)
        cases k with
        | false => exact ih (no rfl)
        | true =>
          refine codeAny_handlers_suite_as (HandSPX.lands_againZ fl fun h4 fl4 up4 => ?_)
          have J4 : Inv X pins σ1 H1 { s' with heap := h4 } := J.landed nb fl4.1 ((up.trans up3).trans up4) os ag
          obtain ⟨o4, v4, e4, z4, d4⟩ := fl4.there
          refine store_ok (X := X.suite a ((a, o4) :: (X.pn ++ pins))) (v := .ref a) (J4.suite e4 d4 na nL nF) nd hi (.inl hl) rfl (fun s5 S5 => ?_) (.inr hl)
          have fini : ∀ {s6 : Shared} {σ6 : L2.St} {H6 : Hp} {Q : Shared → Prop}, Inv (X.suite a ((a, o4) :: (X.pn ++ pins))) [] σ6 H6 s6 → (∀ s7, Inv X pins (σ6.set i none) H6 s7 → Q s7) →
              wpAny (model X.prog X.w) X.A (do bindName X.env n .none; unbindBehindTheSuite X.env n q) (fun _ s7 => Q s7) X.xe s6 := fun S6 hq => gone_ok (S6.unsuite ok) nd hi hl hq
          refine wpAny_mono ((su a o4 cls d (X.pn ++ pins) z4 ⟨_, d4⟩).run [] s5 _ H1 _ S5 (yes rfl a na)) (fun f s6 z => ?_) (fun _ _ z => z.elim)
          cases f with
          | next => obtain ⟨σ6, H6, S6, q6⟩ := z; exact fini S6 fun s7 J7 => ⟨_, _, J7, q6⟩
          | brk => obtain ⟨σ6, H6, S6, q6⟩ := z; exact fini S6 fun s7 J7 => ⟨_, _, J7, q6⟩
          | cont => obtain ⟨σ6, H6, S6, q6⟩ := z; exact fini S6 fun s7 J7 => ⟨_, _, J7, q6⟩
          | ret u => obtain ⟨v6, σ6, H6, S6, r6, q6⟩ := z; exact fini S6 fun s7 J7 => ⟨_, _, _, J7, r6, q6⟩
    exact go hk w
  refine wpAny_mono ((bd (wH X.K Wo D l) (X.pn ++ pins) _ caught PassesOwn.looking).run [] s σ H D (I.toTry _) h) (fun f s1 z => ?_) fun _ _ z => z
  cases f with
  | next => obtain ⟨σ', H', J', q⟩ := z; exact wpAny_execs_nil ⟨σ', H', J'.ofTry ok, q⟩
  | brk => obtain ⟨σ', H', J', q⟩ := z; exact ⟨σ', H', J'.ofTry ok, q⟩
  | cont => obtain ⟨σ', H', J', q⟩ := z; exact ⟨σ', H', J'.ofTry ok, q⟩
  | ret u => obtain ⟨v, σ', H', J', r, q⟩ := z; exact ⟨v, σ', H', J'.ofTry ok, r, q⟩
end
end L2.DL

/-! DLE: own error classes over any base whose __init__ stores fields: they are made and raised. -/
namespace L2.DL
open PySem PySem.Spec PyProof.Rows Builtin Builtin.ObjectAttr
section
variable {prog : Program} {w : World} {A : Around} {R : Result → Shared → Prop} {hp : Heap} {g : Array GenState} {d : Drawn} {t : Nat} {os : OsState}
/-- object.__setattr__ up to the store in the own dict -/
theorem osa_any {K : PySem.W.Frag} {f : Str} {tk : Tok} {v : Value} {x C : Addr} {ox : Obj} {od : Option Obj} {cd : ClassData} (X : K.In hp) (I : PySem.W.InstAt hp x ox C od) (hc : PySem.W.clsIn K C = some cd)
    (np : ∀ self, refuseLoop self "__setattr__" cd.mro = pure ()) (hob : cd.mro.contains (.type "object") = true) (ha : PySem.W.findIn K (.ref C) f = some none)
    (hq : wpAny (model prog w) A.in1 (storeInOwnDict (.ref x) (.ref C) (.str f tk) f v false) (fun fin s' => match fin with
      | .done f => R (.ok f) s'
      | .again c' => c'.quiet = true ∧ codeAny (model prog w) A c' R s') (fun e s' => R (.error e) s') ⟨hp, g, d, t, os⟩) :
    codeAny (model prog w) A (.call (.builtin "object.__setattr__") ⟨[.ref x, .str f tk, v], []⟩) R ⟨hp, g, d, t, os⟩ := by
  have SF := PySem.F.store_object
  have ne : cd.mro.isEmpty = false := by
    cases e : cd.mro with
    | nil => rw [e] at hob; cases hob
    | cons _ _ => rfl
  have inst : PySem.W.Looks (model prog w) hp (isInstance (.ref x) (.type "object")) true := I.type.andThen (PySem.W.looks_mroIn X (by unfold PySem.W.mroIn; rw [hc, Option.bind_some, if_neg (by rw [ne]; decide), hob]))
  refine codeAny_call_builtin SF.slot.plain SF.entry (@PySem.W.check_slot (model prog w) _ _ ⟨hp, g, d, t, os⟩ "object.__setattr__" "object" "__setattr__" (.ref x) [.str f tk, v] [] _ SF.kind SF.split inst (SF.args (.ref x) (.str f tk) v) ?_)
  have mro : PySem.W.Looks (model prog w) hp (mroOf (.ref C)) cd.mro := (PySem.W.looks_clsIn X hc).andThen .now
  have tkr : PySem.W.Looks (model prog w) hp (storeTaker? none) none := .now
  rw [PySem.W.osa_eq, refuse_eq]
  refine wpAny_bind (wpAny_bind (I.type.at (wpAny_bind (mro.at ?_))))
  rw [np]
  exact wpAny_pure (wpAny_bind (I.type.at (wpAny_bind ((PySem.W.looks_findIn X ha).at (wpAny_bind (tkr.at hq))))))
end
/-- what the written part says of an error class: bm0 the mro of the base, nw the base's __new__ -/
structure ExC (K : PySem.W.Frag) (C : Addr) (bm0 : List Value) (nw : String) : Prop where
  cls : ∃ nm q N bs bm sn sub ab col dd k0 k1 k2 k3 k5, K.lookup C = some (excClassObj nm q C N bs bm true sn sub ab col dd k0 k1 k2 k3 k5 nw) ∧ (∀ x : String, bm.contains (.type x) = bm0.contains (.type x)) ∧ bm.contains (.type "object") = true ∧
    ∀ self, refuseLoop self "__setattr__" bm = pure ()
  sa : PySem.W.findIn K (.ref C) "__setattr__" = some (some (.builtin "object.__setattr__"))
  exC : PySem.W.subIn K (.ref C) (.type "BaseException") = some true
  tyC : PySem.W.typeIn K (.ref C) = some (.type "type")
  kC : PySem.W.keepIn K (.ref C) = true
/-- own classes, then the base's mro -/
def refsB (t : List Value) : List Value → Bool
  | .ref c :: r => (Value.ref c :: r == t) || refsB t r
  | l => l == t
theorem refsB_or {t : List Value} : ∀ {l : List Value}, refsB t l = true → l = t ∨ ∃ c r, l = .ref c :: r ∧ refsB t r = true
  | [], e => .inl (beq_iff_eq.mp e)
  | .ref c :: r, e => by
    have e : ((Value.ref c :: r == t) || refsB t r) = true := e
    rcases Bool.or_eq_true_iff.mp e with h | h
    · exact .inl (beq_iff_eq.mp h)
    · exact .inr ⟨c, r, rfl, h⟩
  | .none :: _, e | .ellipsis :: _, e | .notImplemented :: _, e | .bool _ :: _, e | .int _ _ :: _, e | .float _ _ :: _, e | .str _ _ :: _, e | .bytes _ _ :: _, e | .type _ :: _, e | .builtin _ :: _, e => .inl (beq_iff_eq.mp e)
theorem refsB_ok {t : List Value} (hp : ∀ self, refuseLoop self "__setattr__" t = pure ()) : ∀ {l : List Value}, refsB t l = true → (∀ x : String, l.contains (.type x) = t.contains (.type x)) ∧ ∀ self, refuseLoop self "__setattr__" l = pure () := by
  intro l
  induction l with
  | nil =>
    intro e
    rcases refsB_or e with h | ⟨_, _, h, _⟩
    · subst h; exact ⟨fun _ => rfl, hp⟩
    · cases h
  | cons a r ih =>
    intro e
    rcases refsB_or e with h | ⟨c, r', h, q⟩
    · subst h; exact ⟨fun _ => rfl, hp⟩
    · cases h
      obtain ⟨h1, h2⟩ := ih q
      exact ⟨fun x => by rw [List.contains_cons, h1 x]; rfl, fun self => by rw [refuseLoop_ref]; exact h2 self⟩
section
variable {X : Cx} {pins : List (Addr × Obj)} {σ : L2.St} {H : Hp} {s : Shared} {a C dx : Addr} {f : Str} {y : V} {u : Value} {fs : List (Str × V)} {Q : Unit → Shared → Prop} {E : Value → Shared → Prop} {A : Around} {bm0 : List Value} {nw : String}
theorem xst_new (T : ExC X.K C bm0 nw) (I : Inv X pins σ H s) (e : H a = some (exo a C none)) (hno : PySem.W.findIn X.K (.ref C) f = some none) (ry : RelV y u)
    (k : ∀ dx s', H dx = none → dx ≠ a → Inv X pins σ (upd (upd H dx (exd dx [(f, y)])) a (exo a C (some dx))) s' → Q () s') : wpAny (model X.prog X.w) A (setAttr (.ref a) f u) Q E s := by
  obtain ⟨nm, q, N, bs, bm, sn, sub, ab, col, dd, k0, k1, k2, k3, k5, hC, _, hob, hnp⟩ := T.cls
  let cd : ClassData := { name := nm, bases := bs, mro := .ref C :: bm, ns := N, qualname := q, hasDict := true, slotNames := sn, subclasses := sub, abstract := ab, collection := col, hasDel := false }
  have hcl : PySem.W.clsIn X.K C = some cd := by unfold PySem.W.clsIn; rw [hC] <;> rfl
  obtain ⟨t1, ho⟩ := exo_at I.hok e
  obtain ⟨h0, gn, dr, tk, ost⟩ := s
  have J : PySem.W.InstAt h0 a { cls := .ref C, dict := none, data := .fields #[.ref t1, .none, .none, .none, .bool false, .none] } C none := ⟨ho, rfl, rfl, trivial⟩
  refine PySem.W.set_plain I.kIn J T.sa (osa_any I.kIn J hcl (fun self => by rw [refuseLoop_ref]; exact hnp self) (by rw [List.contains_cons, hob, Bool.or_true]) hno ?_)
  have hLc : PySem.W.Looks (model X.prog X.w) h0 (classData C) cd := PySem.W.looks_clsIn I.kIn hcl
  have az : a ≠ h0.objs.size := Nat.ne_of_lt (Heap.lt_size ho)
  have a1 : (h0.push { cls := .type "dict", data := .dict #[] }).get? a = some _ := Heap.get?_push_of_some _ ho
  unfold storeInOwnDict ownDictForStores
  repeat (first | with_reducible refine HandSPX.store_in_new ?_ ?_ | with_reducible refine wpAny_loadPart_at ho ?_ | with_reducible refine hLc.at ?_ | wp_step)
  · exact ⟨_, #[], _, (Heap.get?_update_ne _ _ _ _ az.symm).trans (Heap.get?_push_at rfl rfl), rfl, fun e he => absurd he (by simp), fun _ => rfl⟩
  intro h2 tk2 hn hsb
  have dne : h0.objs.size ≠ a := az.symm
  have keep : ∀ b o, b ≠ a → h0.get? b = some o → h2.get? b = some o := fun b o hb q => (hsb.2 b (Nat.ne_of_lt (Heap.lt_size q))).trans ((Heap.get?_update_ne _ _ _ _ hb).trans (Heap.get?_push_of_some _ q))
  have at_a : h2.get? a = some { cls := .ref C, dict := some h0.objs.size, data := .fields #[.ref t1, .none, .none, .none, .bool false, .none] } := (hsb.2 a az).trans (Heap.get?_update_self _ a1 rfl)
  have hz : H h0.objs.size = none := I.hok.fresh (Nat.le_refl _)
  have bz : ∀ {b : Addr} {o : Obj}, h0.get? b = some o → b ≠ h0.objs.size := fun q => Nat.ne_of_lt (Heap.lt_size q)
  have ba : ∀ {b : Addr}, H b = none → b ≠ a := fun n z => by rw [z, e] at n; cases n
  have U : Un X.fs [] H (upd (upd H h0.objs.size (exd h0.objs.size [(f, y)])) a (exo a C (some h0.objs.size))) h0 h2 := by
    constructor
    · exact fun b o q n _ _ => keep b o (ba n) q
    · exact fun b o q n _ _ => ⟨o.slots, keep b o (ba n) q⟩
    · exact fun b o q n _ => by rw [upd_ne (ba n), upd_ne (bz q), n]
    · intro b o q _
      by_cases hb : b = a
      · exact ⟨_, hb ▸ at_a⟩
      · exact ⟨o, keep b o hb q⟩
    · exact fun b xs q => by rw [upd_ne (at_ne e q exo_tup), upd_ne (ne_of_none q hz), q]
    · exact fun b o v q => by rw [upd_ne (at_ne e q exo_frz), upd_ne (ne_of_none q hz), q]
    · exact fun b ps q => ⟨#[], by rw [upd_ne (at_ne e q exo_tbl), upd_ne (ne_of_none q hz), q]; simp⟩
  refine k h0.objs.size _ hz dne (I.un (t' := tk2) U fun b o q => ?_)
  by_cases hb : b = a
  · rw [hb, upd_same] at q
    cases q
    rw [hb]
    exact exo_ok at_a
  rw [upd_ne hb] at q
  by_cases hd : b = h0.objs.size
  · rw [hd, upd_same] at q
    cases q
    rw [hd]
    exact exd_ok hn (relO_put (fs := []) ry fun _ => True.intro)
  rw [upd_ne hd] at q
  refine (I.hok b o q).stay (fun c v hc z => keep c v ?_ z) (fun c hc => ?_) (fun c xs hc => ?_)
  · rcases hc with rfl | hc
    · exact hb
    · exact at_ne e hc exo_own
  · rw [upd_ne (at_ne e hc exo_own), upd_ne (ne_of_none hc hz), hc]
  · rw [upd_ne (at_ne e hc exo_tup), upd_ne (ne_of_none hc hz), hc]
theorem xst_old (T : ExC X.K C bm0 nw) (I : Inv X pins σ H s) (e : H a = some (exo a C (some dx))) (ed : H dx = some (exd dx fs)) (hl : fs.length ≤ 900) (hno : PySem.W.findIn X.K (.ref C) f = some none) (ry : RelV y u)
    (k : ∀ s', Inv X pins σ (upd H dx (exd dx ((f, y) :: fs))) s' → Q () s') : wpAny (model X.prog X.w) A (setAttr (.ref a) f u) Q E s := by
  obtain ⟨nm, q, N, bs, bm, sn, sub, ab, col, dd, k0, k1, k2, k3, k5, hC, _, hob, hnp⟩ := T.cls
  let cd : ClassData := { name := nm, bases := bs, mro := .ref C :: bm, ns := N, qualname := q, hasDict := true, slotNames := sn, subclasses := sub, abstract := ab, collection := col, hasDel := false }
  have hcl : PySem.W.clsIn X.K C = some cd := by unfold PySem.W.clsIn; rw [hC] <;> rfl
  obtain ⟨t1, ho⟩ := exo_at I.hok e
  obtain ⟨mA, hns, rel⟩ := exd_at I.hok ed
  have hw := within_of rel
  obtain ⟨h0, gn, dr, tk, ost⟩ := s
  obtain ⟨oD, _, _, hoD, _, _⟩ := hns.count hw
  have J : PySem.W.InstAt h0 a { cls := .ref C, dict := some dx, data := .fields #[.ref t1, .none, .none, .none, .bool false, .none] } C (some oD) := ⟨ho, rfl, rfl, hoD⟩
  refine PySem.W.set_plain I.kIn J T.sa (osa_any I.kIn J hcl (fun self => by rw [refuseLoop_ref]; exact hnp self) (by rw [List.contains_cons, hob, Bool.or_true]) hno ?_)
  have hLc : PySem.W.Looks (model X.prog X.w) h0 (classData C) cd := PySem.W.looks_clsIn I.kIn hcl
  have hz : (fs.map (·.1)).length ≤ 1000 := by rw [List.length_map]; omega
  unfold storeInOwnDict ownDictForStores
  repeat (first | with_reducible refine PySem.OEX.store_in_old hns hw hz ?_ | with_reducible refine wpAny_loadPart_at ho ?_ | with_reducible refine hLc.at ?_ | wp_step)
  intro h2 tk2 hn hsb
  have live : ∃ o, h2.get? dx = some o := let ⟨o, _, _, e', _⟩ := hn; ⟨o, e'⟩
  exact k _ (I.write (t' := tk2) (x := dx) (e := dx) (o := exd dx ((f, y) :: fs)) (by rw [ed]; trivial) (.inl rfl) (fun b o hb q => (hsb.2 b hb).trans q) live (exd_ok hn (relO_put ry rel)))
end

/-! ### an __init__ that stores its fields -/
inductive Src where
  | par (i : Nat) | txt (s : Str)
def Src.v (σ : L2.St) : Src → Option V
  | .par i => (σ[i]?).join
  | .txt s => some (.str s)
def tX1 (K : PySem.W.Frag) (bm0 : List Value) (nw : String) (f : Str) (r : Src) : TS := fun D σ H => ∃ (a C : Addr) (y : V), σ[0]? = some (some (.ref a)) ∧ r.v σ = some y ∧ ExC K C bm0 nw ∧ PySem.W.findIn K (.ref C) f = some none ∧
  ((H a = some (exo a C none) ∧ ∀ dx, H dx = none → dx ≠ a → D.nx σ (upd (upd H dx (exd dx [(f, y)])) a (exo a C (some dx)))) ∨
    ∃ (dx : Addr) (fs : List (Str × V)), H a = some (exo a C (some dx)) ∧ H dx = some (exd dx fs) ∧ fs.length ≤ 900 ∧ D.nx σ (upd H dx (exd dx ((f, y) :: fs))))
section
variable {X : Cx} {bm0 : List Value} {nw : String} {f : Str} {r : Src} {e : Expr} {n : Str} {p p' pos : Pos}
/-- where a field's value comes from -/
def SrcOk (X : Cx) (e : Expr) (r : Src) : Prop := ∃ te, PE X e te ∧ ∀ σ H y Q, r.v σ = some y → Q y H → te σ H Q
theorem src_txt {s : Str} {j pos} : SrcOk X (.Constant (.str s) j pos) (.txt s) := ⟨_, pe_str, fun σ H y Q h q => by
  cases h
  exact q⟩
theorem src_par (i : Nat) {x : Str} (hN : X.N[i]? = some x := by rfl) (hv : Vis X.env.scope x := by first | exact Or.inl rfl | exact Or.inr (Or.inl rfl) | exact Or.inr (Or.inr rfl)) (hd : (x == ("__debug__" : Str)) = false := by decide)
    (hcd : (x == ("__classdict__" : Str)) = false := by decide) : SrcOk X (.Name x p) (.par i) := ⟨_, pe_var hN hv hd hcd, fun σ H y Q h q => by
  have h : (σ[i]?).join = some y := h
  cases e : σ[i]? with
  | none => rw [e] at h; cases h
  | some o =>
    rw [e] at h
    cases o with
    | none => cases h
    | some z => cases h; exact ⟨y, e, q⟩⟩
theorem ps_x1 {x : Str} (he : SrcOk X e r) (hN : X.N[0]? = some x := by rfl) (hv : Vis X.env.scope x := by first | exact Or.inl rfl | exact Or.inr (Or.inl rfl) | exact Or.inr (Or.inr rfl)) (hd : (x == ("__debug__" : Str)) = false := by decide)
    (hcd : (x == ("__classdict__" : Str)) = false := by decide) (hs : swapsWith e (some (.Attribute (.Name x p) f p')) pos.line X.env = pure false := by rfl) : PS X (.Assign [.Attribute (.Name x p) f p'] e pos) (tX1 X.K bm0 nw f r) := by
  obtain ⟨te, hte, hq⟩ := he
  refine ⟨fun pins s σ H D I h => ?_⟩
  obtain ⟨a, C, y, h0, hy, T, hno, z⟩ := h
  have me : PE X (.Name x p) (tVar 0) := pe_var hN hv hd hcd
  refine plainObj_wpAny_Assign_Attribute (thn (hte.run pins s σ H (fun y' H' => y' = y ∧ H' = H) I (hq σ H y _ hy ⟨rfl, rfl⟩)) fun v s1 ⟨y1, H1, I1, r1, q1, q2⟩ => ?_) hs
  subst q1 q2
  refine thn (me.run pins s1 σ H1 (fun x' H' => x' = .ref a ∧ H' = H1) I1 ⟨.ref a, h0, rfl, rfl⟩) fun v2 s2 ⟨y2, H2, I2, r2, q3, q4⟩ => ?_
  subst q3 q4
  obtain rfl : v2 = Value.ref a := r2
  rcases z with ⟨ea, z⟩ | ⟨dx, fs, ea, ed, hl, z⟩
  · exact xst_new T I2 ea hno r1 fun dx s' n ne J => ⟨σ, _, J, z dx n ne⟩
  · exact xst_old T I2 ea ed hl hno r1 fun s' J => ⟨σ, _, J, z⟩
/-- the fields as they stand: the last one first -/
def zzX (L : List (Str × Src)) (ys : List V) (fs : List (Str × V)) : List (Str × V) := match L, ys with
  | (f, _) :: L, y :: ys => zzX L ys ((f, y) :: fs)
  | _, _ => fs
def tX (K : PySem.W.Frag) (bm0 : List Value) (nw : String) (L : List (Str × Src)) : TS := fun D σ H => ∃ (a C dx : Addr) (ys : List V) (fs : List (Str × V)), σ[0]? = some (some (.ref a)) ∧ L.map (fun p => p.2.v σ) = ys.map some ∧ ExC K C bm0 nw ∧
  (∀ p ∈ L, PySem.W.findIn K (.ref C) p.1 = some none) ∧ H a = some (exo a C (some dx)) ∧ H dx = some (exd dx fs) ∧ fs.length + L.length ≤ 900 ∧ dx ≠ a ∧ D.nx σ (upd H dx (exd dx (zzX L ys fs)))
theorem upd_id {H : Hp} {a : Addr} {o : HO} (h : H a = some o) : upd H a o = H := by
  funext b
  by_cases hb : b = a
  · rw [hb, upd_same, h]
  · rw [upd_ne hb]
theorem upd_upd {H : Hp} {a : Addr} {o o' : HO} : upd (upd H a o) a o' = upd H a o' := by
  funext b
  by_cases hb : b = a
  · rw [hb, upd_same, upd_same]
  · rw [upd_ne hb, upd_ne hb, upd_ne hb]
theorem upd_swap {H : Hp} {a b : Addr} {o o' : HO} (n : a ≠ b) : upd (upd H a o) b o' = upd (upd H b o') a o := by
  funext c
  by_cases hb : c = b
  · rw [hb, upd_same, upd_ne n.symm, upd_same]
  · rw [upd_ne hb]
    by_cases ha : c = a
    · rw [ha, upd_same, upd_same]
    · rw [upd_ne ha, upd_ne ha, upd_ne hb]
theorem pssx_nil : PSs X [] (tX X.K bm0 nw []) := PSs.imp pss_nil fun D σ H h => by
  obtain ⟨a, C, dx, ys, fs, h0, hy, T, hno, ea, ed, hl, ne, z⟩ := h
  cases ys with
  | cons _ _ => cases hy
  | nil =>
    have z : D.nx σ (upd H dx (exd dx fs)) := z
    rw [upd_id ed] at z
    exact z
theorem pssx_cons {st : Stmt} {sts : List Stmt} {L : List (Str × Src)} (h1 : PS X st (tX1 X.K bm0 nw f r)) (h2 : PSs X sts (tX X.K bm0 nw L)) : PSs X (st :: sts) (tX X.K bm0 nw ((f, r) :: L)) := PSs.imp (pss_cons h1 h2) fun D σ H h => by
  obtain ⟨a, C, dx, ys, fs, h0, hy, T, hno, ea, ed, hl, ne, z⟩ := h
  cases ys with
  | nil => cases hy
  | cons y ys =>
    have e1 := List.cons.inj hy
    refine ⟨a, C, y, h0, e1.1, T, hno _ List.mem_cons_self, .inr ⟨dx, fs, ea, ed, by simp only [List.length_cons] at hl; omega, a, C, dx, ys, (f, y) :: fs, h0, e1.2, T, fun p hp => hno p (List.mem_cons_of_mem _ hp), ?_, upd_same, ?_, ne, ?_⟩⟩
    · rw [upd_ne ne.symm]; exact ea
    · simp only [List.length_cons] at hl ⊢; omega
    · rw [upd_upd]; exact z
/-- the whole body: at an error that has no field yet -/
def tXs (K : PySem.W.Frag) (bm0 : List Value) (nw : String) (L : List (Str × Src)) : TS := fun D σ H => ∃ (a C : Addr) (ys : List V), σ[0]? = some (some (.ref a)) ∧ L.map (fun p => p.2.v σ) = ys.map some ∧ ExC K C bm0 nw ∧
  (∀ p ∈ L, PySem.W.findIn K (.ref C) p.1 = some none) ∧ H a = some (exo a C none) ∧ L.length ≤ 900 ∧ ∀ dx, H dx = none → dx ≠ a → D.nx σ (upd (upd H dx (exd dx (zzX L ys []))) a (exo a C (some dx)))
theorem pssx_all {st : Stmt} {sts : List Stmt} {L : List (Str × Src)} (h1 : PS X st (tX1 X.K bm0 nw f r)) (h2 : PSs X sts (tX X.K bm0 nw L)) : PSs X (st :: sts) (tXs X.K bm0 nw ((f, r) :: L)) := PSs.imp (pss_cons h1 h2) fun D σ H h => by
  obtain ⟨a, C, ys, h0, hy, T, hno, ea, hl, z⟩ := h
  cases ys with
  | nil => cases hy
  | cons y ys =>
    have e1 := List.cons.inj hy
    refine ⟨a, C, y, h0, e1.1, T, hno _ List.mem_cons_self, .inl ⟨ea, fun dx hn ne => ⟨a, C, dx, ys, [(f, y)], h0, e1.2, T, fun p hp => hno p (List.mem_cons_of_mem _ hp), upd_same, ?_, ?_, ne, ?_⟩⟩⟩
    · rw [upd_ne ne, upd_same]
    · simp only [List.length_cons, List.length_nil] at hl ⊢; omega
    · rw [upd_swap ne.symm, upd_upd]; exact z dx hn ne
end
/-- a field's value among the arguments (self is the 0-th) -/
def Src.arg (vs : List V) : Src → Option V
  | .par 0 => none
  | .par (i + 1) => vs[i]?
  | .txt s => some (.str s)
/-- the promise of such an __init__ -/
def spX (C : Addr) (L : List (Str × Src)) (n : Nat) : Sp := fun vs H Q _ => ∃ (a : Addr) (ws ys : List V), vs = .ref a :: ws ∧ ws.length = n ∧ L.map (fun p => p.2.arg ws) = ys.map some ∧ H a = some (exo a C none) ∧
  ∀ dx, H dx = none → dx ≠ a → Q .non (upd (upd H dx (exd dx (zzX L ys []))) a (exo a C (some dx)))
theorem arg_v {N : List Str} {a : Addr} {ws : List V} {y : V} {r : Src} (h : r.arg ws = some y) : r.v (start N (.ref a :: ws)) = some y := by
  cases r with
  | txt s => exact h
  | par i =>
    cases i with
    | zero => cases h
    | succ i =>
      have h : ws[i]? = some y := h
      show ((start N (.ref a :: ws))[i + 1]?).join = some y
      unfold start
      rw [List.getElem?_append_left (by have := (List.getElem?_eq_some_iff.mp h).1; simp; omega), List.getElem?_map, List.getElem?_cons_succ, h] <;> rfl
theorem args_v {N : List Str} {a : Addr} {ws : List V} : ∀ {L : List (Str × Src)} {ys : List V}, L.map (fun p => p.2.arg ws) = ys.map some → L.map (fun p => p.2.v (start N (.ref a :: ws))) = ys.map some
  | [], ys, h => h
  | p :: L, [], h => by cases h
  | p :: L, y :: ys, h => by
    have e := List.cons.inj h
    have e1 : p.2.arg ws = some y := e.1
    simp only [List.map_cons]
    rw [arg_v e1, args_v e.2]
section
variable {P : Program} {w : World} {K : PySem.W.Frag} {mg : Str → Option Value} {base : Heap}
theorem Fun.okI {x qual : Str} {st : Stmt} {f : Addr} {fd : FuncData} {N ps : List Str} {k : Nat} {L : List (Str × Src)} {bm0 : List Value} {nw : String} {C : Addr} (F : Fun K x qual st f fd) (S : FnScope N ps (defScope st)) (T : ExC K C bm0 nw)
    (hno : ∀ p ∈ L, PySem.W.findIn K (.ref C) p.1 = some none) (hl : L.length ≤ 900) (n : Nat) (hn : ps.length = n + 1)
    (hb : ∀ (cdv : Value) (A : Around) (outer : List PySem.Env) (s : Shared) (H : Hp) (E : XK), PSs (cxOf CX0 P w K mg base N qual (defScope st) f cdv A outer s H E).nox (defBody st) (tXs K bm0 nw L)) : FnOk P w K mg base CX0 (k + 1) f fd ps (spX C L n) := by
  refine Fun.ok F S (fun vs H Q E h => ?_) fun cdv A outer s H vs Q E hr h => ⟨_, hb cdv A outer s H E, ?_⟩
  · obtain ⟨a, ws, ys, rfl, h1, _⟩ := h
    rw [List.length_cons, h1, hn]
  · obtain ⟨a, ws, ys, rfl, h1, h2, h3, h4⟩ := h
    exact ⟨a, C, ys, by unfold start; simp, args_v h2, T, hno, h3, hl, fun dx hd ne => h4 dx hd ne⟩
end

/-! ### C(e, ..), raised -/
def tMkX (C : Addr) (L : List (Str × Src)) (n : Nat) (ta : TA) : L2.St → Hp → XK → Prop := fun σ H Q => ta σ H fun vs H1 => vs.length = n ∧ n ≤ 1000 ∧ ∃ ys, L.map (fun p => p.2.arg vs) = ys.map some ∧ ∀ dx, H1 dx = none → Q (.ref C) (some dx) (upd H1 dx (.xd (zzX L ys [])))
section
variable {X : Cx} {e : Expr} {es : List Expr} {ta : TA} {p pos : Pos} {bm0 : List Value} {nw B ini : String}
theorem pmk_x {x : Str} {C fI : Addr} {k n : Nat} {fd : FuncData} {ps : List Str} {L : List (Str × Src)} (F : ExcBaseFacts B nw ini bm0) (T : ExC X.K C bm0 nw) (iC : PySem.W.findIn X.K (.ref C) "__init__" = some (some (.ref fI)))
    (tI : PySem.W.typeIn X.K (.ref fI) = some (.type "function")) (F1 : FnOk X.prog X.w X.K X.mg X.base CX0 k fI fd ps (spX C L n)) (hr : Room (k + 1) X.A) (hb : Binds X.K fd ps []) (hg : Gl X x) (hm : X.mg x = some (.ref C)) (ha : PA X (e :: es) ta)
    (hdb : (x == ("__debug__" : Str)) = false := by decide) (he : starEach (e :: es) X.env = (false, eval e X.env) :: starEach es X.env := by rfl) (hpl : (backTo pos (starEach es X.env)).any (·.1) = false := by rfl) :
    PMk X (.Call (.Name x p) (e :: es) [] pos) (tMkX C L n ta) := by
  intro pins s σ H Q I h
  obtain ⟨nm, q, N, bs, bm, sn, sub, ab, col, dd, k0, k1, k2, k3, k5, hC, hbm, _, _⟩ := T.cls
  refine wpAny_Call_Name_kw (ld_glob I hg hm ?_ hdb)
  refine PySem.W.callWith_K (h₀ := X.base) I.ok.mod.kin T.kC (thn (ha.run pos pins s σ H _ I h) fun us s1 ⟨vs, H1, I1, r1, hv, hz, ys, hy, q1⟩ => ⟨I1.kIn, ?_⟩) he hpl
  show wpAny _ _ (call (.ref C) us) _ _ _
  obtain ⟨hp, gn, dr, tk, ost⟩ := s1
  let c := hp.objs.size + 1
  have hn : H1 c = none := I1.hok.fresh (Nat.le_succ _)
  let h2 := (hp.push (PySem.W.kdv_tup us)).push (PySem.HandSPX.excO C hp.objs.size)
  have kk : ∀ b o, hp.get? b = some o → h2.get? b = some o := fun b o e => Heap.get?_push_of_some _ (Heap.get?_push_of_some _ e)
  have hget : h2.get? c = some (PySem.HandSPX.excO C hp.objs.size) := by show ((hp.push (PySem.W.kdv_tup us)).push (PySem.HandSPX.excO C hp.objs.size)).get? (hp.objs.size + 1) = _; heap_get
  have I2 : Inv X pins σ (upd H1 c (exo c C none)) ⟨h2, gn, dr, tk, ost⟩ := I1.laid (t' := tk) (a := c) (o := exo c C none) (h' := h2) kk (Nat.le_succ _) (exo_ok hget)
  have r2 : Vals (V.ref c :: vs) (Value.ref c :: us) := .cons rfl r1
  have hus : us.length = n := by rw [← Paired.length r1]; exact hv
  let Q2 : VK := fun v H2 => v = .non ∧ ∃ (d : Addr) (fs : List (Str × V)), H2 c = some (exo c C (some d)) ∧ H2 d = some (exd d fs) ∧ H1 d = none ∧ Q (.ref C) (some d) (upd (del H2 c) d (.xd fs))
  have hq : spX C L n (V.ref c :: vs) (upd H1 c (exo c C none)) Q2 (fun _ _ _ => False) := by
    refine ⟨c, vs, ys, rfl, hv, hy, upd_same, fun dx hd ne => ⟨rfl, dx, zzX L ys [], upd_same, ?_, ?_, ?_⟩⟩
    · rw [upd_ne ne, upd_same]
    · rw [upd_ne ne] at hd; exact hd
    · rw [upd_ne ne] at hd
      have z := q1 dx hd
      have eq : upd (del (upd (upd (upd H1 c (exo c C none)) dx (exd dx (zzX L ys []))) c (exo c C (some dx))) c) dx (.xd (zzX L ys [])) = upd H1 dx (.xd (zzX L ys [])) := by
        funext b
        by_cases h1 : b = dx
        · rw [h1, upd_same, upd_same]
        · rw [upd_ne h1, upd_ne h1]
          by_cases h2 : b = c
          · rw [h2, del_same, hn]
          · rw [del_ne h2, upd_ne h2, upd_ne h1, upd_ne h2]
      rw [eq]
      exact z
  have hlen : (Value.ref c :: us ++ []).length = ps.length := by
    have e := F1.len _ _ _ _ hq
    rw [List.append_nil, ← e, List.length_cons, List.length_cons, hus, hv]
  have hul : us.length ≤ sizeLine := by rw [hus, sizeLine_eq]; omega
  have run := F1.run (X.A.under (.builtin "type.__call__" ⟨.ref C :: us, []⟩)) X.stack _ _ ⟨Value.ref c :: us, []⟩ (Value.ref c :: us) _ Q2 (fun _ _ _ => False) (hr.make C us []) (I2.env0.make C us []) (by have z := hb ⟨h2, gn, dr, tk, ost⟩ (Value.ref c :: us) I2.kIn hlen; rwa [List.append_nil] at z) r2 hq
  refine wpAny_call (PySem.HandSPX.call_own F hbm (I1.kIn _ _ hC) (PySem.W.looks_findIn I1.kIn iC) (fun self => PySem.W.bind_fn I1.kIn self tI) hul (codeAny_mono run fun r s' hq' => ?_))
  cases r with
  | error er => exact False.elim hq'
  | ok fl =>
    cases fl with
    | ret u =>
      obtain ⟨v, H2, os2, bare2, un2, hok2, rv, ev, d, fs, ea, ed, hd1, q2⟩ := hq'
      subst ev
      obtain ⟨h3, g2, d2, t2, os'⟩ := s'
      exact ⟨rv, mk_end (raises_own T.exC T.tyC) I1 (Nat.le_succ _) kk un2 hok2 os2 bare2 ea ed hd1 q2⟩
    | next => exact False.elim hq'
    | brk => exact False.elim hq'
    | cont => exact False.elim hq'
end
end L2.DL

/-! DL14: raise, try, the fields of a caught error. -/
namespace L2.DL
open PySem PySem.Spec PyProof.Rows
/-! ### raise C(e, ..) -/
def Src.d (ds : List D) : Src → Option D
  | .par 0 => none
  | .par (i + 1) => ds[i]?
  | .txt s => some (.str s)
def fldD (ds : List D) : List (Str × Src) → List Str → List D → Option (List Str × List D)
  | [], ns, vs => some (ns, vs)
  | (f, s) :: L, ns, vs => match s.d ds with
    | some d => fldD ds L (f :: ns) (d :: vs)
    | none => none
theorem src_rep {r : RC} {vs : List V} {ds : List D} (q : Reps r vs ds) {s : Src} {d : D} (h : s.d ds = some d) : ∃ y, s.arg vs = some y ∧ Rep r y d := by
  cases s with
  | txt s => cases h; exact ⟨_, rfl, .str s⟩
  | par i =>
    cases i with
    | zero => cases h
    | succ i => exact q.get h
theorem fld_rep {r : RC} {vs : List V} {ds : List D} (q : Reps r vs ds) : ∀ {L : List (Str × Src)} {ns ns' : List Str} {es es' : List D} {fs : List (Str × V)}, fldD ds L ns es = some (ns', es') → fs.map (·.1) = ns → Reps r (fs.map (·.2)) es →
    ∃ ys, L.map (fun p => p.2.arg vs) = ys.map some ∧ (zzX L ys fs).map (·.1) = ns' ∧ Reps r ((zzX L ys fs).map (·.2)) es'
  | [], ns, ns', es, es', fs, h, h1, h2 => by
    cases h
    exact ⟨[], rfl, h1, h2⟩
  | (f, s) :: L, ns, ns', es, es', fs, h, h1, h2 => by
    unfold fldD at h
    cases e : s.d ds with
    | none => simp only [e] at h; cases h
    | some d =>
      simp only [e] at h
      obtain ⟨y, e1, e2⟩ := src_rep q e
      obtain ⟨ys, z1, z2, z3⟩ := fld_rep q (fs := (f, y) :: fs) h (by simp [h1]) (.cons e2 h2)
      exact ⟨y :: ys, by simp only [List.map_cons]; rw [e1, z1], z2, z3⟩
/-- the module's error class c: n arguments, the fields L -/
structure Erx (P : Program) (w : World) (K : PySem.W.Frag) (mg : Str → Option Value) (base : Heap) (c : Str) (k n : Nat) (L : List (Str × Src)) : Prop where
  ex : ∃ (C fI : Addr) (fd : FuncData) (ps : List Str) (bm0 : List Value) (nw B ini : String), mg c = some (.ref C) ∧ ExcBaseFacts B nw ini bm0 ∧ ExC K C bm0 nw ∧ PySem.W.findIn K (.ref C) "__init__" = some (some (.ref fI)) ∧
    PySem.W.typeIn K (.ref fI) = some (.type "function") ∧ FnOk P w K mg base CX0 k fI fd ps (spX C L n) ∧ Binds K fd ps []
def raiM (c : Str) (L : List (Str × Src)) (n : Nat) (fa : Mo (List D)) : Mo Fl := bnd fa fun ds ρ μ => if ds.length = n then (match fldD ds L [] [] with
  | some (ns, vs) => .ex c ns vs ρ μ
  | none => .no) else .no
section
variable {Φ : Ctx} {X : Cx} {pos pos' p : Pos} {x : Str} {e : Expr} {es : List Expr} {fa : Mo (List D)}
theorem ds_raise {k j n : Nat} {L : List (Str × Src)} (E : Erx X.prog X.w X.K X.mg X.base x k n L) (cn : Cn Φ X j) (ha : DA Φ X (e :: es) fa) (hg : Gl X x) (hj : k + 1 ≤ j := by decide) (hn : n ≤ 1000 := by decide) (hdb : (x == ("__debug__" : Str)) = false := by decide)
    (he : starEach (e :: es) X.env = (false, eval e X.env) :: starEach es X.env := by rfl) (hpl : (backTo pos (starEach es X.env)).any (·.1) = false := by rfl) : DS Φ X (.Raise (some (.Call (.Name x p) (e :: es) [] pos)) none pos') (raiM x L n fa) := by
  obtain ⟨C, fI, fd, ps, bm0, nw, B, ini, hm, F, T, iC, tI, F1, hb⟩ := E.ex
  refine PS.imp (ps_raise cn.calm cn.tk (pmk_x F T iC tI F1 (cn.rm.mono hj) hb hg hm ha hdb he hpl)) fun D σ H ⟨ρ, μ, Cs, os, R, z⟩ => ⟨ρ, μ, Cs, os, R, ?_⟩
  unfold raiM bnd at z
  cases e1 : fa ρ μ with
  | no => rw [e1] at z; exact z
  | ex c ns ds ρ1 μ1 => rw [e1] at z; exact fun Cc dx H' C' os' R S g e => z Cc dx σ H' C' os' R S g e
  | ok ds ρ1 μ1 =>
    rw [e1] at z
    intro vs H1 C1 os1 R1 S1 q1
    dsimp only at z
    split at z
    · rename_i hl
      cases e2 : fldD ds L [] [] with
      | none => rw [e2] at z; exact z.elim
      | some nv =>
        obtain ⟨ns, es'⟩ := nv
        rw [e2] at z
        obtain ⟨ys, h1, h2, h3⟩ := fld_rep q1 (fs := []) e2 rfl .nil
        refine ⟨by rw [q1.length, hl], hn, ys, h1, fun dx hd => ?_⟩
        have gr : Grow H1 (upd H1 dx (.xd (zzX L ys []))) := Grow.upd hd
        exact z C dx σ _ C1 os1 (R1.grow gr) (S1.trans (stp_grow gr)) hm ⟨_, upd_same, R1.fresh hd, h2, h3.step (stp_grow gr)⟩
    · exact z.elim
end

/-! ### try -/
/-- is an error of the first class caught by a clause of the second one -/
abbrev Sub := List ((Str × Str) × Bool)
def SubOk (K : PySem.W.Frag) (mg : Str → Option Value) (T : Sub) : Prop := ∀ c h b, T.lookup (c, h) = some b → ∀ Cc Hc, mg c = some (.ref Cc) → mg h = some (.ref Hc) → PySem.W.exmOne K (.ref Cc) (.ref Hc) = some b
def noE : Option Ent → Option Ent
  | some (.eh _ _ _) => none
  | t => t
def clr (ρ : Env) : Env := ρ.map noE
structure HD where
  h : Str
  i : Option Nat
  f : Mo Fl
def HD.beg (h : HD) (t : Ent) (ρ : Env) : Env := match h.i with
  | none => clr ρ
  | some i => (clr ρ).set i (some t)
def HD.fin (h : HD) (ρ : Env) : Env := match h.i with
  | none => clr ρ
  | some i => (clr ρ).set i none
def hdl (T : Sub) (c : Str) (ns : List Str) (vs : List D) : List HD → Mo Fl
  | [] => fun ρ μ => .ex c ns vs ρ μ
  | h :: r => match T.lookup (c, h.h) with
    | some true => fun ρ μ => match h.f (h.beg (.eh c ns vs) ρ) μ with
      | .ok fl ρ' μ' => .ok fl (h.fin ρ') μ'
      | _ => .no
    | some false => hdl T c ns vs r
    | none => no
def tryM (T : Sub) (body : Mo Fl) (hs : List HD) : Mo Fl := fun ρ μ => match body ρ μ with
  | .ex c ns vs ρ' μ' => hdl T c ns vs hs ρ' μ'
  | o => o
def Ctx.su (Φ : Ctx) (a dx : Addr) (c : Str) : Ctx := { Φ with W := fun _ _ _ _ => False, eh := some (a, dx), ec := c }
/-- what a suite may know of the error -/
structure EhX (Φ : Ctx) (X : Cx) (a : Addr) (o : Obj) : Prop where
  ex : ∃ dx Cc, Φ.eh = some (a, dx) ∧ X.mg Φ.ec = some (.ref Cc) ∧ Zc (.ref Cc) (some dx) o ∧ ∃ ws, o.data = .fields ws
/-- a suite's rule -/
def SuD (Φ : Ctx) (X : Cx) (bs : List Stmt) (f : Mo Fl) : Prop := ∀ (a dx : Addr) (c : Str) (o : Obj) (pn : List (Addr × Obj)), EhX (Φ.su a dx c) X a o → DSs (Φ.su a dx c) (X.suite a ((a, o) :: pn)) bs f
inductive DHs (Φ : Ctx) (X : Cx) : List ExceptHandler → List HD → Prop
  | nil : DHs Φ X [] []
  | bare {x : Str} {b : Stmt} {bs : List Stmt} {p q : Pos} {hs : List ExceptHandler} {l : List HD} {f : Mo Fl} (hg : Gl X x) (hm : ∃ C, X.mg x = some (.ref C)) (hd : (x == ("__debug__" : Str)) = false) (su : SuD Φ X (b :: bs) f) (r : DHs Φ X hs l) :
      DHs Φ X (.ExceptHandler (some (.Name x p)) none (b :: bs) q :: hs) (⟨x, none, f⟩ :: l)
  | as {x n : Str} {i : Nat} {b : Stmt} {bs : List Stmt} {p q : Pos} {hs : List ExceptHandler} {l : List HD} {f : Mo Fl} (hg : Gl X x) (hm : ∃ C, X.mg x = some (.ref C)) (hd : (x == ("__debug__" : Str)) = false) (hi : X.N[i]? = some n)
      (hl : X.env.kindOf n = some .local) (su : SuD Φ X (b :: bs) f) (r : DHs Φ X hs l) : DHs Φ X (.ExceptHandler (some (.Name x p)) (some n) (b :: bs) q :: hs) (⟨x, some i, f⟩ :: l)
section
variable {Φ : Ctx} {X : Cx}
theorem Rl.clr {Φ : Ctx} {K : PySem.W.Frag} {mg : Str → Option Value} {ρ : Env} {μ : Sto} {C : List Addr} {os : Os} {σ : L2.St} {H : Hp} (R : RlK Φ K mg ρ μ C os σ H) (w : WX) (e : Option (Addr × Addr)) (c : Str) : RlK { Φ with W := w, eh := e, ec := c } K mg (DL.clr ρ) μ C os σ H :=
  ⟨by unfold DL.clr; rw [List.length_map]; exact R.len, fun i t h => by
    unfold DL.clr at h
    rw [List.getElem?_map] at h
    obtain ⟨t0, h1, h2⟩ := Option.map_eq_some_iff.mp h
    cases t0 with
    | none => cases h2
    | some t0 =>
      obtain ⟨v, h3, h4⟩ := R.env i t0 h1
      refine ⟨v, h3, ?_⟩
      cases t0 with
      | sh d => cases h2; exact h4
      | ow d => cases h2; exact h4
      | bd c ns ds => cases h2; exact h4
      | eh c ns ds => exact (by cases h2), R.sto, R.own, R.fre, R.pre, R.cfr, R.cnd, R.clv, R.frm, R.alv⟩
theorem Rl.unset {Φ : Ctx} {K : PySem.W.Frag} {mg : Str → Option Value} {ρ : Env} {μ : Sto} {C : List Addr} {os : Os} {σ : L2.St} {H : Hp} (R : RlK Φ K mg ρ μ C os σ H) (i : Nat) : RlK Φ K mg (ρ.set i none) μ C os (σ.set i none) H :=
  ⟨by rw [List.length_set, List.length_set]; exact R.len, fun j t h => by
    by_cases hj : i = j
    · subst hj
      by_cases hl : i < ρ.length
      · rw [List.getElem?_set_self hl] at h; cases h
      · rw [List.getElem?_eq_none (by simpa using hl)] at h; cases h
    · rw [List.getElem?_set_ne hj] at h
      obtain ⟨v, h3, h4⟩ := R.env j t h
      exact ⟨v, by rw [List.getElem?_set_ne hj]; exact h3, h4⟩, R.sto, R.own, R.fre, R.pre, R.cfr, R.cnd, R.clv, R.frm, R.alv⟩
/-- the reading of a suite -/
def tSu (Φ : Ctx) (X : Cx) (f : Mo Fl) (a : Addr) (cls : Value) (d : Option Addr) : TS := fun D σ H => ∃ dx c Cc, d = some dx ∧ cls = .ref Cc ∧ X.mg c = some (.ref Cc) ∧ cS (Φ.su a dx c) X f D σ H
theorem SuD.ok {b : Stmt} {bs : List Stmt} {f : Mo Fl} (h : SuD Φ X (b :: bs) f) : SuO X b bs (tSu Φ X f) := fun a o cls d pn hz hf => ⟨fun pins s σ H D I q => by
  obtain ⟨dx, c, Cc, rfl, rfl, hm, q⟩ := q
  exact (h a dx c o pn ⟨dx, Cc, rfl, hm, hz, hf⟩).run pins s σ H D I q⟩
theorem hdl_at {T : Sub} {hds : List ExceptHandler} {hs : List HD} (hT : SubOk X.K X.mg T) (hk : DHs Φ X hds hs) : ∃ l, HsOk X hds l ∧ ∀ (E : Ends) (c : Str) (ns : List Str) (vs : List D) (ρ : Env) (μ : Sto) (C : List Addr) (os : Os) (σ : L2.St) (H : Hp) (Cc dx : Addr),
    Rl Φ X ρ μ C os σ H → X.mg c = some (.ref Cc) → EhR (rc Φ X C os H) dx c ns vs → PostS Φ X C os H (hdl T c ns vs hs ρ μ) E → wH X.K Φ.W E l (.ref Cc) (some dx) σ H := by
  have deal : ∀ (h : HD) (E : Ends) (c : Str) (ns : List Str) (vs : List D) (ρ : Env) (μ : Sto) (C : List Addr) (os : Os) (σ : L2.St) (H : Hp) (Cc dx a Hc : Addr), Rl Φ X ρ μ C os σ H → X.mg c = some (.ref Cc) → EhR (rc Φ X C os H) dx c ns vs →
      PostS Φ X C os H ((fun ρ μ => match h.f (h.beg (.eh c ns vs) ρ) μ with
        | .ok fl ρ' μ' => .ok fl (h.fin ρ') μ'
        | _ => .no : Mo Fl) ρ μ) E → tSu Φ X h.f a (.ref Cc) (some dx) ((⟨.ref Hc, h.i, tSu Φ X h.f⟩ : Hd).ends E) ((⟨.ref Hc, h.i, tSu Φ X h.f⟩ : Hd).beg σ a) H := by
    intro h E c ns vs ρ μ C os σ H Cc dx a Hc R hm he z
    have R1 : RlK (Φ.su a dx c) X.K X.mg (clr ρ) μ C os σ H := Rl.clr R _ _ _
    have R2 : RlK (Φ.su a dx c) X.K X.mg (h.beg (.eh c ns vs) ρ) μ C os ((⟨.ref Hc, h.i, tSu Φ X h.f⟩ : Hd).beg σ a) H := by
      cases e : h.i with
      | none =>
        unfold HD.beg
        simp only [e]
        exact R1
      | some i =>
        unfold HD.beg
        simp only [e]
        exact Rl.setv (Φ := Φ.su a dx c) (X := X) (v := .ref a) (t := .eh c ns vs) R1 ⟨a, dx, rfl, ⟨rfl, rfl⟩, he⟩
    refine ⟨dx, c, Cc, rfl, rfl, hm, h.beg (.eh c ns vs) ρ, μ, C, os, R2, ?_⟩
    cases e : h.f (h.beg (.eh c ns vs) ρ) μ with
    | no => simp only [e] at z; exact z
    | ex _ _ _ _ _ => simp only [e] at z; exact z.elim
    | ok fl ρ' μ' =>
      simp only [e] at z
      intro σ' H' C' os' R' S'
      have R3 : RlK Φ X.K X.mg (h.fin ρ') μ' C' os' ((⟨.ref Hc, h.i, tSu Φ X h.f⟩ : Hd).fin σ') H' := by
        have R4 : RlK Φ X.K X.mg (clr ρ') μ' C' os' σ' H' := Rl.clr R' Φ.W Φ.eh Φ.ec
        cases e : h.i with
        | none =>
          unfold HD.fin
          simp only [e]
          exact R4
        | some i =>
          unfold HD.fin
          simp only [e]
          exact Rl.unset R4 i
      have z := z _ H' C' os' R3 S'
      cases fl with
      | nx => exact z
      | bk => exact z
      | ct => exact z
      | rt d => exact z
      | ro d => exact z
  induction hk with
  | nil => exact ⟨[], .nil, fun E c ns vs ρ μ C os σ H Cc dx R hm he z => z Cc dx σ H C os R (Stp.refl _) hm he⟩
  | @bare x b bs p q hs l f hg hm hd su r ih =>
    obtain ⟨l', h1, h2⟩ := ih
    obtain ⟨Hc, hHc⟩ := hm
    refine ⟨⟨.ref Hc, none, tSu Φ X f⟩ :: l', .bare ⟨hg, hd, .inl hHc⟩ su.ok h1, fun E c ns vs ρ μ C os σ H Cc dx R hm he z => ?_⟩
    unfold hdl at z
    cases e : T.lookup (c, x) with
    | none => simp only [e] at z; exact z.elim
    | some k =>
      refine ⟨k, hT c x k e Cc Hc hm hHc, fun hk a _ => ?_, fun hk => ?_⟩
      · subst hk
        simp only [e] at z
        exact deal ⟨x, none, f⟩ E c ns vs ρ μ C os σ H Cc dx a Hc R hm he z
      · subst hk
        simp only [e] at z
        exact h2 E c ns vs ρ μ C os σ H Cc dx R hm he z
  | @as x n i b bs p q hs l f hg hm hd hi hl su r ih =>
    obtain ⟨l', h1, h2⟩ := ih
    obtain ⟨Hc, hHc⟩ := hm
    refine ⟨⟨.ref Hc, some i, tSu Φ X f⟩ :: l', .as ⟨hg, hd, .inl hHc⟩ hi hl su.ok h1, fun E c ns vs ρ μ C os σ H Cc dx R hm he z => ?_⟩
    unfold hdl at z
    cases e : T.lookup (c, x) with
    | none => simp only [e] at z; exact z.elim
    | some k =>
      refine ⟨k, hT c x k e Cc Hc hm hHc, fun hk a _ => ?_, fun hk => ?_⟩
      · subst hk
        simp only [e] at z
        exact deal ⟨x, some i, f⟩ E c ns vs ρ μ C os σ H Cc dx a Hc R hm he z
      · subst hk
        simp only [e] at z
        exact h2 E c ns vs ρ μ C os σ H Cc dx R hm he z
theorem ds_try {k : Nat} {T : Sub} {body : List Stmt} {h0 : ExceptHandler} {hds : List ExceptHandler} {hs : List HD} {f : Mo Fl} {pos : Pos} (cn : Cn Φ X k) (hT : SubOk X.K X.mg T)
    (hb : ∀ (W : WX) (pn : List (Addr × Obj)) (xe : Value → Shared → Prop), Cn { Φ with W := W } (X.tr pn xe) k → DSs { Φ with W := W } (X.tr pn xe) body f) (hk : DHs Φ X (h0 :: hds) hs) (st : X.stack = X.env :: X.outer := by rfl) (fr : X.env.frame = some X.env.locals := by rfl) :
    DS Φ X (.Try body (h0 :: hds) [] [] pos) (tryM T f hs) := by
  obtain ⟨l, h1, h2⟩ := hdl_at hT hk
  refine PS.imp (ps_tryH (tb := fun W => cS { Φ with W := W } X f) st fr cn.nd cn.tk (fun W pn xe tk po => hb W pn xe ⟨cn.nd, cn.calm, po, tk, cn.rm⟩) h1) fun E σ H ⟨ρ, μ, C, os, R, z⟩ => ⟨ρ, μ, C, os, Rl.wW R _, ?_⟩
  unfold tryM at z
  cases e : f ρ μ with
  | no => simp only [e] at z; exact z
  | ok fl ρ' μ' =>
    simp only [e] at z
    intro σ' H' C' os' R' S'
    have z := z σ' H' C' os' (Rl.unW R') S'
    cases fl with
    | nx => exact z
    | bk => exact z
    | ct => exact z
    | rt d => exact z
    | ro d => exact z
  | ex c ns vs ρ' μ' =>
    simp only [e] at z
    intro Cc dx σ' H' C' os' R' S' hm he
    exact h2 E c ns vs ρ' μ' C' os' σ' H' Cc dx (Rl.unW R') hm he (PostS.from S' z)

/-! ### e.f in a suite -/
/-- the classes cs and their fields fs -/
def XfT (K : PySem.W.Frag) (mg : Str → Option Value) (cs fs : List Str) : Prop := ∀ c ∈ cs, ∀ Cc, mg c = some (.ref Cc) → XfC K Cc ∧ ∀ f ∈ fs, PySem.W.findIn K (.ref Cc) f = some none
def exAt (cs fs : List Str) (i : Nat) (f : Str) : Mo D := fun ρ μ => match ρ[i]? with
  | some (some (.eh c ns vs)) => if c ∈ cs ∧ f ∈ fs then (match (ns.zip vs).lookup f with
    | some d => .ok d ρ μ
    | none => .no) else .no
  | _ => .no
theorem zip_look {r : RC} {f : Str} {d : D} : ∀ {fs : List (Str × V)} {ns : List Str} {vs : List D}, fs.map (·.1) = ns → Reps r (fs.map (·.2)) vs → (ns.zip vs).lookup f = some d → ∃ v, fs.lookup f = some v ∧ Rep r v d
  | [], ns, vs, h1, h2, h => by
    subst h1
    cases h
  | (g, y) :: fs, ns, vs, h1, h2, h => by
    subst h1
    cases h2 with
    | cons q t =>
      simp only [List.map_cons, List.zip_cons_cons] at h
      unfold List.lookup at h ⊢
      by_cases e : f == g
      · simp only [e] at h ⊢
        cases h
        exact ⟨y, rfl, q⟩
      · simp only [e] at h ⊢
        exact zip_look rfl t h
theorem de_exat {cs fs : List Str} {i : Nat} {a : Addr} {o : Obj} {pn : List (Addr × Obj)} {x f : Str} {p pos : Pos} (E : EhX Φ X a o) (T : XfT X.K X.mg cs fs) (hN : X.N[i]? = some x := by rfl)
    (hv : Vis X.env.scope x := by first | exact Or.inl rfl | exact Or.inr (Or.inl rfl) | exact Or.inr (Or.inr rfl)) (hd : (x == ("__debug__" : Str)) = false := by decide) (hcd : (x == ("__classdict__" : Str)) = false := by decide)
    (hb : attributeBase (.Name x p) f (X.suite a ((a, o) :: pn)).env (eval (.Name x p) (X.suite a ((a, o) :: pn)).env) = eval (.Name x p) (X.suite a ((a, o) :: pn)).env := by rfl) : DE Φ (X.suite a ((a, o) :: pn)) (.Attribute (.Name x p) f pos) (exAt cs fs i f) := by
  obtain ⟨dx, Cc, h1, h2, h3, h4⟩ := E.ex
  by_cases hc : Φ.ec ∈ cs ∧ f ∈ fs
  · obtain ⟨t1, t2⟩ := T _ hc.1 Cc h2
    refine PE.imp (pe_xf t1 (t2 f hc.2) h3 h4 (pe_var (X := X.suite a ((a, o) :: pn)) hN hv hd hcd) hb) fun σ H Q ⟨ρ, μ, C, os, R, z⟩ => ?_
    unfold exAt at z
    cases e : ρ[i]? with
    | none => simp only [e] at z; exact z.elim
    | some t =>
      cases t with
      | none => simp only [e] at z; exact z.elim
      | some t =>
        cases t with
        | sh d => simp only [e] at z; exact z.elim
        | ow d => simp only [e] at z; exact z.elim
        | bd _ _ _ => simp only [e] at z; exact z.elim
        | eh c ns vs =>
          simp only [e] at z
          split at z
          · obtain ⟨v, hv', a', dx', rfl, ⟨k1, k2⟩, gs, g1, g2, g3, g4⟩ := R.env i _ e
            rw [h1] at k1
            cases k1
            cases e2 : (ns.zip vs).lookup f with
            | none => simp only [e2] at z; exact z.elim
            | some d =>
              simp only [e2] at z
              obtain ⟨y, y1, y2⟩ := zip_look g3 g4 e2
              exact ⟨.ref a, hv', rfl, rfl, dx, gs, y, rfl, g1, y1, z y H C os R (Stp.refl _) y2⟩
          · exact z.elim
  · refine ⟨fun pins s σ H Q I ⟨ρ, μ, C, os, R, z⟩ => ?_⟩
    exfalso
    unfold exAt at z
    cases e : ρ[i]? with
    | none => simp only [e] at z; exact z.elim
    | some t =>
      cases t with
      | none => simp only [e] at z; exact z.elim
      | some t =>
        cases t with
        | sh d => simp only [e] at z; exact z.elim
        | ow d => simp only [e] at z; exact z.elim
        | bd _ _ _ => simp only [e] at z; exact z.elim
        | eh c ns vs =>
          simp only [e] at z
          split at z
          · rename_i hc2
            obtain ⟨v, hv', a', dx', rfl, ⟨k1, k2⟩, _⟩ := R.env i _ e
            exact hc ⟨k2 ▸ hc2.1, hc2.2⟩
          · exact z.elim
end
end L2.DL

/-! DL15: calls by keyword; an owned list that becomes a cell. -/
namespace L2.DL
open PySem PySem.Spec PyProof.Rows
/-- the items at the places ix -/
def pick {α : Type} (ix : List Nat) (l : List α) : List α := ix.filterMap (l[·]?)
theorem pick_vals {vs : List V} {us : List Value} (r : Vals vs us) : ∀ ix : List Nat, Vals (pick ix vs) (pick ix us)
  | [] => .nil
  | i :: ix => by
    have ih := pick_vals r ix
    unfold pick at ih ⊢
    rw [List.filterMap_cons, List.filterMap_cons]
    cases e : vs[i]? with
    | none =>
      have e2 : us[i]? = none := List.getElem?_eq_none (by rw [← r.length]; exact List.getElem?_eq_none_iff.mp e)
      rw [e2]
      exact ih
    | some v =>
      obtain ⟨u, hu, rv⟩ := r.get e
      rw [hu]
      exact .cons rv ih
theorem pick_reps {r : RC} {vs : List V} {ds : List D} (q : Reps r vs ds) : ∀ ix : List Nat, Reps r (pick ix vs) (pick ix ds)
  | [] => .nil
  | i :: ix => by
    have ih := pick_reps q ix
    unfold pick at ih ⊢
    rw [List.filterMap_cons, List.filterMap_cons]
    cases e : ds[i]? with
    | none =>
      have e2 : vs[i]? = none := List.getElem?_eq_none (by rw [q.length]; exact List.getElem?_eq_none_iff.mp e)
      rw [e2]
      exact ih
    | some v =>
      obtain ⟨u, hu, rv⟩ := q.get e
      rw [hu]
      exact .cons rv ih
section
variable {X : Cx} {CX : CXT} {k n : Nat} {f : Addr} {fd : FuncData} {ps ks : List Str} {sp : Sp} {E : L2.St → XK} {x : Str} {p pos : Pos} {es : List Expr} {kws : List Keyword} {t tk : TA} {ix : List Nat}
/-- f(e, .., k = v, ..), with any number of positional arguments -/
def tKw (n m : Nat) (ix : List Nat) (sp : Sp) (E : L2.St → XK) (t tk : TA) : TE := fun σ H Q => t σ H fun vs H1 => tk σ H1 fun zs H2 => vs.length = n ∧ zs.length = m ∧ sp (pick ix (vs ++ zs)) H2 Q (E σ)
/-- n positional arguments, then the keywords ks; the parameters get the items at ix -/
def KwB (K : PySem.W.Frag) (fd : FuncData) (ps ks : List Str) (n : Nat) (ix : List Nat) : Prop :=
  ∀ (s : Shared) (us ws : List Value), K.In s.heap → us.length = n → ws.length = ks.length → BindsTo s fd ⟨us, ks.zip ws⟩ (ps.zip (pick ix (us ++ ws)))
theorem pe_kw (F : FnOk X.prog X.w X.K X.mg X.base CX k f fd ps sp) (hr : Room k X.A) (hg : Gl X x) (hm : X.mg x = some (.ref f)) (hk : PySem.W.keepIn X.K (.ref f) = true) (hb : KwB X.K fd ps ks n ix) (hx : ∀ σ, PassesAt CX X σ (E σ))
    (ha : PA X es t) (hkw : PK X kws tk) (hall : (backToKw pos (keywordEach kws X.env)).all (·.1.isSome) = true := by rfl) (hks : (backToKw pos (keywordEach kws X.env)).filterMap (·.1) = ks := by rfl)
    (hdb : (x == ("__debug__" : Str)) = false := by decide) (hpl : ((backTo pos (starEach es X.env)).any (·.1) || (backToKw pos (keywordEach kws X.env)).any (·.1.isNone)) = false := by rfl)
    (he : (es = [] ∧ n = 0) ∨ ∃ e r, es = e :: r ∧ starEach (e :: r) X.env = (false, eval e X.env) :: starEach r X.env := by first | exact .inl ⟨rfl, rfl⟩ | exact .inr ⟨_, _, rfl, rfl⟩) :
    PE X (.Call (.Name x p) es kws pos) (tKw n ks.length ix sp E t tk) := by
  refine ⟨fun pins s σ H Q I h => wpAny_Call_Name_kw (ld_glob I hg hm ?_ hdb)⟩
  have go : ∀ {us ws : List Value} {vs zs : List V} {s2 : Shared} {H2 : Hp}, Inv X pins σ H2 s2 → Vals vs us → Vals zs ws → vs.length = n → zs.length = ks.length → sp (pick ix (vs ++ zs)) H2 Q (E σ) → wpAny (model X.prog X.w) X.A (call (.ref f) us (ks.zip ws)) (EP X pins σ Q) X.xe s2 := by
    intro us ws vs zs s2 H2 I2 r rz l1 l2 q
    refine wpAny_call (codeAny_mono (F.run X.A X.stack s2 H2 ⟨us, ks.zip ws⟩ _ _ Q (E σ) hr I2.env0 (hb s2 us ws I2.kIn (r.length.symm.trans l1) (rz.length.symm.trans l2)) (pick_vals (r.append rz) ix) q) fun o s' hq => ?_)
    cases o with
    | error e => exact hx σ pins H2 s2 e s' I2 hq
    | ok fl =>
      cases fl with
      | ret u => exact I2.after hq
      | next => exact hq.elim
      | brk => exact hq.elim
      | cont => exact hq.elim
  rcases he with ⟨rfl, hn0⟩ | ⟨e, r0, rfl, he⟩
  · refine PySem.W.callWith_KW0 (h₀ := X.base) I.ok.mod.kin hk hall ?_ hpl
    show wpAny (model X.prog X.w) X.A ((spliced (backTo pos (starEach [] X.env))) >>= fun _ => evalAll ((backToKw pos (keywordEach kws X.env)).map (·.2))) _ _ _
    refine wpAny_bind (thn (ha.run pos pins s σ H _ I h) fun us s1 ⟨vs, H1, I1, r, q⟩ => ?_)
    refine thn (hkw.run pos pins s1 σ H1 _ I1 q) fun ws s2 ⟨zs, H2, I2, rz, l1, l2, q2⟩ => ⟨I2.kIn, ?_⟩
    rw [hks]
    have lv : vs.length = 0 := l1.trans hn0
    cases vs with
    | cons _ _ => cases lv
    | nil =>
      cases r
      exact go I2 .nil rz l1 l2 q2
  · refine PySem.W.callWith_KW (h₀ := X.base) I.ok.mod.kin hk hall (thn (ha.run pos pins s σ H _ I h) fun us s1 ⟨vs, H1, I1, r, q⟩ => ?_) hpl he
    refine thn (hkw.run pos pins s1 σ H1 _ I1 q) fun ws s2 ⟨zs, H2, I2, rz, l1, l2, q2⟩ => ⟨I2.kIn, ?_⟩
    rw [hks]
    exact go I2 r rz l1 l2 q2
end
section
variable {Φ : Ctx} {X : Cx} {x : Str} {p pos kpos : Pos} {e : Expr} {es : List Expr} {kws : List Keyword} {f : Mo D} {g fa fk : Mo (List D)} {nm : Option Str}
theorem tcons_of {σ : L2.St} {H : Hp} {Q : List V → Hp → Prop} (h : cA Φ X (acons f g) σ H Q) : tCons (cE Φ X f) (cA Φ X g) σ H Q := by
  obtain ⟨ρ, μ, C, os, R, h⟩ := h
  refine ⟨ρ, μ, C, os, R, ?_⟩
  unfold acons bnd at h
  cases e1 : f ρ μ with
  | no => rw [e1] at h; exact h
  | ex c ns ds ρ1 μ1 => rw [e1] at h; exact h
  | ok d ρ1 μ1 =>
    rw [e1] at h
    intro v H1 C1 os1 R1 S1 q1
    refine ⟨ρ1, μ1, C1, os1, R1, ?_⟩
    have h := PostA.from S1 h
    cases e2 : g ρ1 μ1 with
    | no => simp only [e2] at h; exact h
    | ex c ns ds ρ2 μ2 => simp only [e2] at h; exact h
    | ok ds ρ2 μ2 =>
      simp only [e2] at h
      exact fun vs H2 C2 os2 R2 S2 q2 => h (v :: vs) H2 C2 os2 R2 S2 (.cons (q1.step S2) q2)
def DK (Φ : Ctx) (X : Cx) (kws : List Keyword) (f : Mo (List D)) : Prop := PK X kws (cA Φ X f)
theorem PK.imp {t t' : TA} (h : PK X kws t) (i : ∀ σ H Q, t' σ H Q → t σ H Q) : PK X kws t' := ⟨fun pos pins s σ H Q I q => h.run pos pins s σ H Q I (i σ H Q q)⟩
theorem dk_nil : DK Φ X [] anil := PK.imp pk_nil fun σ H Q ⟨ρ, μ, C, os, R, h⟩ => h [] H C os R (Stp.refl _) .nil
theorem dk_cons (he : DE Φ X e f) (hr : DK Φ X kws g) : DK Φ X (⟨nm, e, kpos⟩ :: kws) (acons f g) := PK.imp (pk_cons he hr) fun σ H Q h => tcons_of h
def kwA (n m : Nat) (ix : List Nat) (fa fk : Mo (List D)) : Mo (List D) := bnd fa fun ds => bnd fk fun es => if ds.length = n ∧ es.length = m then ret (pick ix (ds ++ es)) else no
/-- the module's def x, called with n arguments by place, then by the names ks -/
structure DfK (P : Program) (w : World) (K : PySem.W.Frag) (mg : Str → Option Value) (base : Heap) (x : Str) (k : Nat) (G : Fn) (n : Nat) (ks : List Str) (ix : List Nat) : Prop where
  ex : ∃ f fd ps, FnOk P w K mg base (L2.CX P w) k f fd ps (spD K mg G) ∧ mg x = some (.ref f) ∧ PySem.W.keepIn K (.ref f) = true ∧ KwB K fd ps ks n ix
theorem de_callK {k j n : Nat} {G : Fn} {ks : List Str} {ix : List Nat} (F : DfK X.prog X.w X.K X.mg X.base x k G n ks ix) (c : Cc Φ X j) (ha : DA Φ X es fa) (hw : DK Φ X kws fk) (hg : Gl X x) (hj : k ≤ j := by decide)
    (hall : (backToKw pos (keywordEach kws X.env)).all (·.1.isSome) = true := by rfl) (hks : (backToKw pos (keywordEach kws X.env)).filterMap (·.1) = ks := by rfl)
    (hdb : (x == ("__debug__" : Str)) = false := by decide) (hpl : ((backTo pos (starEach es X.env)).any (·.1) || (backToKw pos (keywordEach kws X.env)).any (·.1.isNone)) = false := by rfl)
    (he : (es = [] ∧ n = 0) ∨ ∃ e r, es = e :: r ∧ starEach (e :: r) X.env = (false, eval e X.env) :: starEach r X.env := by first | exact .inl ⟨rfl, rfl⟩ | exact .inr ⟨_, _, rfl, rfl⟩) :
    DE Φ X (.Call (.Name x p) es kws pos) (calM G (kwA n ks.length ix fa fk)) := by
  obtain ⟨f, fd, ps, F, hm, hk, hb⟩ := F.ex
  refine PE.imp (pe_kw F (c.rm.mono hj) hg hm hk hb (fun σ => passAt c.tk σ) ha hw hall hks hdb hpl he) fun σ H Q ⟨ρ, μ, C, os, R, z⟩ => ⟨ρ, μ, C, os, R, ?_⟩
  unfold calM kwA bnd at z
  cases e1 : fa ρ μ with
  | no => simp only [e1] at z; exact z
  | ex c ns ds ρ1 μ1 => simp only [e1] at z; exact z
  | ok ds ρ1 μ1 =>
    simp only [e1] at z
    intro vs H1 C1 os1 R1 S1 q1
    refine ⟨ρ1, μ1, C1, os1, R1, ?_⟩
    have z := PostE.from S1 z
    cases e2 : fk ρ1 μ1 with
    | no => simp only [e2] at z; exact z
    | ex c ns ds ρ2 μ2 => simp only [e2] at z; exact z
    | ok es' ρ2 μ2 =>
      simp only [e2] at z
      intro zs H2 C2 os2 R2 S2 q2
      have z := PostE.from S2 z
      by_cases hl : ds.length = n ∧ es'.length = ks.length
      · rw [if_pos hl] at z
        have q3 := pick_reps ((q1.step S2).append q2) ix
        exact ⟨by rw [q1.length]; exact hl.1, by rw [q2.length]; exact hl.2, call_at R2 q3 z⟩
      · rw [if_neg hl] at z
        exact z.elim
/-- by place, at any level -/
theorem de_cal {k j : Nat} {G : Fn} (F : Dfn X.prog X.w X.K X.mg X.base x k G) (c : Cc Φ X j) (ha : DA Φ X (e :: es) fa) (hg : Gl X x) (hj : k ≤ j := by decide)
    (hdb : (x == ("__debug__" : Str)) = false := by decide) (he : starEach (e :: es) X.env = (false, eval e X.env) :: starEach es X.env := by rfl) (hpl : (backTo pos (starEach es X.env)).any (·.1) = false := by rfl) : DE Φ X (.Call (.Name x p) (e :: es) [] pos) (calM G fa) :=
  de_call F ⟨c.tk, c.rm.mono hj⟩ hg ha hdb he hpl
theorem df_cal {k j i : Nat} {G : Fn} (F : Dfn X.prog X.w X.K X.mg X.base x k G) (c : Cc Φ X j) (ha : DA Φ X (e :: es) fa) (hg : Gl X x) (hj : k ≤ j := by decide)
    (hdb : (x == ("__debug__" : Str)) = false := by decide) (he : starEach (e :: es) X.env = (false, eval e X.env) :: starEach es X.env := by rfl) (hpl : (backTo pos (starEach es X.env)).any (·.1) = false := by rfl) : DF Φ X i (.Call (.Name x p) (e :: es) [] pos) (cawM G fa) :=
  df_call F ⟨c.tk, c.rm.mono hj⟩ hg ha hdb he hpl

/-! ### an owned list becomes a cell -/
def celM (i : Nat) (g : Mo Fl) : Mo Fl := fun ρ μ => match ρ[i]? with
  | some (some (.ow (.lst ds))) => g (ρ.set i (some (.sh (.cell μ.length)))) (μ ++ [.lst ds])
  | some (some (.ow (.dct ks ds))) => g (ρ.set i (some (.sh (.cell μ.length)))) (μ ++ [.dct ks ds])
  | _ => .no
/-- the object of an owned entry, and what it becomes -/
theorem Rl.cel {ρ : Env} {μ : Sto} {C : List Addr} {os : Os} {σ : L2.St} {H : Hp} {i : Nat} {d : D} {c : Cell} (R : Rl Φ X ρ μ C os σ H) (hi : ρ[i]? = some (some (.ow d))) (nM : ∀ a, (some i, a) ∈ os → Φ.H0 a = none) (hc : ∀ r a, OwnR r a d → CellR r a c) :
    ∃ C' os', Rl Φ X (ρ.set i (some (.sh (.cell μ.length)))) (μ ++ [c]) C' os' σ H ∧ Stp (rc Φ X C os H) (rc Φ X C' os' H) := by
  obtain ⟨v, hv, a, rfl, hm, hO⟩ := R.env i _ hi
  obtain ⟨f1, f2, f3, o, f4⟩ := R.fre _ a hm
  have lc : C.length = μ.length := R.sto.1
  have hl : i < ρ.length := (List.getElem?_eq_some_iff.mp hi).1
  have S : Stp (rc Φ X C os H) (rc Φ X (C ++ [a]) (noA a os) H) := ⟨rfl, rfl, fun b z => by
    rcases z with z | z | ⟨j, z⟩
    · exact .inl (.inl z)
    · rcases List.mem_append.mp z with z | z
      · exact .inl (.inr (.inl z))
      · exact .inl (.inr (.inr ⟨some i, by rw [List.mem_singleton.mp z]; exact hm⟩))
    · exact .inl (.inr (.inr ⟨j, (mem_noA.mp z).1⟩)), ⟨[a], rfl⟩, fun b o z _ => z, fun b o z => ⟨o, z⟩, fun b z => mem_noA.mpr ⟨z, fun e => by
      have q := R.own none (some i) a (e ▸ z) hm
      cases q⟩, fun b o z _ => z⟩
  have other : ∀ (j : Nat) (b : Addr), j ≠ i → (some j, b) ∈ os → (some j, b) ∈ noA a os := fun j b ne z => mem_noA.mpr ⟨z, fun e => ne (Option.some.inj (R.own (some j) (some i) a (e ▸ z) hm))⟩
  refine ⟨C ++ [a], noA a os, ⟨by rw [List.length_set]; exact R.len, fun j t q => ?_, ⟨?_, fun n b c' h1 h2 => ?_⟩, fun j k b z1 z2 => R.own j k b (mem_noA.mp z1).1 (mem_noA.mp z2).1, fun j b z => ?_, ?_, fun b z => ?_, ?_, fun b z => ?_, fun b u e n1 n2 => ?_, R.alv⟩, S⟩
  · by_cases hj : j = i
    · subst hj
      rw [List.getElem?_set_self hl] at q
      cases q
      exact ⟨_, hv, .cell (by show (C ++ [a])[μ.length]? = some a; rw [← lc, List.getElem?_append_right (Nat.le_refl _)]; simp)⟩
    · rw [List.getElem?_set_ne (Ne.symm hj)] at q
      obtain ⟨v, h1, h2⟩ := R.env j t q
      refine ⟨v, h1, ?_⟩
      cases t with
      | sh d' => exact Rep.step S h2
      | ow d' =>
        obtain ⟨b, e1, e2, e3⟩ := h2
        exact ⟨b, e1, other j b hj e2, e3.step S rfl⟩
      | bd c ns ds =>
        obtain ⟨b, e1, e2, e3⟩ := h2
        exact ⟨b, e1, other j b hj e2, BdR.stepH S rfl e3⟩
      | eh c ns ds =>
        obtain ⟨b, dx, e1, e2, e3⟩ := h2
        exact ⟨b, dx, e1, e2, e3.step S⟩
  · show (C ++ [a]).length = (μ ++ [c]).length
    rw [List.length_append, List.length_append, lc] <;> rfl
  · have h1 : (C ++ [a])[n]? = some b := h1
    by_cases hn : n < C.length
    · rw [List.getElem?_append_left hn] at h1
      rw [List.getElem?_append_left (by rw [← lc]; exact hn)] at h2
      exact (R.sto.2 n b c' h1 h2).step S rfl
    · have en : n = C.length := by
        have := (List.getElem?_eq_some_iff.mp h1).1
        rw [List.length_append, List.length_singleton] at this
        omega
      subst en
      rw [List.getElem?_append_right (Nat.le_refl _), Nat.sub_self] at h1
      rw [lc, List.getElem?_append_right (Nat.le_refl _), Nat.sub_self] at h2
      cases h1; cases h2
      exact hc _ _ (hO.step S rfl)
  · have zm := mem_noA.mp z
    obtain ⟨g1, g2, g3, g4⟩ := R.fre j b zm.1
    refine ⟨g1, fun hC => ?_, g3, g4⟩
    rcases List.mem_append.mp hC with y | y
    · exact g2 y
    · exact zm.2 (List.mem_singleton.mp y)
  · obtain ⟨m, e⟩ := R.pre
    exact ⟨m ++ [a], by rw [e, List.append_assoc]⟩
  · rcases List.mem_append.mp z with y | y
    · exact R.cfr b y
    · rw [List.mem_singleton.mp y]
      exact .inr (nM a hm)
  · refine List.nodup_append.mpr ⟨R.cnd, by simp, fun b hb c hc e => ?_⟩
    rw [List.mem_singleton.mp hc] at e
    exact f2 (e ▸ hb)
  · rcases List.mem_append.mp z with y | y
    · exact R.clv b y
    · rw [List.mem_singleton.mp y]
      exact ⟨o, f4⟩
  · exact R.frm b u e (fun y => n1 (List.mem_append_left _ y)) n2
theorem dss_cel {i : Nat} {sts : List Stmt} {gs : Mo Fl} (h : DSs Φ X sts gs) (nM : ∀ a, ¬ Φ.M0 a) : DSs Φ X sts (celM i gs) := PSs.imp h fun E σ H ⟨ρ, μ, C, os, R, z⟩ => by
  have h0 : ∀ a, (some i, a) ∈ os → Φ.H0 a = none := fun a ha => (R.fre _ a ha).1.elim id fun y => (nM a y).elim
  unfold celM at z
  split at z
  · rename_i ds e
    obtain ⟨C', os', R', S'⟩ := R.cel e h0 (c := .lst ds) fun r a h => h
    exact ⟨_, _, C', os', R', PostS.from S' z⟩
  · rename_i ks ds e
    obtain ⟨C', os', R', S'⟩ := R.cel e h0 (c := .dct ks ds) fun r a h => h
    exact ⟨_, _, C', os', R', PostS.from S' z⟩
  · exact z.elim
end
end L2.DL

/-! DL16: repr, a text backward, {k: v, ..}, == of dicts. -/
namespace L2.DL
open PySem PySem.Spec PyProof.Rows
/-! ### repr -/
def keyP : Key → PyData
  | .inl i => .int i
  | .inr x => .str x
def scaD : D → Bool
  | .non | .bl _ | .int _ | .str _ => true
  | _ => false
def toR : D → Option PyData
  | .dct ks vs => if vs.all scaD then some (.dict ((ks.map keyP).zip (vs.map toP))) else none
  | d => if isData d then some (toP d) else none
def reprD (d : D) : Option D := match toR d with
  | some p => if p.showable && p.leavesShort 13 && decide (p.weight ≤ 1048576) && decide (p.depth ≤ 60) then some (.str p.shown) else none
  | none => none
mutual
theorem nodict : ∀ d : D, isData d = true → (toP d).hasDict = false
  | .non, _ => rfl | .bl _, _ => rfl | .int _, _ => rfl | .str _, _ => rfl
  | .tup xs, h => nodicts xs h | .lst xs, h => nodicts xs h | .frz xs, h => nodicts xs h
  | .dct _ _, h => by cases h
  | .ins _ _ _, h => by cases h
  | .cell _, h => by cases h
theorem nodicts : ∀ ds : List D, areData ds = true → PyData.hasDictAll (toPs ds) = false
  | [], _ => rfl
  | d :: ds, h => by
    have h : (isData d && areData ds) = true := h
    obtain ⟨h1, h2⟩ := Bool.and_eq_true_iff.mp h
    show ((toP d).hasDict || PyData.hasDictAll (toPs ds)) = false
    rw [nodict d h1, nodicts ds h2] <;> rfl
end
section
variable {X : Cx} {pins : List (Addr × Obj)} {σ : L2.St} {H : Hp} {s : Shared}
theorem key_reads {h : Heap} {k : Key} {v : Value} (e : keyIs k v = true) : Reads h v (keyP k) [] := by
  rcases keyIs_shape e with ⟨i, t, rfl, rfl⟩ | ⟨x, t, rfl, rfl⟩
  · exact .int i t
  · exact .str x t
theorem sca_reads {r : RC} {h : Heap} {v : V} {u : Value} {d : D} (q : Rep r v d) (e : scaD d = true) (rv : RelV v u) : Reads h u (toP d) [] := by
  cases q with
  | non => cases rv; exact .none
  | bl b => cases rv; exact .bool b
  | int i => obtain ⟨t, rfl⟩ := rv; exact .int i t
  | str s => obtain ⟨t, rfl⟩ := rv; exact .str s t
  | _ => cases e
theorem pairs_reads {r : RC} {h : Heap} {P : Program} {w : World} : ∀ {es : List DictEntry} {vs : List (Key × Value)} {kvs : List (Key × V)} {ds : List D}, Pairs (mixKind P w) es vs → KV kvs vs → Reps r (kvs.map (·.2)) ds → ds.all scaD = true →
    ReadsAll h (es.map (·.key)) ((kvs.map (·.1)).map keyP) [] ∧ ReadsAll h (es.map (·.val)) (ds.map toP) [] := by
  intro es vs kvs ds hp
  induction hp generalizing kvs ds with
  | nil =>
    intro hk q _
    cases hk
    cases q
    exact ⟨.nil, .nil⟩
  | @cons e kv es vs h1 h2 _ ih =>
    intro hk q ha
    cases hk with
    | @cons p _ kvs _ hkv hrest =>
      cases q with
      | @cons _ d _ ds q1 q2 =>
        simp only [List.all_cons, Bool.and_eq_true] at ha
        obtain ⟨z1, z2⟩ := ih hrest q2 ha.2
        obtain ⟨e1, rv⟩ := hkv
        refine ⟨?_, ?_⟩
        · have h1 : keyIs kv.1 e.key = true := h1
          rw [← e1] at h1
          exact ReadsAll.cons (as := []) (bs := []) (key_reads h1) z1
        · rw [← h2] at rv
          exact ReadsAll.cons (as := []) (bs := []) (sca_reads q1 ha.1 rv) z2
theorem rep_reads {r : RC} (I : Inv X pins σ H s) (hK : r.K = X.K) (hH : r.H = H) {v : V} {u : Value} {d : D} {p : PyData} (q : RepW r v d) (rv : RelV v u) (e : toR d = some p) : ∃ as, Reads s.heap u p as ∧ (p.hasDict = true → sysModules ∉ as) := by
  subst hH
  have flat : isData d = true → p = toP d → (toP d).hasDict = false → ∃ as, Reads s.heap u p as ∧ (p.hasDict = true → sysModules ∉ as) := fun h1 h2 h3 => by
    subst h2
    obtain ⟨as, z⟩ := Dp.reads I _ v u (hK ▸ q.dp h1) rv
    exact ⟨as, z, PyData.noDict_hsm h3⟩
  have noD : ∀ d : D, isData d = true → (toP d).hasDict = false := nodict
  cases d with
  | dct ks vs =>
    have e : (if vs.all scaD = true then some (PyData.dict ((ks.map keyP).zip (vs.map toP))) else none) = some p := e
    by_cases ha : vs.all scaD = true
    · rw [if_pos ha] at e
      cases e
      obtain ⟨a, kvs, rfl, hH, e1, q1⟩ := q.dct
      obtain ⟨_, hs, ws, hkv, o, es, ep, ho, hx, hd, _, hp, _⟩ : ObjOk X.prog X.w r.H s.heap a (.dK kvs) := I.hok a _ hH
      cases rv
      obtain ⟨z1, z2⟩ := pairs_reads (h := s.heap) hp hkv q1 ha
      have lk : (ks.map keyP).length = (vs.map toP).length := by
        have := q1.length
        rw [List.length_map] at this
        rw [List.length_map, List.length_map, ← e1, List.length_map, this]
      refine ⟨a :: [] ++ [], .dict ho hx.1 hd ?_ ?_, fun _ hm => ?_⟩
      · rw [List.map_fst_zip (Nat.le_of_eq lk), ← e1]
        exact z1
      · rw [List.map_snd_zip (Nat.le_of_eq lk.symm)]
        exact z2
      · have hm : sysModules ∈ [a] := by simpa using hm
        rw [List.mem_singleton.mp hm] at hs
        simp at hs
    · rw [if_neg ha] at e
      cases e
  | non => exact flat rfl (by cases e; rfl) (noD _ rfl)
  | bl b => exact flat rfl (by cases e; rfl) (noD _ rfl)
  | int i => exact flat rfl (by cases e; rfl) (noD _ rfl)
  | str x => exact flat rfl (by cases e; rfl) (noD _ rfl)
  | tup xs =>
    have e : (if isData (D.tup xs) = true then some (toP (D.tup xs)) else none) = some p := e
    by_cases h : isData (D.tup xs) = true
    · rw [if_pos h] at e
      cases e
      exact flat h rfl (noD _ h)
    · rw [if_neg h] at e
      cases e
  | lst xs =>
    have e : (if isData (D.lst xs) = true then some (toP (D.lst xs)) else none) = some p := e
    by_cases h : isData (D.lst xs) = true
    · rw [if_pos h] at e
      cases e
      exact flat h rfl (noD _ h)
    · rw [if_neg h] at e
      cases e
  | frz xs =>
    have e : (if isData (D.frz xs) = true then some (toP (D.frz xs)) else none) = some p := e
    by_cases h : isData (D.frz xs) = true
    · rw [if_pos h] at e
      cases e
      exact flat h rfl (noD _ h)
    · rw [if_neg h] at e
      cases e
  | ins c ns vs =>
    have e : (none : Option PyData) = some p := e
    cases e
  | cell n =>
    have e : (none : Option PyData) = some p := e
    cases e
def rRepr (X : Cx) : List V → Hp → VK → Prop := fun xs H Q => ∃ (r : RC) (x : V) (d : D) (p : PyData), xs = [x] ∧ r.K = X.K ∧ r.H = H ∧ RepW r x d ∧ toR d = some p ∧ p.showable = true ∧ p.leavesShort 13 = true ∧ p.weight ≤ 1048576 ∧ p.depth ≤ 60 ∧ Q (.str p.shown) H
theorem call_reprD (hg : X.A.guards = some []) (hu : hasUnits X) : CallR X (.builtin "repr") (rRepr X) := by
  intro pins s σ H xs us Q I r h
  obtain ⟨q, x, d, p, rfl, h1, h2, h3, h4, h5, h6, h7, h8, k⟩ := h
  obtain ⟨u, rfl, rv⟩ := vals1 r
  obtain ⟨as, hr, hm⟩ := rep_reads I h1 h2 h3 rv h4
  have hz : p.shown.length ≤ sizeLine := PyData.shown_fits (B := 13) (by decide) (by decide) h6 (Nat.le_trans h7 (by decide))
  have hu : X.A.units + 64 < cLine := hu
  cases hr with
  | none => exact PySem.P.repr_of_none ⟨.str _, H, I.tok _, ⟨_, rfl⟩, k⟩
  | bool b => exact PySem.P.repr_of_bool ⟨.str _, H, I.tok _, ⟨_, rfl⟩, k⟩
  | int i t => exact PySem.P.repr_of_int (by simpa [PyData.showable] using h5) ⟨.str _, H, I.tok _, ⟨_, rfl⟩, k⟩
  | str x t => exact PySem.P.repr_of_str ⟨.str _, H, I.tok _, ⟨_, rfl⟩, k⟩ (by simpa only [PyData.shown] using hz)
  | list a1 a2 a3 a4 => exact repr_of_reads' (.list a1 a2 a3 a4) h5 hm hg (by omega) (fun _ _ e => e) (fun h' u tk hk => ⟨.str _, H, I.kept (t' := tk) hk, ⟨_, rfl⟩, k⟩) hz
  | tuple a1 a2 a3 a4 => exact repr_of_reads' (.tuple a1 a2 a3 a4) h5 hm hg (by omega) (fun _ _ e => e) (fun h' u tk hk => ⟨.str _, H, I.kept (t' := tk) hk, ⟨_, rfl⟩, k⟩) hz
  | dict a1 a2 a3 a4 a5 => exact repr_of_reads' (.dict a1 a2 a3 a4 a5) h5 hm hg (by omega) (fun _ _ e => e) (fun h' u tk hk => ⟨.str _, H, I.kept (t' := tk) hk, ⟨_, rfl⟩, k⟩) hz
theorem cd_repr : Cal1 X (rRepr X) reprD := by
  intro q x d1 d Q hK _ _ h1 e k
  unfold reprD at e
  cases e2 : toR d1 with
  | none => simp only [e2] at e; cases e
  | some p =>
    simp only [e2] at e
    split at e
    · rename_i hc
      simp only [Bool.and_eq_true, decide_eq_true_eq] at hc
      cases e
      exact ⟨q, x, d1, p, rfl, hK, rfl, h1, e2, hc.1.1.1, hc.1.1.2, hc.1.2, hc.2, k _ _ (Grow.refl _) (.str _)⟩
    · cases e
variable {Φ : Ctx} {e : Expr} {f : Mo D} {p pos : Pos}
theorem de_repr (hgd : X.A.guards = some []) (hu : hasUnits X) (hm : X.mg "repr" = none) (ha : DB Φ X e f) (hg : Gl X "repr" := by rfl) (he : starEach (e :: []) X.env = (false, eval e X.env) :: starEach [] X.env := by rfl) (hpl : (backTo pos (starEach [] X.env)).any (·.1) = false := by rfl) :
    DE Φ X (.Call (.Name "repr" p) [e] [] pos) (op1 reprD f) := de_b1 (call_reprD hgd hu) cd_repr hm (by decide +kernel) ha hg (by decide) (by decide) he hpl

/-! ### s[::-1] -/
def revD : D → Option D
  | .str z => if z.length ≤ lineN then some (.str (revS z)) else none
  | _ => none
theorem rev_len (z : Str) : (revS z).length ≤ z.length := by
  show ((Builtin.Str.strSliceIndices none none (-1) z.length).filterMap (z.cps[·]?)).toArray.size ≤ z.length
  rw [List.size_toArray]
  refine Nat.le_trans (List.length_filterMap_le _ _) ?_
  rw [PyProof.Rows.picked_rev, List.length_map, List.length_range]
  exact Nat.le_refl _
def tRvS (te : TE) : TE := fun σ H Q => te σ H fun x H1 => ∃ z, x = .str z ∧ z.length ≤ sizeLine ∧ Q (.str (revS z)) H1
theorem pe_rvS {te : TE} {k : Nat} {p1 p2 p3 pos : Pos} (he : PE X e te) : PE X (.Subscript e (.Slice none none (some (.UnaryOp .USub (.Constant (.int 1) k p1) p2)) p3) pos) (tRvS te) := by
  refine ⟨fun pins s σ H Q I h => Subscript_ (thn (he.run pins s σ H _ I h) fun v s1 ⟨x, H1, I1, r1, z, ex, hz, q⟩ => ?_)⟩
  subst ex
  obtain ⟨t, rfl⟩ := r1
  have st : PO X (some (.UnaryOp .USub (.Constant (.int 1) k p1) p2)) (tPart (tUn (rU fun i => .int (-i)) (tC (.int 1)))) := po_some (pe_un un_neg pe_int)
  refine wpAny_Slice (thn (po_none.run pins s1 σ H1 (fun o H2 => o = none ∧ H2 = H1) I1 ⟨rfl, rfl⟩) fun vl s2 ⟨l, H2, I2, pl, el, e2⟩ => ?_)
  subst el e2
  refine thn (po_none.run pins s2 σ H2 (fun o H3 => o = none ∧ H3 = H2) I2 ⟨rfl, rfl⟩) fun vu s3 ⟨u, H3, I3, pu, eu, e3⟩ => ?_
  subst eu e3
  refine thn (st.run pins s3 σ H3 (fun o H4 => o = some (-1) ∧ H4 = H3) I3 ⟨1, rfl, -1, rfl, rfl, rfl⟩) fun vs s4 ⟨o, H4, I4, ps, eo, e4⟩ => ?_
  subst eo e4
  have I5 : Inv X pins σ H4 { s4 with heap := s4.heap.push { cls := .type "slice", data := .fields #[vl, vu, vs] } } := I4.kept (t' := s4.toks) fun b ob q => Heap.get?_push_of_some _ q
  obtain ⟨pl1, rfl, pl2⟩ := IsPart.raw pl
  obtain ⟨pu1, rfl, pu2⟩ := IsPart.raw pu
  obtain ⟨ps1, rfl, ps2⟩ := IsPart.raw ps
  have hsl : Heap.IsSlice (s4.heap.push { cls := .type "slice", data := .fields #[partValue pl1, partValue pu1, partValue ps1] }) s4.heap.objs.size pl1 pu1 ps1 := ⟨_, Heap.get?_push_size _ rfl, rfl, rfl⟩
  show wpAny (model X.prog X.w) X.A (subscriptTail e (.Slice none none (some (.UnaryOp .USub (.Constant (.int 1) k p1) p2)) p3) (.str z t) (.ref s4.heap.objs.size)) (EP X pins σ Q) X.xe _
  have c1 : (ps1.map (·.1)).getD 1 = -1 := by rw [ps2]; rfl
  refine tail_any (ops := [.str z t, .ref s4.heap.objs.size]) (typeIs_str _ _ _) PySem.F.slot_str_getitem.lookup ?_ (by with_unfolding_all rfl)
  refine wpAny_getItem_str_slice hsl (by rw [c1]; decide) ?_
  unfold sliceMade slicePicked
  rw [c1, if_neg (by simp), pl2, pu2]
  exact ⟨Nat.le_trans (rev_len z) hz, .str _, H4, I5.tok _, ⟨_, rfl⟩, q⟩
theorem de_rev {k : Nat} {p1 p2 p3 pos : Pos} (he : DE Φ X e f) : DE Φ X (.Subscript e (.Slice none none (some (.UnaryOp .USub (.Constant (.int 1) k p1) p2)) p3) pos) (op1 revD f) := PE.imp (pe_rvS he) fun σ H Q ⟨ρ, μ, C, os, R, z⟩ =>
  ⟨ρ, μ, C, os, R, PostE.bnd z fun d ρ1 μ1 v H1 C1 os1 R1 S1 q1 z1 => by
    obtain ⟨d', e, k⟩ := lift_ok R1 z1
    unfold revD at e
    split at e
    · split at e
      · rename_i hl
        cases e
        cases q1
        exact ⟨_, rfl, by rw [line_eq]; exact hl, k _ _ (Grow.refl _) (.str _)⟩
      · cases e
    · cases e⟩
end
end L2.DL

/-! DL17: {k: v, ..}, == of dicts. -/
namespace L2.DL
open PySem PySem.Spec PyProof.Rows
def keyD : D → Option Key
  | .int i => some (.inl i)
  | .str s => some (.inr s)
  | _ => none
def prsM : List (Mo D × Mo D) → Mo (List (Key × D))
  | [] => ret []
  | (fk, fv) :: r => bnd fk fun dk => bnd fv fun dv => bnd (prsM r) fun l => match keyD dk with
    | some k => ret ((k, dv) :: l)
    | none => no
def dspM (ps : List (Mo D × Mo D)) : Mo D := bnd (prsM ps) fun l => if (l.map (·.1)).Nodup ∧ l.length ≤ 15 then ret (.dct (l.map (·.1)) (l.map (·.2))) else no
section
variable {Φ : Ctx} {X : Cx} {pos : Pos}
def prT (Φ : Ctx) (X : Cx) (ps : List (Mo D × Mo D)) : List (TE × TE) := ps.map fun p => (cE Φ X p.1, cE Φ X p.2)
/-- keys, values and what they compute -/
def DPs (Φ : Ctx) (X : Cx) (pos : Pos) (ks : List (Option Expr)) (vs : List Expr) (ps : List (Mo D × Mo D)) : Prop := PPs X pos ks vs (prT Φ X ps)
theorem dps_nil : DPs Φ X pos [] [] [] := pps_nil
theorem dps_cons {k v : Expr} {ks : List (Option Expr)} {vs : List Expr} {fk fv : Mo D} {ps : List (Mo D × Mo D)} (hk : DE Φ X k fk) (hv : DE Φ X v fv) (r : DPs Φ X pos ks vs ps) : DPs Φ X pos (some k :: ks) (v :: vs) ((fk, fv) :: ps) := pps_cons hk hv r
def PostP (Φ : Ctx) (X : Cx) (C : List Addr) (os : Os) (σ : L2.St) (H : Hp) (o : O (List (Key × D))) (Q : List (V × V) → Hp → Prop) : Prop := match o with
  | .ok l ρ' μ' => ∀ (kvs : List (Key × V)) H' C' os', Rl Φ X ρ' μ' C' os' σ H' → Stp (rc Φ X C os H) (rc Φ X C' os' H') → kvs.map (·.1) = l.map (·.1) → Reps (rc Φ X C' os' H') (kvs.map (·.2)) (l.map (·.2)) → Q (kvs.map fun kv => (kV kv.1, kv.2)) H'
  | .ex c ns ds ρ' μ' => ∀ Cc dx H' C' os', Rl Φ X ρ' μ' C' os' σ H' → Stp (rc Φ X C os H) (rc Φ X C' os' H') → X.mg c = some (.ref Cc) → EhR (rc Φ X C' os' H') dx c ns ds → Φ.W (.ref Cc) (some dx) σ H'
  | .no => False
theorem PostP.from {C C1 : List Addr} {os os1 : Os} {σ : L2.St} {H H1 : Hp} {o : O (List (Key × D))} {Q : List (V × V) → Hp → Prop} (S : Stp (rc Φ X C os H) (rc Φ X C1 os1 H1)) (h : PostP Φ X C os σ H o Q) : PostP Φ X C1 os1 σ H1 o Q := by
  cases o with
  | ok d ρ' μ' => exact fun v H' C' os' R T q => h v H' C' os' R (S.trans T) q
  | ex c ns ds ρ' μ' => exact fun Cc dx H' C' os' R T g e => h Cc dx H' C' os' R (S.trans T) g e
  | no => exact h
theorem key_rep {r : RC} {v : V} {d : D} {k : Key} (q : Rep r v d) (e : keyD d = some k) : v = kV k := by
  cases q with
  | int i => cases e; rfl
  | str s => cases e; rfl
  | _ => cases e
theorem prs_run : ∀ {ps : List (Mo D × Mo D)} {ρ : Env} {μ : Sto} {C : List Addr} {os : Os} {σ : L2.St} {H : Hp} {Q : List (V × V) → Hp → Prop}, Rl Φ X ρ μ C os σ H → PostP Φ X C os σ H (prsM ps ρ μ) Q → tPairs (prT Φ X ps) σ H Q
  | [], ρ, μ, C, os, σ, H, Q, R, z => z [] H C os R (Stp.refl _) rfl .nil
  | (fk, fv) :: ps, ρ, μ, C, os, σ, H, Q, R, z => by
    have z : PostP Φ X C os σ H (bnd fk (fun dk => bnd fv fun dv => bnd (prsM ps) fun l => match keyD dk with
      | some k => ret ((k, dv) :: l)
      | none => no) ρ μ) Q := z
    show cE Φ X fk σ H _
    refine ⟨ρ, μ, C, os, R, ?_⟩
    unfold bnd at z
    cases e1 : fk ρ μ with
    | no => simp only [e1] at z; exact z
    | ex c ns ds ρ1 μ1 => simp only [e1] at z; exact z
    | ok dk ρ1 μ1 =>
      simp only [e1] at z
      intro x H1 C1 os1 R1 S1 q1
      have z := PostP.from S1 z
      refine ⟨ρ1, μ1, C1, os1, R1, ?_⟩
      show PostE Φ X C1 os1 σ H1 (fv ρ1 μ1) (fun y H2 => tPairs (prT Φ X ps) σ H2 fun ps' H3 => Q ((x, y) :: ps') H3)
      cases e2 : fv ρ1 μ1 with
      | no => simp only [e2] at z; exact z
      | ex c ns ds ρ2 μ2 => simp only [e2] at z; exact z
      | ok dv ρ2 μ2 =>
        simp only [e2] at z
        intro y H2 C2 os2 R2 S2 q2
        have z := PostP.from S2 z
        refine prs_run R2 ?_
        cases e3 : prsM ps ρ2 μ2 with
        | no => simp only [e3] at z; exact z
        | ex c ns ds ρ3 μ3 => simp only [e3] at z; exact z
        | ok l ρ3 μ3 =>
          simp only [e3] at z
          intro kvs H3 C3 os3 R3 S3 h1 h2
          cases e4 : keyD dk with
          | none => simp only [e4] at z; exact z.elim
          | some k =>
            simp only [e4] at z
            have z := PostP.from S3 z
            have q := z ((k, y) :: kvs) H3 C3 os3 R3 (Stp.refl _) (by simp [h1]) (.cons (q2.step S3) h2)
            rw [key_rep q1 e4]
            exact q
theorem merge_app : ∀ (ls kvs : List (Key × V)), ((kvs ++ ls).map (·.1)).Nodup → mergeK kvs ls = kvs ++ ls
  | [], kvs, _ => by simp [mergeK]
  | p :: ls, kvs, h => by
    have e : putK kvs p.1 p.2 = kvs ++ [p] := by
      unfold putK
      have hn : ¬ ((kvs.any fun kv => decide (kv.1 = p.1)) = true) := by
        rw [List.any_eq_true]
        rintro ⟨q, hq, e⟩
        rw [List.map_append, List.map_cons] at h
        have h3 := (List.nodup_append.mp h).2.2 q.1 (List.mem_map_of_mem hq) p.1 List.mem_cons_self
        exact h3 (of_decide_eq_true e)
      rw [if_neg hn]
    have ih := merge_app ls (kvs ++ [p]) (by rw [List.append_assoc]; exact h)
    show mergeK (putK kvs p.1 p.2) ls = _
    rw [e, ih, List.append_assoc] <;> rfl
theorem de_disp {keys : List (Option Expr)} {values : List Expr} {ps : List (Mo D × Mo D)} (h : DPs Φ X pos keys values ps) (hall : keys.all (·.isSome) = true := by rfl) (hl : keys.length = values.length := by rfl) (h0 : keys ≠ [] := by simp) (h15 : keys.length ≤ 15 := by decide) :
    DE Φ X (.Dict keys values pos) (dspM ps) := PE.imp (pe_disp h hall hl h0 h15) fun σ H Q ⟨ρ, μ, C, os, R, z⟩ p hp => by
  have R1 := R.add (o := .dK []) none hp
  have S1 : Stp (rc Φ X C os H) (rc Φ X C ((none, p) :: os) (upd H p (.dK []))) := stp_add hp
  refine prs_run R1 ?_
  unfold dspM bnd at z
  cases e : prsM ps ρ μ with
  | no => simp only [e] at z; exact z
  | ex c ns ds ρ1 μ1 =>
    simp only [e] at z
    exact fun Cc dx H' C' os' R' S' g e => z Cc dx H' C' os' R' (S1.trans S') g e
  | ok l ρ1 μ1 =>
    simp only [e] at z
    intro kvs H2 C2 os2 R2 S2 h1 h2
    have hm : (none, p) ∈ os2 := S2.m p List.mem_cons_self
    have hH : H2 p = some (.dK []) := S2.n p _ upd_same List.mem_cons_self
    split at z
    · rename_i hc
      refine ⟨hH, kvs, rfl, ?_, ?_⟩
      · have := congrArg List.length h1
        rw [List.length_map, List.length_map] at this
        rw [this]; exact hc.2
      · have em : mergeK [] kvs = kvs := merge_app kvs [] (by show (kvs.map (·.1)).Nodup; rw [h1]; exact hc.1)
        rw [em]
        have T : Stp (rc Φ X C os H) (rc Φ X C2 os2 H2) := S1.trans S2
        obtain ⟨R3, S3⟩ := R2.mutB hm (.dK kvs)
        have T3 := stp_mutB T hp (.dK kvs)
        obtain ⟨R4, S4⟩ := R3.rel hm
        have T4 : Stp (rc Φ X C os H) (rc Φ X C2 (noA p os2) (upd H2 p (.dK kvs))) := ⟨rfl, rfl, fun b y => by
          rcases y with y | y | ⟨j, y⟩
          · exact T3.a b (.inl y)
          · exact T3.a b (.inr (.inl y))
          · exact T3.a b (.inr (.inr ⟨j, (mem_noA.mp y).1⟩)), T3.c, T3.h, T3.l, fun b y => mem_noA.mpr ⟨T3.m b y, fun e => by
            obtain ⟨_, _, _, u, e2⟩ := R.fre none b y
            rw [e, hp] at e2; cases e2⟩, T3.n⟩
        refine z _ _ C2 _ R4 T4 (.dct upd_same ?_ h1 ((h2.stq S3).stq S4))
        obtain ⟨_, g2, g3, _⟩ := R2.fre none p hm
        rintro (y | y | ⟨j, y⟩)
        · exact g3 y
        · exact g2 y
        · exact (mem_noA.mp y).2 rfl
    · exact z.elim

/-! ### == -/
def sameS : D → D → Bool
  | .non, .non => true
  | .bl a, .bl b => decide (a = b)
  | .int a, .int b => decide (a = b)
  | .str a, .str b => decide (a = b)
  | _, _ => false
def samesS : List D → List D → Bool
  | [], [] => true
  | a :: as, b :: bs => sameS a b && samesS as bs
  | _, _ => false
def dctT : D → D → Option D
  | .dct ks vs, .dct ks' vs' => if ks = ks' ∧ ks.Nodup ∧ samesS vs vs' = true then some (.bl true) else none
  | _, _ => none
theorem sameS_eq {r : RC} {x y : V} {a b : D} (h1 : Rep r x a) (h2 : Rep r y b) (e : sameS a b = true) : x = y ∧ flatB x = true := by
  cases h1 <;> cases h2 <;> first
    | exact ⟨rfl, rfl⟩
    | (cases (of_decide_eq_true e); exact ⟨rfl, rfl⟩)
    | cases e
theorem same_dict {r : RC} {n : Nat} {K : PySem.W.Frag} : ∀ {ks ls : List (Key × V)} {as bs : List D}, ks.map (·.1) = ls.map (·.1) → (ks.map (·.1)).Nodup → Reps r (ks.map (·.2)) as → Reps r (ls.map (·.2)) bs → samesS as bs = true →
    ks.length = ls.length ∧ ∀ p ∈ ks, ∃ u, valV ls p.1 = some u ∧ EqV K r.H (n + 1) p.2 u
  | [], [], _, _, _, _, _, _, _ => ⟨rfl, fun p hp => by cases hp⟩
  | [], _ :: _, _, _, h, _, _, _, _ => by cases h
  | _ :: _, [], _, _, h, _, _, _, _ => by cases h
  | k :: ks, l :: ls, _, _, h, hn, q1, q2, e => by
    cases q1 with
    | @cons _ a _ as qa qas =>
      cases q2 with
      | @cons _ b _ bs qb qbs =>
        simp only [List.map_cons, List.cons.injEq] at h
        have e : (sameS a b && samesS as bs) = true := e
        obtain ⟨e1, e2⟩ := Bool.and_eq_true_iff.mp e
        simp only [List.map_cons] at hn
        obtain ⟨n1, n2⟩ := List.nodup_cons.mp hn
        obtain ⟨z1, z2⟩ := same_dict (n := n) (K := K) h.2 n2 qas qbs e2
        obtain ⟨xy, fl⟩ := sameS_eq qa qb e1
        refine ⟨by simp [z1], fun p hp => ?_⟩
        rcases List.mem_cons.mp hp with rfl | hp
        · exact ⟨l.2, valV_pos h.1.symm, .inl ⟨xy, fl⟩⟩
        · obtain ⟨u, hu, he⟩ := z2 p hp
          refine ⟨u, ?_, he⟩
          rw [valV_neg (fun z => n1 ?_)]
          · exact hu
          · rw [h.1, z]
            exact List.mem_map_of_mem hp
theorem od_dct : OpD X (rEqV X.K) dctT := by
  intro q x y d1 d2 d Q _ _ _ h1 h2 e k
  cases d1 with
  | dct ks vs =>
    cases d2 with
    | dct ks' vs' =>
      have e : (if ks = ks' ∧ ks.Nodup ∧ samesS vs vs' = true then some (D.bl true) else none) = some d := e
      by_cases hc : ks = ks' ∧ ks.Nodup ∧ samesS vs vs' = true
      · rw [if_pos hc] at e
        cases e
        obtain ⟨a, k1, rfl, g1, g2, g3⟩ := h1.dct
        obtain ⟨b, k2, rfl, g4, g5, g6⟩ := h2.dct
        obtain ⟨z1, z2⟩ := same_dict (n := 0) (K := X.K) (by rw [g2, g5]; exact hc.1) (by rw [g2]; exact hc.2.1) g3 g6 hc.2.2
        exact ⟨1, by decide, .inr ⟨a, b, k1, k2, rfl, rfl, g1, g4, z1, z2⟩, k _ _ (Grow.refl _) (.bl _)⟩
      · rw [if_neg hc] at e
        cases e
    | _ => cases e
  | _ => cases e
def eqQ (x y : D) : Option D := (eqD x y).or (dctT x y)
variable {a b : Expr} {f g : Mo D}
theorem de_eqQ (hu : hasUnits X) (ha : DE Φ X a f) (hb : DB Φ X b g) : DE Φ X (.Compare a [.Eq] [b] pos) (op2 eqQ f g) := de_cmp ((or_eq hu).or (op_eqV hu)) (od_eq.or od_dct) ha hb (nomark _)
theorem dt_eqQ (hu : hasUnits X) (ha : DE Φ X a f) (hb : DB Φ X b g) : DT Φ X (.Compare a [.Eq] [b] pos) (tst (op2 eqQ f g)) := pt_of ((or_eq hu).or (op_eqV hu)) (od_eq.or od_dct) ha hb (nomark _)
end
end L2.DL

/-! DL18: the law's own def, called where no guard stands; a def that is never reached; the end. -/
namespace L2.DL
open PySem PySem.Spec PyProof.Rows
section
variable {P : Program} {w : World} {K : PySem.W.Frag} {mg : Str → Option Value} {base : Heap}
/-- a def called from around A -/
def RunAt (P : Program) (w : World) (K : PySem.W.Frag) (mg : Str → Option Value) (base : Heap) (A : Around) (f : Addr) (fd : FuncData) (ps : List Str) (sp : Sp) : Prop :=
  ∀ (outer : List PySem.Env) (s : Shared) (H : Hp) (args : Args) (us : List Value) (vs : List V) (Q : VK) (E : XK), Env0 P w K mg base A outer s H → BindsTo s fd args (ps.zip us) → Vals vs us → sp vs H Q E →
    codeAny (model P w) A (.call (.ref f) args) (CR (L2.CX P w) outer P w H s Q E) s
theorem run_at {x qual : Str} {st : Stmt} {f : Addr} {fd : FuncData} {N ps : List Str} {k : Nat} {g : Mo Fl} {A : Around} (F : Fun K x qual st f fd) (S : FnScope N ps (defScope st)) (hr : Room (k + 1) A)
    (hb : ∀ (Φ : Ctx) (cdv : Value) (outer : List PySem.Env) (s : Shared) (H : Hp) (E : XK), Cn Φ (cxOf (L2.CX P w) P w K mg base N qual (defScope st) f cdv A outer s H E) k → (∀ a, ¬ Φ.M0 a) →
      DSs Φ (cxOf (L2.CX P w) P w K mg base N qual (defScope st) f cdv A outer s H E) (defBody st) g) : RunAt P w K mg base A f fd ps (spD K mg (runD ps.length N.length g)) := by
  obtain ⟨oc, od, kV, doc, pm, an, cdv, ct, osl, rfl, lk, hcd⟩ := F.ex
  intro outer s H args us vs Q E e0 bnds rv hsp
  have hl : vs.length = ps.length := by
    obtain ⟨ds, μ, A', C, i, z⟩ := hsp
    unfold runD at z
    split at z
    · rename_i hl
      rw [i.arg.length, hl]
    · exact z.elim
  have old : ∀ b o, base.get? b = some o → s.heap.get? b = some o := fun b o e => (e0.bs b o e).1
  have KX : K.In s.heap := e0.mod.kin.keeps old
  have kinds : ∀ y ∈ ps.zip us, (defScope st).names.lookup y.1 = some .local ∨ ((defScope st).names.lookup y.1 = some .cell ∧ ((cellsFrom (s.heap.objs.size + 1) (defScope st).names []).lookup y.1).isSome = true) := by
    rintro ⟨n, v⟩ hy
    rcases S.par n (List.of_mem_zip hy).1 with q | q
    · exact .inl q
    · exact .inr ⟨q, PySem.W.cellsFrom_some _ _ _ (.inl q)⟩
  refine codeAny_call_function hr.depth (KX _ _ lk) rfl S.co S.gen rfl (PySem.W.codeRec_of KX hcd) (bnds _ _ _ _ (wpAny_newFunctionEnv_cells S.kind kinds fun env he s1 x => ?_))
  subst he
  refine ⟨(e0.mod.nolimit.keeps old).keeps x.toInCall.keep, codeAny_func ?_⟩
  have I := inv_start (CX := L2.CX P w) (E := E) S hr.hd e0 hl rv x
  obtain ⟨ds, μ, A', C, i, z⟩ := hsp
  let Φ : Ctx := ⟨H, A', C, fun _ => False, fun cls d _ H' => E cls d H', none, "", none⟩
  have nm : ∀ a, ¬ Φ.M0 a := fun _ h => h
  have cn : Cn Φ (cxOf (L2.CX P w) P w K mg base N qual (defScope st) f cdv A outer s H E) k := ⟨S.nd, rfl, passes_of rfl, takes_of (X := cxOf (L2.CX P w) P w K mg base N qual (defScope st) f cdv A outer s H E) rfl rfl rfl rfl, hr.deeper _⟩
  have done : cS Φ (cxOf (L2.CX P w) P w K mg base N qual (defScope st) f cdv A outer s H E) g { nx := fun _ H' => Q .non H', rt := Q } (start N vs) H := by
    refine ⟨_, μ, C, [], Rl.init (N := N) i rfl rfl rfl nm, ?_⟩
    unfold runD at z
    split at z
    · rename_i hl
      cases e : g (ds.map (fun d => some (Ent.sh d)) ++ List.replicate (N.length - ds.length) none) μ with
      | no => rw [e] at z; exact z
      | ex c ns es ρ' μ' =>
        rw [e] at z
        intro Cc dx σ' H' C' os' R _ hm he
        obtain ⟨o, S'⟩ := Rl.out (A := A') (C := C) (H := H) rfl rfl rfl nm R [] (fun a z => by cases z)
        exact z Cc dx H' C' o hm (he.stq S')
      | ok fl ρ' μ' =>
        rw [e] at z
        intro σ' H' C' os' R _
        obtain ⟨o, S'⟩ := Rl.out (A := A') (C := C) (H := H) rfl rfl rfl nm R [] (fun a z => by cases z)
        cases fl with
        | bk => exact z.elim
        | ct => exact z.elim
        | nx => exact z .non H' C' o .non
        | rt d => exact fun v q => z v H' C' o (q.stq S')
        | ro d =>
          intro a j hj q
          obtain ⟨o2, S2⟩ := Rl.out (A := A') (C := C) (H := H) rfl rfl rfl nm R [a] (fun b z => ⟨j, List.mem_singleton.mp z ▸ hj⟩)
          exact z a H' C' o2 (q.stq S2 rfl)
    · exact z.elim
  refine wpAny_mono ((hb Φ cdv outer s H E cn nm).run [] s1 (start N vs) H _ I done) (fun fl s' hs => ?_) fun e s' hs => hs
  cases fl with
  | ret u => obtain ⟨v, σ', H', J, rv', q⟩ := hs; exact ⟨v, H', J.os, J.bare, J.base, J.hok, rv', q⟩
  | next => obtain ⟨σ', H', J, q⟩ := hs; exact ⟨.non, H', J.os, J.bare, J.base, J.hok, rfl, q⟩
  | brk => obtain ⟨_, _, _, q⟩ := hs; exact q.elim
  | cont => obtain ⟨_, _, _, q⟩ := hs; exact q.elim
/-- a def that is never reached keeps every promise -/
theorem fn_never {f : Addr} {fd : FuncData} {ps : List Str} {k : Nat} : FnOk P w K mg base (L2.CX P w) k f fd ps (spD K mg fun _ _ => .no) :=
  ⟨fun vs H Q E ⟨_, _, _, _, _, z⟩ => z.elim, fun A outer s H args us vs Q E _ _ _ _ ⟨_, _, _, _, _, z⟩ => z.elim⟩
theorem FnOk.up {f : Addr} {fd : FuncData} {ps : List Str} {j k : Nat} {sp : Sp} (F : FnOk P w K mg base (L2.CX P w) j f fd ps sp) (h : j ≤ k := by decide) : FnOk P w K mg base (L2.CX P w) k f fd ps sp := F.mono h
end

/-! ### the script -/
theorem ints_repD {r : RC} : ∀ ns : List Int, Reps r (ns.map V.int) (ns.map D.int)
  | [] => .nil
  | n :: ns => .cons (.int n) (ints_repD ns)
/-- the law's def on a script -/
theorem law_at {P : Program} {w : World} {K : PySem.W.Frag} {mg mb : Str → Option Value} {fa a : Addr} {fd : FuncData} {x : Str} {G : Fn} {s₁ : Shared} {vs : List Value} {ns : List Int}
    (KX : K.In s₁.heap) (hns : s₁.heap.Ns mainGlobals mg) (hb : s₁.heap.Ns builtinsNs mb) (hbb : ∀ x : Str, x ≠ "__name__" → mb x = bootBuiltins x) (lim : s₁.heap.NoLimit) (hg : s₁.gens = #[])
    (ha : s₁.heap.get? a = some { cls := .type "list", data := .seq vs.toArray }) (hi : IntsAre vs ns) (hl : ns.length ≤ sizeLine)
    (F : ∀ base : Heap, K.In base → base.Ns mainGlobals mg → RunAt P w K mg base callerA fa fd [x] (spD K mg G)) (bnds : ∀ (s : Shared) (u : Value), BindsTo s fd ⟨[u], []⟩ [(x, u)])
    (ans : ∃ μ, G [.frz (ns.map D.int)] [] = .ok (.bl true) μ) :
    codeAny (model P w) callerA (.call (.ref fa) ⟨[.ref a], []⟩) (fun r s' => r = .ok (.ret (.bool true)) ∧ OldK s₁.heap s'.heap ∧ s'.os = s₁.os ∧ AllBare s'.gens) s₁ := by
  have rv := vals_ints hi
  have go : ∀ H : Hp, (∀ b, H b = none ∨ (b = a ∧ H b = some (.frz { cls := .type "list", data := .seq vs.toArray } (.lst (ns.map V.int))))) → SqL K H a (ns.map V.int) → HOk P w H s₁.heap → (H a ≠ none → K.lookup a = none) →
      codeAny (model P w) callerA (.call (.ref fa) ⟨[.ref a], []⟩) (fun r s' => r = .ok (.ret (.bool true)) ∧ OldK s₁.heap s'.heap ∧ s'.os = s₁.os ∧ AllBare s'.gens) s₁ := by
    intro H only hS hok hK
    have isA : ∀ {b o}, H b = some o → b = a := fun {b o} e => by
      rcases only b with z | z
      · rw [z] at e; cases e
      · exact z.1
    have keep : ∀ {b o}, s₁.heap.get? b = some o → H b = none → (hidT s₁.heap H).get? b = some o := fun e n => hidT_get e n
    have seqA : ∀ {b o}, s₁.heap.get? b = some o → H b ≠ none → o = { cls := .type "list", data := .seq vs.toArray } := fun {b o} e n => by
      cases q : H b with
      | none => exact (n q).elim
      | some u =>
        rw [isA q, ha] at e
        exact (Option.some.inj e).symm
    have hidK : K.In (hidT s₁.heap H) := fun b o e => keep (KX b o e) (Classical.byContradiction fun n => by
      cases q : H b with
      | none => exact n q
      | some u =>
        have eb := isA q
        rw [eb] at e n
        rw [hK n] at e; cases e)
    have hidN : ∀ {b : Addr} {m : Str → Option Value}, s₁.heap.Ns b m → (hidT s₁.heap H).Ns b m := fun {b m} ⟨o, es, ep, e, d, r⟩ => ⟨o, es, ep, keep e (Classical.byContradiction fun n => by
      rw [seqA e n] at d
      cases d), d, r⟩
    have M : Mod K mg (hidT s₁.heap H) := ⟨hidK, hidN hns, ⟨mb, hidN hb, hbb⟩, let ⟨mc, h1, h2⟩ := lim; ⟨mc, hidN h1, h2⟩⟩
    have e0 : Env0 P w K mg (hidT s₁.heap H) callerA [] s₁ H := ⟨rfl, M, fun b o e => of_hidT e, Nat.le_of_eq (hidT_size _ _), trivial, fun b hb => (by cases hb), hok, .of_eq hg⟩
    have sp : spD K mg G [.ref a] H (fun v _ => v = .bl true) fun _ _ _ => False := by
      obtain ⟨μ, e⟩ := ans
      refine ⟨[.frz (ns.map D.int)], [], fun _ => False, [], ⟨.cons (.frz ?_ (ints_repD ns)) .nil, ⟨rfl, fun n a c h => (by cases h)⟩, List.nodup_nil, fun a h => (by cases h), fun a h => h.elim⟩, ?_⟩
      · rcases hS with h | h
        · exact .inl ⟨fun z => z, h⟩
        · exact .inr (.inr h)
      · rw [e]
        intro v H' C' _ q
        cases q
        rfl
    refine codeAny_mono (F _ hidK (hidN hns) [] s₁ H ⟨[.ref a], []⟩ [.ref a] [.ref a] _ _ e0 (bnds s₁ (.ref a)) (.cons rfl .nil) sp) fun r s' h => ?_
    cases r with
    | error e =>
      obtain ⟨_, _, _, _, _, _, _, _, _, _, _, _, z⟩ := h
      exact z.elim
    | ok fl =>
      cases fl with
      | next => exact h.elim
      | brk => exact h.elim
      | cont => exact h.elim
      | ret u =>
        obtain ⟨v, H', os, bare, un, hok', r', q⟩ := h
        cases (show v = .bl true from q)
        cases (show u = Value.bool true from r')
        refine ⟨rfl, OldK.of_keep fun b o e => ?_, os, bare⟩
        rcases only b with n | ⟨eb, n⟩
        · exact un.keep b o e n (by intro z; cases z) (by simp)
        · obtain ⟨e1, _⟩ := hok b _ n
          obtain ⟨e2, _⟩ := hok' b _ (un.frzs b _ _ n)
          rw [e] at e1; cases e1
          exact e2
  cases hk : K.lookup a with
  | some o =>
    have e := KX a o hk
    rw [ha] at e
    cases e
    exact go (fun _ => none) (fun _ => .inl rfl) (.inr ⟨_, vs.toArray, _, hk, rfl, rfl, rfl, by rw [List.size_toArray, hi.length]; exact hl, by simpa using rv⟩) (fun b u z => nomatch (show (none : Option HO) = some u from z)) fun z => (z rfl).elim
  | none =>
    refine go (fun b => if b = a then some (.frz { cls := .type "list", data := .seq vs.toArray } (.lst (ns.map V.int))) else none) (fun b => ?_) (.inl (.inr ⟨_, if_pos rfl⟩)) (fun b u z => ?_) fun _ => hk
    · by_cases h : b = a
      · exact .inr ⟨h, if_pos h⟩
      · exact .inl (if_neg h)
    · by_cases h : b = a
      · have z := (if_pos h).symm.trans z
        cases z
        subst h
        exact ⟨ha, by rw [List.length_map]; exact hl, vs, _, rv, ha⟩
      · have z := (if_neg h).symm.trans z
        cases z
/-- the goal behind the head -/
theorem walk_D {l : PySem.W.OpenLaw} {n : Nat} {q : Program} {loose : List Str} {XP : (Str → Option Value) → Heap → Prop} {YP : World → Heap → Prop} {d : DefRec} {K : Params → PySem.W.Frag} {G : Fn} {x : Str} (hn : l.most = some n) (hn2 : n ≤ sizeLine) (hdf : d.params.defaults = [])
    (hY : ∀ (w : World) (h : Heap), YP w h → (K w.params).In h)
    (F : ∀ (w : World) (mg : Str → Option Value) (fa : Addr) (h : Heap), (K w.params).In h → h.Ns mainGlobals mg → mg d.name = some (.ref fa) →
      ∃ fd : FuncData, (∀ (s : Shared) (u : Value), BindsTo s fd ⟨[u], []⟩ [(x, u)]) ∧ ∀ base : Heap, (K w.params).In base → base.Ns mainGlobals mg → RunAt l.prog w (K w.params) mg base callerA fa fd [x] (spD (K w.params) mg G))
    (ans : ∀ ns : List Int, ns.length ≤ n → ∃ μ, G [.frz (ns.map D.int)] [] = .ok (.bl true) μ) : PySem.W.WalkO q loose XP YP l.row.toRowW d [] (fun f vs => PySem.call f vs) := by
  refine Att.attach_call hn hdf fun w s₀ s₁ mg mb fa o pm cd doc a vs ns G' Y ho hd hcd hmg hobj hints hlen hg => ?_
  have KX := hY w _ Y
  obtain ⟨fd, hb, hF⟩ := F w mg fa _ KX G'.T.g hmg
  exact law_at KX G'.T.g G'.T.b G'.T.builtins G'.T.nolimit hg hobj hints (Nat.le_trans hlen hn2) hF hb (ans ns hlen)
end L2.DL

/-! DL19: what the printed texts lean on: module constants, defs by name, error classes. -/
namespace L2.DL
open PySem PySem.Spec PyProof.Rows
theorem nx_name {i : Nat} : NoEx (tgN i) := fun _ _ _ _ _ _ _ _ e => by cases e
def NoExs (g : List D → Mo Unit) : Prop := ∀ ds ρ μ c ns es ρ' μ', g ds ρ μ ≠ .ex c ns es ρ' μ'
theorem nxs_nil : NoExs tgNil := fun ds _ _ _ _ _ _ _ e => by
  cases ds with
  | nil => cases e
  | cons _ _ => cases e
theorem nxs_cons {g : D → Mo Unit} {gs : List D → Mo Unit} (h : NoEx g) (hs : NoExs gs) : NoExs (tgCons g gs) := fun ds ρ μ c ns es ρ' μ' e => by
  cases ds with
  | nil => cases e
  | cons d ds =>
    have e : bnd (g d) (fun _ => gs ds) ρ μ = .ex c ns es ρ' μ' := e
    unfold bnd at e
    cases q : g d ρ μ with
    | no => rw [q] at e; cases e
    | ex _ _ _ _ _ => exact h _ _ _ _ _ _ _ _ q
    | ok a ρ1 μ1 => rw [q] at e; exact hs _ _ _ _ _ _ _ _ e
theorem nx_tup {n : Nat} {gs : List D → Mo Unit} (h : NoExs gs) : NoEx (tgT n gs) := fun d ρ μ c ns es ρ' μ' e => by
  cases d with
  | tup ds =>
    have e : (if ds.length = n then gs ds else no) ρ μ = .ex c ns es ρ' μ' := e
    by_cases hl : ds.length = n
    · rw [if_pos hl] at e; exact h _ _ _ _ _ _ _ _ e
    · rw [if_neg hl] at e; cases e
  | _ => cases e
/-- a comprehension's block, looked at -/
theorem blk_ok {N : List Str} {sc scope : Scope} {own : List (Str × Nat)} (h : (scope.kind = .function ∧ (∀ y ∈ scope.names, scope.names.lookup y.1 = some y.2) ∧ (∀ p ∈ own, N[p.2]? = some p.1) ∧
    (∀ y ∈ scope.names, y.2 = .free → sc.names.lookup y.1 = some .cell ∨ sc.names.lookup y.1 = some .free) ∧ ∀ y ∈ scope.names, y.2 = .local ∨ y.2 = .cell → y.1 ∈ own.map (·.1) ∨ y.1 ∉ N)) : BlkOk N sc scope own := ⟨h.1, h.2.1, h.2.2.1, h.2.2.2.1, h.2.2.2.2⟩
def newD : Mo D := ret (.dct [] [])
theorem de_new {Φ : Ctx} {X : Cx} {pos : Pos} : DE Φ X (.Dict [] [] pos) newD := PE.imp pe_dnewK fun σ H Q ⟨ρ, μ, C, os, R, z⟩ p hp =>
  z _ _ C os (R.grow (Grow.upd hp)) (stp_grow (Grow.upd hp)) (.dct upd_same (R.fresh hp) rfl .nil)
theorem sub_mem {T : Sub} {k : Str × Str} {b : Bool} (h : T.lookup k = some b) : (k, b) ∈ T := by
  induction T with
  | nil => cases h
  | cons p T ih =>
    obtain ⟨a, c⟩ := p
    rw [List.lookup_cons] at h
    by_cases e : k == a
    · rw [e] at h
      cases h
      rw [eq_of_beq e]
      exact List.mem_cons_self
    · rw [Bool.not_eq_true] at e
      rw [e] at h
      exact List.mem_cons_of_mem _ (ih h)
/-- a constant of the module, told by the written part -/
structure GlK (K : PySem.W.Frag) (mg : Str → Option Value) (x : Str) (d : D) : Prop where
  ex : ∃ u v, mg x = some u ∧ RelV v u ∧ ∀ r : RC, r.K = K → r.mg = mg → Rep r v d
theorem GlK.gl {X : Cx} {x : Str} {d : D} (h : GlK X.K X.mg x d) : GlD X x d := ⟨h.ex⟩
inductive Flat : V → Value → D → Prop
  | int (i : Int) (t : Tok) : Flat (.int i) (.int i t) (.int i)
  | str (s : Str) (t : Tok) : Flat (.str s) (.str s t) (.str s)
inductive Flats : List V → List Value → List D → Prop
  | nil : Flats [] [] []
  | cons {v : V} {u : Value} {d : D} {vs : List V} {us : List Value} {ds : List D} (h : Flat v u d) (t : Flats vs us ds) : Flats (v :: vs) (u :: us) (d :: ds)
theorem Flats.vals : ∀ {vs : List V} {us : List Value} {ds : List D}, Flats vs us ds → Vals vs us
  | _, _, _, .nil => .nil
  | _, _, _, .cons h t => .cons (by cases h <;> exact ⟨_, rfl⟩) (Flats.vals t)
theorem Flats.reps {r : RC} : ∀ {vs : List V} {us : List Value} {ds : List D}, Flats vs us ds → Reps r vs ds
  | _, _, _, .nil => .nil
  | _, _, _, .cons h t => .cons (by cases h <;> constructor) (Flats.reps t)
section
variable {P : Program} {w : World} {K : PySem.W.Frag} {mg : Str → Option Value} {base h : Heap}
theorem glk_tup {x : Str} {T : Addr} {its : Array Value} {n : Nat} {sl : Array (Option Value)} {vs : List V} {ds : List D} (X : K.In h) (G : h.Ns mainGlobals mg) (a : PySem.W.nsIn K mainGlobals x = some (some (.ref T)))
    (l : K.lookup T = some ⟨.type "tuple", none, .seq its n, sl⟩) (f : Flats vs its.toList ds) (hs : its.size ≤ sizeLine) : GlK K mg x (.tup ds) :=
  ⟨.ref T, .ref T, PySem.W.mg_of X G a, rfl, fun r hK _ => .tup (.inr ⟨_, its, n, by rw [hK]; exact l, rfl, rfl, rfl, hs, f.vals⟩) f.reps⟩
/-- a def of the module, by its name -/
structure FunG (K : PySem.W.Frag) (mg : Str → Option Value) (x : Str) (st : Stmt) (f : Addr) (fd : FuncData) : Prop where
  fn : Fun K x x st f fd
  mg : mg x = some (.ref f)
theorem FunG.dfn {x : Str} {st : Stmt} {f : Addr} {fd : FuncData} {ps : List Str} {k : Nat} {G : Fn} (F : FunG K mg x st f fd) (ok : FnOk P w K mg base (L2.CX P w) k f fd ps (spD K mg G)) (hb : Binds K fd ps []) : Dfn P w K mg base x k G := ⟨f, fd, ps, ok, F.mg, F.fn.kp, hb⟩
theorem FunG.dfk {x : Str} {st : Stmt} {f : Addr} {fd : FuncData} {ps ks : List Str} {k n : Nat} {G : Fn} {ix : List Nat} (F : FunG K mg x st f fd) (ok : FnOk P w K mg base (L2.CX P w) k f fd ps (spD K mg G)) (hb : KwB K fd ps ks n ix) : DfK P w K mg base x k G n ks ix :=
  ⟨f, fd, ps, ok, F.mg, F.fn.kp, hb⟩
theorem Fun.kwb {x qual : Str} {st : Stmt} {f : Addr} {fd : FuncData} {ps ks : List Str} {n : Nat} {ix : List Nat} (F : Fun K x qual st f fd)
    (h : ∀ (kV doc pm : Value) (an : Option Addr) (cdv ct : Value) (us ws : List Value), us.length = n → ws.length = ks.length → bindArgs (PySem.W.fnOf x qual (defArgs st) (defBody st) (defScope st) .none kV doc pm an cdv ct) ⟨us, ks.zip ws⟩ = pure (ps.zip (pick ix (us ++ ws)))) : KwB K fd ps ks n ix := by
  obtain ⟨oc, od, kV, doc, pm, an, cdv, ct, osl, rfl, lk, hcd⟩ := F.ex
  exact fun s us ws _ h1 h2 => .of_eq (h kV doc pm an cdv ct us ws h1 h2)
/-- an error class of the module -/
structure ErrG (K : PySem.W.Frag) (mg : Str → Option Value) (c q : Str) (st : Stmt) (C fI : Addr) (fd : FuncData) (B nw ini : String) (bm0 : List Value) : Prop where
  mg : mg c = some (.ref C)
  base : ExcBaseFacts B nw ini bm0
  cls : ExC K C bm0 nw
  init : PySem.W.findIn K (.ref C) "__init__" = some (some (.ref fI))
  ty : PySem.W.typeIn K (.ref fI) = some (.type "function")
  fn : Fun K "__init__" q st fI fd
theorem ErrG.erx {c q : Str} {st : Stmt} {C fI : Addr} {fd : FuncData} {B nw ini : String} {bm0 : List Value} {N ps : List Str} {L : List (Str × Src)} {n : Nat} (E : ErrG K mg c q st C fI fd B nw ini bm0) (S : FnScope N ps (defScope st))
    (hno : ∀ p ∈ L, PySem.W.findIn K (.ref C) p.1 = some none) (hn : ps.length = n + 1)
    (hb : ∀ (cdv : Value) (A : Around) (outer : List PySem.Env) (s : Shared) (H : Hp) (E : XK), PSs (cxOf CX0 P w K mg base N q (defScope st) fI cdv A outer s H E).nox (defBody st) (tXs K bm0 nw L))
    (bnds : Binds K fd ps []) (hl : L.length ≤ 900 := by decide) : Erx P w K mg base c 1 n L :=
  ⟨C, fI, fd, ps, bm0, nw, B, ini, E.mg, E.base, E.cls, E.init, E.ty, Fun.okI E.fn S E.cls hno hl n hn hb, bnds⟩
theorem exc_mk {nm q : Str} {C N : Addr} {bs bm bm0 : List Value} {sn : List Str} {sub : List Value} {ab : Bool} {col : Option Bool} {dd : Option Addr} {k0 k1 k2 k3 k5 : Option Value} {nw : String}
    (l : K.lookup C = some (excClassObj nm q C N bs bm true sn sub ab col dd k0 k1 k2 k3 k5 nw)) (hp : ∀ self, refuseLoop self "__setattr__" bm0 = pure ()) (hr : refsB bm0 bm = true) (ho : bm.contains (.type "object") = true)
    (sa : PySem.W.findIn K (.ref C) "__setattr__" = some (some (.builtin "object.__setattr__"))) (e : PySem.W.subIn K (.ref C) (.type "BaseException") = some true) (t : PySem.W.typeIn K (.ref C) = some (.type "type")) (k : PySem.W.keepIn K (.ref C) = true) : ExC K C bm0 nw :=
  ⟨⟨nm, q, N, bs, bm, sn, sub, ab, col, dd, k0, k1, k2, k3, k5, l, (refsB_ok hp hr).1, ho, (refsB_ok hp hr).2⟩, sa, e, t, k⟩
theorem exm_mk {S T : Addr} {b : Bool} (h1 : PySem.W.subIn K (.ref T) (.type "BaseException") = some true) (h2 : PySem.W.isClsIn K T = true) (h3 : PySem.W.typeIn K (.ref T) = some (.type "type")) (h4 : PySem.W.subIn K (.ref S) (.ref T) = some b) : PySem.W.exmOne K (.ref S) (.ref T) = some b := by
  have e1 : (PySem.W.subIn K (.ref T) (.type "BaseException") == some true) = true := by rw [h1] <;> rfl
  have e2 : ((PySem.W.clsIn K T).isSome && PySem.W.typeIn K (.ref T) == some (.type "type")) = true := by
    have h2' : (PySem.W.clsIn K T).isSome = true := h2
    rw [h2', h3] <;> rfl
  show (if (PySem.W.subIn K (.ref T) (.type "BaseException") == some true) = true then (if ((PySem.W.clsIn K T).isSome && PySem.W.typeIn K (.ref T) == some (.type "type")) = true then PySem.W.subIn K (.ref S) (.ref T) else none) else none) = some b
  rw [if_pos e1, if_pos e2, h4]
end
end L2.DL

/-! DL20: the mirrors reckoned: each combinator where it stands before an environment and a store. -/
namespace L2.DL
open PySem PySem.Spec
def bo {α β : Type} (o : O α) (g : α → Mo β) : O β := match o with
  | .ok a ρ μ => g a ρ μ
  | .ex c ns vs ρ μ => .ex c ns vs ρ μ
  | .no => .no
def sq (o : O Fl) (g : Mo Fl) : O Fl := match o with
  | .ok .nx ρ μ => g ρ μ
  | o => o
def bf (o : O Bool) {β : Type} (f g : Mo β) : O β := match o with
  | .ok true ρ μ => f ρ μ
  | .ok false ρ μ => g ρ μ
  | .ex c ns vs ρ μ => .ex c ns vs ρ μ
  | .no => .no
def rb (r : R) (ρ : Env) : O D := match r with
  | .ok d μ => .ok d ρ μ
  | .ow d μ => .ok d ρ μ
  | .ex c ns vs μ => .ex c ns vs ρ μ
  | .no => .no
def rw' (r : R) (ρ : Env) : O D := match r with
  | .ow d μ => .ok d ρ μ
  | .ex c ns vs μ => .ex c ns vs ρ μ
  | _ => .no
def tr (o : O Fl) (T : Sub) (hs : List HD) : O Fl := match o with
  | .ex c ns vs ρ μ => hdl T c ns vs hs ρ μ
  | o => o
def fo (o : O Fl) (gt : D → Mo Unit) (body : Mo Fl) (ds : List D) : O Fl := match o with
  | .ok .nx ρ μ => forL gt body ds ρ μ
  | .ok .ct ρ μ => forL gt body ds ρ μ
  | .ok .bk ρ μ => .ok .nx ρ μ
  | o => o
def ri (o : O Fl) : R := match o with
  | .ok .nx _ μ => .ok .non μ
  | .ok (.rt d) _ μ => .ok d μ
  | .ok (.ro d) _ μ => .ow d μ
  | .ok _ _ _ => .no
  | .ex c ns vs _ μ => .ex c ns vs μ
  | .no => .no
section
variable {α β : Type} {f g k : Mo D} {t u : Mo Bool} {s s' : Mo Fl} {ρ : Env} {μ : Sto} {h : D → D → Option D} {h1 : D → Option D} {hn : List D → Option D} {hm : D → List D → Option D} {a : α} {d : D} {fa fb : Mo (List D)} {i n m : Nat} {ix : List Nat} {G : Fn}
theorem bo_ok {g : α → Mo β} : bo (.ok a ρ μ) g = g a ρ μ := rfl
theorem bo_ex {g : α → Mo β} {c : Str} {ns : List Str} {vs : List D} : bo (.ex c ns vs ρ μ) g = .ex c ns vs ρ μ := rfl
theorem bo_no {g : α → Mo β} : bo .no g = .no := rfl
theorem bnd_ap {f : Mo α} {g : α → Mo β} : bnd f g ρ μ = bo (f ρ μ) g := by
  unfold bnd bo
  cases f ρ μ <;> rfl
theorem ret_ap : ret a ρ μ = .ok a ρ μ := rfl
theorem cst_ap : cst d ρ μ = .ok d ρ μ := rfl
theorem skp_ap : skp ρ μ = .ok .nx ρ μ := rfl
theorem lift_so : lift (some a) ρ μ = .ok a ρ μ := rfl
theorem lift_no : lift (none : Option α) ρ μ = .no := rfl
theorem sq_nx {g : Mo Fl} : sq (.ok .nx ρ μ) g = g ρ μ := rfl
theorem sq_rt {g : Mo Fl} : sq (.ok (.rt d) ρ μ) g = .ok (.rt d) ρ μ := rfl
theorem sq_ro {g : Mo Fl} : sq (.ok (.ro d) ρ μ) g = .ok (.ro d) ρ μ := rfl
theorem sq_bk {g : Mo Fl} : sq (.ok .bk ρ μ) g = .ok .bk ρ μ := rfl
theorem sq_ct {g : Mo Fl} : sq (.ok .ct ρ μ) g = .ok .ct ρ μ := rfl
theorem sq_ex {g : Mo Fl} {c : Str} {ns : List Str} {vs : List D} : sq (.ex c ns vs ρ μ) g = .ex c ns vs ρ μ := rfl
theorem seqM_ap : seqM s s' ρ μ = sq (s ρ μ) s' := by
  unfold seqM bnd sq
  cases s ρ μ with
  | ok fl ρ' μ' => cases fl <;> rfl
  | _ => rfl
theorem bf_t {f g : Mo β} : bf (.ok true ρ μ) f g = f ρ μ := rfl
theorem bf_f {f g : Mo β} : bf (.ok false ρ μ) f g = g ρ μ := rfl
theorem bf_d {f g : Mo β} {p : Prop} [Decidable p] : bf (.ok (decide p) ρ μ) f g = if p then f ρ μ else g ρ μ := by
  by_cases q : p
  · rw [decide_eq_true q, if_pos q]; rfl
  · rw [decide_eq_false q, if_neg q]; rfl
theorem bf_eq {f g : Mo β} : bnd t (fun b => if b then f else g) ρ μ = bf (t ρ μ) f g := by
  unfold bnd bf
  cases t ρ μ with
  | ok b ρ' μ' => cases b <;> rfl
  | _ => rfl
theorem ifS_ap : ifS t s s' ρ μ = bf (t ρ μ) s s' := bf_eq
theorem ifM_ap : ifM t f g ρ μ = bf (t ρ μ) f g := bf_eq
theorem andM_ap : andM t u ρ μ = bf (t ρ μ) u (ret false) := bf_eq
theorem orM_ap : orM t u ρ μ = bf (t ρ μ) (ret true) u := bf_eq
theorem notM_ap : notM t ρ μ = bo (t ρ μ) fun b => ret (!b) := bnd_ap
theorem tst_ap : tst f ρ μ = bo (f ρ μ) fun x => lift (asBl x) := bnd_ap
theorem tru_ap : tru f ρ μ = bo (f ρ μ) fun x => lift (truD x) := bnd_ap
theorem op2_ap : op2 h f g ρ μ = bo (f ρ μ) fun x => bnd g fun y => lift (h x y) := bnd_ap
theorem op1_ap : op1 h1 f ρ μ = bo (f ρ μ) fun x => lift (h1 x) := bnd_ap
theorem opN_ap : opN hn fa ρ μ = bo (fa ρ μ) fun ds => lift (hn ds) := bnd_ap
theorem acons_ap : acons f fa ρ μ = bo (f ρ μ) fun d => bnd fa fun ds => ret (d :: ds) := bnd_ap
theorem anil_ap : anil ρ μ = .ok [] ρ μ := rfl
theorem tupM_ap : tupM fa ρ μ = bo (fa ρ μ) fun ds => lift (mkT ds) := bnd_ap
theorem lstM_ap : lstM fa ρ μ = bo (fa ρ μ) fun ds => lift (mkL ds) := bnd_ap
theorem slM_ap {l r : Mo OI} : slM f l r ρ μ = bo (f ρ μ) fun x => bnd l fun lo => bnd r fun hi => lift (slD x lo hi) := bnd_ap
theorem noP_ap : noP ρ μ = .ok none ρ μ := rfl
theorem prt_ap : prt f ρ μ = bo (f ρ μ) fun x => lift (asI x) := bnd_ap
theorem met0_ap : met0 hm f ρ μ = bo (f ρ μ) fun x => bnd (lift (isStr x)) fun _ => lift (hm x []) := bnd_ap
theorem met1_ap : met1 hm f g ρ μ = bo (f ρ μ) fun x => bnd (lift (isStr x)) fun _ => bnd g fun y => lift (hm x [y]) := bnd_ap
theorem metT_ap : metT hm f g ρ μ = bo (f ρ μ) fun x => bnd (lift (isTup x)) fun _ => bnd g fun y => lift (hm x [y]) := bnd_ap
theorem andV_ap : andV f g ρ μ = bo (f ρ μ) fun x => bnd (lift (asBl x)) fun b => if b then g else ret (.bl false) := bnd_ap
theorem orV_ap : orV f g ρ μ = bo (f ρ μ) fun x => bnd (lift (asBl x)) fun b => if b then ret (.bl true) else g := bnd_ap
theorem notV_ap : notV f ρ μ = bo (f ρ μ) fun x => bnd (lift (asBl x)) fun b => ret (.bl (!b)) := bnd_ap
theorem rtM_ap : rtM f ρ μ = bo (f ρ μ) fun d => ret (.rt d) := bnd_ap
theorem rtF_ap : rtF f ρ μ = bo (f ρ μ) fun d => ret (.ro d) := bnd_ap
theorem drp_ap : drp f ρ μ = bo (f ρ μ) fun _ => ret .nx := bnd_ap
theorem setM_ap : setM i f ρ μ = bo (f ρ μ) fun d => put i (.sh d) := bnd_ap
theorem setF_ap : setF i f ρ μ = bo (f ρ μ) fun d => put i (.ow d) := bnd_ap
theorem put_ap {e : Ent} : put i e ρ μ = .ok .nx (ρ.set i (some e)) μ := rfl
theorem stiM_ap : stiM i f g ρ μ = bo (f ρ μ) fun d => bnd (isLst i) fun _ => bnd g fun j => lstUp i fun ds => match j with
  | .int n => (ixN ds.length n).map fun m => ds.set m d
  | _ => none := bnd_ap
theorem apnM_ap : apnM i f ρ μ = bo (isLst i ρ μ) fun _ => bnd f fun d => lstUp i fun ds => if ds.length < lineN then some (ds ++ [d]) else none := bnd_ap
theorem forM_ap {gt : D → Mo Unit} : forM fa gt s ρ μ = bo (fa ρ μ) fun ds => forL gt s ds := bnd_ap
theorem forL_nil {gt : D → Mo Unit} : forL gt s [] ρ μ = .ok .nx ρ μ := rfl
theorem forL_cons {gt : D → Mo Unit} {ds : List D} : forL gt s (d :: ds) ρ μ = bo (gt d ρ μ) fun _ ρ μ => fo (s ρ μ) gt s ds := by
  show bnd (gt d) _ ρ μ = _
  rw [bnd_ap]
  congr 1
  funext _ ρ' μ'
  show bnd s _ ρ' μ' = _
  unfold bnd fo
  cases s ρ' μ' with
  | ok fl ρ' μ' => cases fl <;> rfl
  | _ => rfl
theorem walk_ap : walk f ρ μ = bo (f ρ μ) fun d => lift (seqD d) := bnd_ap
theorem rngM1_ap : rngM1 fa ρ μ = bo (fa ρ μ) fun ds => lift (rng1 ds) := bnd_ap
theorem rngM2_ap : rngM2 fa ρ μ = bo (fa ρ μ) fun ds => lift (rng2 ds) := bnd_ap
theorem zipM_ap : zipM fa ρ μ = bo (fa ρ μ) fun ds => lift (zipD ds) := bnd_ap
theorem lcM_ap {own : List Nat} {gt : D → Mo Unit} {ft : Mo Bool} : lcM own fa gt ft f ρ μ = bo (fa ρ μ) fun ds => lcAll own gt ft f ds := bnd_ap
theorem tgN_ap : tgN i d ρ μ = .ok () (ρ.set i (some (.sh d))) μ := rfl
theorem calM_ap : calM G fa ρ μ = bo (fa ρ μ) fun ds ρ μ => rb (G ds μ) ρ := by
  unfold calM
  rw [bnd_ap]
  rfl
theorem cawM_ap : cawM G fa ρ μ = bo (fa ρ μ) fun ds ρ μ => rw' (G ds μ) ρ := by
  unfold cawM
  rw [bnd_ap]
  rfl
theorem rb_ok : rb (.ok d μ) ρ = .ok d ρ μ := rfl
theorem rb_ow : rb (.ow d μ) ρ = .ok d ρ μ := rfl
theorem rb_ex {c : Str} {ns : List Str} {vs : List D} : rb (.ex c ns vs μ) ρ = .ex c ns vs ρ μ := rfl
theorem rw_ow : rw' (.ow d μ) ρ = .ok d ρ μ := rfl
theorem kwA_ap : kwA n m ix fa fb ρ μ = bo (fa ρ μ) fun ds => bnd fb fun es => if ds.length = n ∧ es.length = m then ret (pick ix (ds ++ es)) else no := bnd_ap
theorem raiM_ap {c : Str} {L : List (Str × Src)} : raiM c L n fa ρ μ = bo (fa ρ μ) fun ds ρ μ => if ds.length = n then (match fldD ds L [] [] with
  | some (ns, vs) => .ex c ns vs ρ μ
  | none => .no) else .no := bnd_ap
theorem dspM_ap {ps : List (Mo D × Mo D)} : dspM ps ρ μ = bo (prsM ps ρ μ) fun l => if (l.map (·.1)).Nodup ∧ l.length ≤ 15 then ret (.dct (l.map (·.1)) (l.map (·.2))) else no := bnd_ap
theorem prsM_nil : prsM [] ρ μ = .ok [] ρ μ := rfl
theorem prsM_cons {r : List (Mo D × Mo D)} : prsM ((f, g) :: r) ρ μ = bo (f ρ μ) fun dk => bnd g fun dv => bnd (prsM r) fun l => match keyD dk with
  | some k => ret ((k, dv) :: l)
  | none => no := bnd_ap
theorem newD_ap : newD ρ μ = .ok (.dct [] []) ρ μ := rfl
theorem tryM_ap {T : Sub} {hs : List HD} : tryM T s hs ρ μ = tr (s ρ μ) T hs := by
  unfold tryM tr
  cases s ρ μ <;> rfl
theorem tr_ok {T : Sub} {hs : List HD} {fl : Fl} : tr (.ok fl ρ μ) T hs = .ok fl ρ μ := rfl
theorem tr_ex {T : Sub} {hs : List HD} {c : Str} {ns : List Str} {vs : List D} : tr (.ex c ns vs ρ μ) T hs = hdl T c ns vs hs ρ μ := rfl
theorem runD_ap {ds : List D} (hl : ds.length = i) : runD i n s ds μ = ri (s (ds.map (fun d => some (Ent.sh d)) ++ List.replicate (n - ds.length) none) μ) := by
  unfold runD ri
  rw [if_pos hl]
  all_goals
    cases s (ds.map (fun d => some (Ent.sh d)) ++ List.replicate (n - ds.length) none) μ with
    | ok fl _ _ => cases fl <;> rfl
    | _ => rfl
theorem ri_nx : ri (.ok .nx ρ μ) = .ok .non μ := rfl
theorem ri_rt : ri (.ok (.rt d) ρ μ) = .ok d μ := rfl
theorem ri_ro : ri (.ok (.ro d) ρ μ) = .ow d μ := rfl
theorem ri_ex {c : Str} {ns : List Str} {vs : List D} : ri (.ex c ns vs ρ μ) = .ex c ns vs μ := rfl
theorem lett_ap : lett i ρ μ = match ρ[i]? with
  | some (some (.sh d)) => .ok d ρ μ
  | some (some (.ow d)) => .ok d (ρ.set i (some (.sh d))) μ
  | some (some (.bd c ns vs)) => .ok (.ins c ns vs) (ρ.set i (some (.sh (.ins c ns vs)))) μ
  | _ => .no := rfl
theorem pek_ap : pek i ρ μ = match ρ[i]? with
  | some (some (.sh d)) => (match pekD d μ with
    | some d' => .ok d' ρ μ
    | none => .no)
  | some (some (.ow d)) => .ok d ρ μ
  | _ => .no := rfl
theorem op2v_ap : op2v h i g ρ μ = bo (pek i ρ μ) fun _ => bnd g fun y => bnd (pek i) fun x => lift (h x y) := bnd_ap
end
end L2.DL

/-! DL21: the operators on values, reckoned. -/
namespace L2.DL
open PySem PySem.Spec
theorem add_ii (i j : Int) : addD (.int i) (.int j) = some (.int (i + j)) := rfl
theorem sub_ii (i j : Int) : subD (.int i) (.int j) = some (.int (i - j)) := rfl
theorem mul_ii {i j : Int} (h : mulC i j = true) : mulD (.int i) (.int j) = some (.int (i * j)) := if_pos h
theorem mod_ii {i j : Int} (h : 0 < j) : modD (.int i) (.int j) = some (.int (i % j)) := if_pos (decide_eq_true h)
theorem fdiv_ii {i j : Int} (h : 0 < j) (h2 : j.natAbs.log2 < 9000) : fdivD (.int i) (.int j) = some (.int (i / j)) := if_pos (by show (decide (0 < j) && decide (j.natAbs.log2 < 9000)) = true; rw [decide_eq_true h, decide_eq_true h2] <;> rfl)
theorem pow_ii {i j : Int} (h : powC i j = true) : powD (.int i) (.int j) = some (.int (i ^ j.toNat)) := if_pos h
theorem lt_ii (i j : Int) : ltA (.int i) (.int j) = some (.bl (decide (i < j))) := rfl
theorem le_ii (i j : Int) : leD (.int i) (.int j) = some (.bl (decide (i ≤ j))) := rfl
theorem gt_ii (i j : Int) : gtD (.int i) (.int j) = some (.bl (decide (j < i))) := rfl
theorem ge_ii (i j : Int) : geD (.int i) (.int j) = some (.bl (decide (j ≤ i))) := rfl
theorem eq_ii (i j : Int) : eqQ (.int i) (.int j) = some (.bl (decide (i = j))) := rfl
theorem eq_bb (i j : Bool) : eqQ (.bl i) (.bl j) = some (.bl (decide (i = j))) := rfl
theorem eq_ss (i j : Str) : eqQ (.str i) (.str j) = some (.bl (decide (i = j))) := rfl
theorem ne_bb (i j : Bool) : neD (.bl i) (.bl j) = some (.bl (!decide (i = j))) := rfl
theorem ne_ss (i j : Str) : neD (.str i) (.str j) = some (.bl (!decide (i = j))) := rfl
theorem int_i (i : Int) : intD (.int i) = some (.int i) := rfl
theorem abs_i (i : Int) : absD (.int i) = some (.int (if i < 0 then -i else i)) := rfl
theorem asBl_b (b : Bool) : asBl (.bl b) = some b := rfl
theorem len_l (ds : List D) : lenD (.lst ds) = some (.int ds.length) := rfl
theorem len_t (ds : List D) : lenD (.tup ds) = some (.int ds.length) := rfl
theorem len_f (ds : List D) : lenD (.frz ds) = some (.int ds.length) := rfl
theorem tru_b (b : Bool) : truD (.bl b) = some b := rfl
theorem ix_l (ds : List D) (i : Int) : ixD (.lst ds) (.int i) = L2.atI ds i := rfl
theorem ix_t (ds : List D) (i : Int) : ixD (.tup ds) (.int i) = L2.atI ds i := rfl
theorem ix50 (a b c d e : D) : L2.atI [a, b, c, d, e] 0 = some a := rfl
theorem ix51 (a b c d e : D) : L2.atI [a, b, c, d, e] 1 = some b := rfl
theorem ix52 (a b c d e : D) : L2.atI [a, b, c, d, e] 2 = some c := rfl
theorem ix53 (a b c d e : D) : L2.atI [a, b, c, d, e] 3 = some d := rfl
theorem ix54 (a b c d e : D) : L2.atI [a, b, c, d, e] 4 = some e := rfl
theorem up5 (a b c d e x : D) (k : Nat) (hk : k < 5) : (L2.ixN [a, b, c, d, e].length (k : Int)).map (fun m => [a, b, c, d, e].set m x) = some ([a, b, c, d, e].set k x) := by
  match k, hk with
  | 0, _ => rfl
  | 1, _ => rfl
  | 2, _ => rfl
  | 3, _ => rfl
  | 4, _ => rfl
theorem atI_nat {ds : List D} {i : Int} {d : D} (h0 : 0 ≤ i) (h : ds[i.toNat]? = some d) : L2.atI ds i = some d := by
  have hl := (List.getElem?_eq_some_iff.mp h).1
  have e : L2.ixN ds.length i = some i.toNat := by
    unfold L2.ixN
    rw [if_pos h0, if_pos (by omega)]
  unfold L2.atI
  rw [e]
  exact h
theorem ixN50 : L2.ixN 5 0 = some 0 := rfl
theorem ixN51 : L2.ixN 5 1 = some 1 := rfl
theorem ixN52 : L2.ixN 5 2 = some 2 := rfl
theorem ixN53 : L2.ixN 5 3 = some 3 := rfl
theorem ixN54 : L2.ixN 5 4 = some 4 := rfl
end L2.DL

/-! DL22: chains of <, <= of ints and texts; what is walked: a list, a tuple or a text. -/
namespace L2.DL
open PySem PySem.Spec PyProof.Rows
def strLeD : D → D → Option D
  | .str s, .str t => some (.bl (!decide (t.cps.toList < s.cps.toList)))
  | _, _ => none
theorem od_leS {X : Cx} : OpD X (fun x y H Q => ∃ i j, x = .str i ∧ y = .str j ∧ Q (.bl (!decide (j.cps.toList < i.cps.toList))) H) strLeD := by
  intro q x y d1 d2 d Q _ _ _ h1 h2 e k
  cases d1 <;> cases d2 <;> first
    | (cases e; exact ⟨_, _, h1.str, h2.str, k _ _ (Grow.refl _) (.bl _)⟩)
    | cases e
def leA (x y : D) : Option D := (leD x y).or (strLeD x y)
section
variable {Φ : Ctx} {X : Cx} {a b c e : Expr} {f g k : Mo D} {pos : Pos}
theorem de_leA (ha : DE Φ X a f) (hb : DB Φ X b g) : DE Φ X (.Compare a [.LtE] [b] pos) (op2 leA f g) := de_cmp (op_le.or op_le_str) (od_le.or od_leS) ha hb (nomark _)
theorem dt_leA (ha : DE Φ X a f) (hb : DB Φ X b g) : DT Φ X (.Compare a [.LtE] [b] pos) (tst (op2 leA f g)) := pt_of (op_le.or op_le_str) (od_le.or od_leS) ha hb (nomark _)
theorem de_chLL (ha : DE Φ X a f) (hb : DE Φ X b g) (hc : DE Φ X c k) (hm : lastMarks [.LtE, .LtE] [b, c] = false := by rfl) : DE Φ X (.Compare a [.LtE, .LtE] [b, c] pos) (chn leA leA f g k) := de_chn (op_le.or op_le_str) (op_le.or op_le_str) (od_le.or od_leS) (od_le.or od_leS) ha hb hc hm
theorem de_chLl (ha : DE Φ X a f) (hb : DE Φ X b g) (hc : DE Φ X c k) (hm : lastMarks [.LtE, .Lt] [b, c] = false := by rfl) : DE Φ X (.Compare a [.LtE, .Lt] [b, c] pos) (chn leA ltA f g k) := de_chn (op_le.or op_le_str) (op_lt.or op_lt_str) (od_le.or od_leS) (od_lt.or od_ltS) ha hb hc hm
theorem de_chll (ha : DE Φ X a f) (hb : DE Φ X b g) (hc : DE Φ X c k) (hm : lastMarks [.Lt, .Lt] [b, c] = false := by rfl) : DE Φ X (.Compare a [.Lt, .Lt] [b, c] pos) (chn ltA ltA f g k) := de_chn (op_lt.or op_lt_str) (op_lt.or op_lt_str) (od_lt.or od_ltS) (od_lt.or od_ltS) ha hb hc hm
theorem dt_chLL (ha : DE Φ X a f) (hb : DE Φ X b g) (hc : DE Φ X c k) (hm : lastMarks [.LtE, .LtE] [b, c] = false := by rfl) : DT Φ X (.Compare a [.LtE, .LtE] [b, c] pos) (tst (chn leA leA f g k)) := dt_chn (op_le.or op_le_str) (op_le.or op_le_str) (od_le.or od_leS) (od_le.or od_leS) ha hb hc hm
theorem dt_chLl (ha : DE Φ X a f) (hb : DE Φ X b g) (hc : DE Φ X c k) (hm : lastMarks [.LtE, .Lt] [b, c] = false := by rfl) : DT Φ X (.Compare a [.LtE, .Lt] [b, c] pos) (tst (chn leA ltA f g k)) := dt_chn (op_le.or op_le_str) (op_lt.or op_lt_str) (od_le.or od_leS) (od_lt.or od_ltS) ha hb hc hm
theorem dt_chll (ha : DE Φ X a f) (hb : DE Φ X b g) (hc : DE Φ X c k) (hm : lastMarks [.Lt, .Lt] [b, c] = false := by rfl) : DT Φ X (.Compare a [.Lt, .Lt] [b, c] pos) (tst (chn ltA ltA f g k)) := dt_chn (op_lt.or op_lt_str) (op_lt.or op_lt_str) (od_lt.or od_ltS) (od_lt.or od_ltS) ha hb hc hm
/-- a list, a tuple or a text, item by item -/
def walkA (f : Mo D) : Mo (List D) := bnd f fun d => lift ((seqD d).or (chrs d))
theorem walkA_or (f : Mo D) (ρ : Env) (μ : Sto) : walkA f ρ μ = walk f ρ μ ∨ walkA f ρ μ = walkS f ρ μ := by
  unfold walkA walk walkS bnd
  cases e : f ρ μ with
  | no => exact .inl rfl
  | ex c ns vs ρ' μ' => exact .inl rfl
  | ok d ρ' μ' =>
    cases e2 : seqD d with
    | some ds => left; simp only [e2, Option.some_or]
    | none => right; simp only [e2, Option.none_or]
theorem di_any {tg : Expr} (h : DE Φ X e f) : DI Rep Φ X tg e (walkA f) := PI.imp (PI.or (di_seq h) (di_str h)) fun σ H R ⟨ρ, μ, C, os, R0, z⟩ => by
  rcases walkA_or f ρ μ with q | q
  · exact .inl ⟨ρ, μ, C, os, R0, by rw [← q]; exact z⟩
  · exact .inr ⟨ρ, μ, C, os, R0, by rw [← q]; exact z⟩
end
theorem chn_ap {h h' : D → D → Option D} {f g k : Mo D} {ρ : Env} {μ : Sto} : chn h h' f g k ρ μ = bo (f ρ μ) fun x => bnd g fun y => bnd (lift (h x y)) fun z => bnd (lift (asBl z)) fun b => if b then bnd k fun w => lift (h' y w) else ret (.bl false) := bnd_ap
theorem walkA_ap {f : Mo D} {ρ : Env} {μ : Sto} : walkA f ρ μ = bo (f ρ μ) fun d => lift ((seqD d).or (chrs d)) := bnd_ap
theorem leA_ii (i j : Int) : leA (.int i) (.int j) = some (.bl (decide (i ≤ j))) := rfl
end L2.DL

/-! DL23: f-strings; repr of values with great ints. -/
namespace L2.DL
open PySem PySem.Spec PyProof.Rows
/-! ### f'..{e}..' -/
def fmtD : D → Option D
  | .str s => if s.length ≤ lineN then some (.str s) else none
  | .int i => if i.natAbs.log2 < 1920 then some (.str (toString i)) else none
  | _ => none
def jM : List (Mo D) → Str → Mo D
  | [], acc => ret (.str acc)
  | f :: fs, acc => bnd f fun d => match d with
    | .str s => if (acc ++ s).length ≤ lineN then jM fs (acc ++ s) else no
    | _ => no
section
variable {Φ : Ctx} {X : Cx} {e : Expr} {f : Mo D} {pos : Pos}
theorem de_fmt (he : DE Φ X e f) : DE Φ X (.FormattedValue e (-1) none pos) (op1 fmtD f) := PE.imp (pe_fmt he) fun σ H Q ⟨ρ, μ, C, os, R, z⟩ => ⟨ρ, μ, C, os, R, PostE.bnd z fun d ρ1 μ1 v H1 C1 os1 R1 S1 q1 z1 => by
  obtain ⟨d', e', k⟩ := lift_ok R1 z1
  cases q1 with
  | str s =>
    have e' : (if s.length ≤ lineN then some (D.str s) else none) = some d' := e'
    split at e'
    · rename_i hl
      cases e'
      exact .inl ⟨s, rfl, by rw [line_eq]; exact hl, k _ _ (Grow.refl _) (.str _)⟩
    · cases e'
  | int i =>
    have e' : (if i.natAbs.log2 < 1920 then some (D.str (toString i)) else none) = some d' := e'
    split at e'
    · rename_i hl
      cases e'
      exact .inr ⟨i, rfl, hl, k _ _ (Grow.refl _) (.str _)⟩
    · cases e'
  | _ => cases e'⟩
/-- the parts of an f-string -/
def DJ (Φ : Ctx) (X : Cx) (es : List Expr) (fs : List (Mo D)) : Prop := PJ X es (fs.map (cE Φ X))
theorem dj_nil : DJ Φ X [] [] := .nil
theorem dj_cons {es : List Expr} {fs : List (Mo D)} (h : DE Φ X e f) (r : DJ Φ X es fs) : DJ Φ X (e :: es) (f :: fs) := .cons h r
theorem j_run : ∀ {fs : List (Mo D)} {acc : Str} {ρ : Env} {μ : Sto} {C : List Addr} {os : Os} {σ : L2.St} {H : Hp} {Q : VK}, Rl Φ X ρ μ C os σ H → PostE Φ X C os σ H (jM fs acc ρ μ) Q → tJs (fs.map (cE Φ X)) acc σ H fun out H1 => Q (.str out) H1
  | [], acc, ρ, μ, C, os, σ, H, Q, R, z => z _ H C os R (Stp.refl _) (.str acc)
  | f :: fs, acc, ρ, μ, C, os, σ, H, Q, R, z => by
    have z : PostE Φ X C os σ H (bnd f (fun d => match d with
      | .str s => if (acc ++ s).length ≤ lineN then jM fs (acc ++ s) else no
      | _ => no) ρ μ) Q := z
    show cE Φ X f σ H _
    refine ⟨ρ, μ, C, os, R, PostE.bnd z fun d ρ1 μ1 v H1 C1 os1 R1 S1 q1 z1 => ?_⟩
    cases q1 with
    | str s =>
      have z1 : PostE Φ X C1 os1 σ H1 ((if (acc ++ s).length ≤ lineN then jM fs (acc ++ s) else no) ρ1 μ1) Q := z1
      by_cases hl : (acc ++ s).length ≤ lineN
      · rw [if_pos hl] at z1
        exact ⟨s, rfl, by rw [line_eq]; exact hl, j_run R1 z1⟩
      · rw [if_neg hl] at z1
        exact z1.elim
    | _ => exact z1.elim
theorem de_js {v1 v2 : Expr} {rest : List Expr} {fs : List (Mo D)} (h : DJ Φ X (v1 :: v2 :: rest) fs) : DE Φ X (.JoinedStr (v1 :: v2 :: rest) pos) (jM fs Str.empty) := PE.imp (pe_joined h) fun σ H Q ⟨ρ, μ, C, os, R, z⟩ => j_run R z
theorem de_js1 (h : DE Φ X e f) : DE Φ X (.JoinedStr [e] pos) f := pe_joined1 h

/-! ### repr, whatever the length of its leaves -/
def reprE (d : D) : Option D := match toR d with
  | some p => if p.showable && decide (p.shown.length ≤ lineN) && decide (p.depth ≤ 60) then some (.str p.shown) else none
  | none => none
def rReprE (X : Cx) : List V → Hp → VK → Prop := fun xs H Q => ∃ (r : RC) (x : V) (d : D) (p : PyData), xs = [x] ∧ r.K = X.K ∧ r.H = H ∧ RepW r x d ∧ toR d = some p ∧ p.showable = true ∧ p.shown.length ≤ lineN ∧ p.depth ≤ 60 ∧ Q (.str p.shown) H
theorem call_reprE (hg : X.A.guards = some []) (hu : hasUnits X) : CallR X (.builtin "repr") (rReprE X) := by
  intro pins s σ H xs us Q I r h
  obtain ⟨q, x, d, p, rfl, h1, h2, h3, h4, h5, h6, h8, k⟩ := h
  obtain ⟨u, rfl, rv⟩ := vals1 r
  obtain ⟨as, hr, hm⟩ := rep_reads I h1 h2 h3 rv h4
  have hz : p.shown.length ≤ sizeLine := by rw [line_eq]; exact h6
  have hu : X.A.units + 64 < cLine := hu
  have done : ∀ (h' : Heap) (u : Tok) (tk : Nat), (∀ b o, s.heap.get? b = some o → h'.get? b = some o) → EP X pins σ Q (.str p.shown u) { s with heap := h', toks := tk } := fun h' u tk hk => ⟨.str _, H, I.kept (t' := tk) hk, ⟨_, rfl⟩, k⟩
  cases hr with
  | none => exact PySem.P.repr_of_none ⟨.str _, H, I.tok _, ⟨_, rfl⟩, k⟩
  | bool b => exact PySem.P.repr_of_bool ⟨.str _, H, I.tok _, ⟨_, rfl⟩, k⟩
  | int i t => exact PySem.P.repr_of_int (by simpa [PyData.showable] using h5) ⟨.str _, H, I.tok _, ⟨_, rfl⟩, k⟩
  | str x t => exact PySem.P.repr_of_str ⟨.str _, H, I.tok _, ⟨_, rfl⟩, k⟩ (by simpa only [PyData.shown] using hz)
  | list a1 a2 a3 a4 => exact repr_of_reads' (.list a1 a2 a3 a4) h5 hm hg (by omega) (fun _ _ e => e) done hz
  | tuple a1 a2 a3 a4 => exact repr_of_reads' (.tuple a1 a2 a3 a4) h5 hm hg (by omega) (fun _ _ e => e) done hz
  | dict a1 a2 a3 a4 a5 => exact repr_of_reads' (.dict a1 a2 a3 a4 a5) h5 hm hg (by omega) (fun _ _ e => e) done hz
theorem cd_reprE : Cal1 X (rReprE X) reprE := by
  intro q x d1 d Q hK _ _ h1 e k
  unfold reprE at e
  cases e2 : toR d1 with
  | none => simp only [e2] at e; cases e
  | some p =>
    simp only [e2] at e
    split at e
    · rename_i hc
      simp only [Bool.and_eq_true, decide_eq_true_eq] at hc
      cases e
      exact ⟨q, x, d1, p, rfl, hK, rfl, h1, e2, hc.1.1, hc.1.2, hc.2, k _ _ (Grow.refl _) (.str _)⟩
    · cases e
theorem de_reprE {p : Pos} (hgd : X.A.guards = some []) (hu : hasUnits X) (hm : X.mg "repr" = none) (ha : DB Φ X e f) (hg : Gl X "repr" := by rfl) (he : starEach (e :: []) X.env = (false, eval e X.env) :: starEach [] X.env := by rfl) (hpl : (backTo pos (starEach [] X.env)).any (·.1) = false := by rfl) :
    DE Φ X (.Call (.Name "repr" p) [e] [] pos) (op1 reprE f) := de_b1 (call_reprE hgd hu) cd_reprE hm (by decide +kernel) ha hg (by decide) (by decide) he hpl
end
end L2.DL

/-! DL24: a tuple or list backward. -/
namespace L2.DL
open PySem PySem.Spec PyProof.Rows HT
theorem rev_pick (xs : Array Value) : ((List.range xs.size).filterMap fun (m : Nat) => xs[(((xs.size : Int) - 1) + (m : Int) * (-1)).toNat]?).toArray = xs.toList.reverse.toArray := by
  have e : (List.range xs.size).filterMap (fun (m : Nat) => xs[(((xs.size : Int) - 1) + (m : Int) * (-1)).toNat]?) = ((List.range xs.size).map fun k => xs.size - 1 - k).filterMap (xs[·]?) := by
    rw [List.filterMap_map]
    congr 1
    funext m
    have q : (((xs.size : Int) - 1) + (m : Int) * (-1)).toNat = xs.size - 1 - m := by omega
    rw [q] <;> rfl
  rw [e, PySem.W.krv_range, List.filterMap_reverse, PySem.W.krv_all]
section
variable {prog : Program} {w : World} {A : Around} {E : Value → Shared → Prop} {s : Shared}
theorem sliceApplied_rev {sl : Addr} {vl vu vs : Value} {n : Nat} {Q : Int × Int × Nat → Shared → Prop} (hs : s.heap.IsSliceOf sl vl vu vs) (pl : IsPart vl none) (pu : IsPart vu none) (ps : IsPart vs (some (-1)))
    (h : Q ((n : Int) - 1, -1, n) s) : wpAny (model prog w) A (Builtin.Slice.sliceApplied (.ref sl) (pure (n : Int))) Q E s := by
  obtain ⟨os, hos, hcs, hds⟩ := id hs
  unfold Builtin.Slice.sliceApplied Builtin.Slice.sliceFields
  refine wpAny_bind (wpAny_bind (wpAny_field hos hds (x := vl) rfl (wpAny_bind (wpAny_field hos hds (x := vu) rfl (wpAny_bind (wpAny_field hos hds (x := vs) rfl (wpAny_pure ?_)))))))
  refine wpAny_bind (slicePart_ ps ?_)
  show wpAny _ _ (if ((-1 : Int) == 0) = true then _ else _) _ _ s
  rw [if_neg (by decide)]
  refine wpAny_bind (slicePart_ pl (wpAny_bind (slicePart_ pu (wpAny_bind (wpAny_pure ?_)))))
  have e : Builtin.Slice.slicePlaces ((n : Int) - 1) (-1) (-1) = n := by
    unfold Builtin.Slice.slicePlaces
    rw [if_neg (by decide)]
    by_cases hn : (n : Int) - 1 > -1
    · rw [if_pos hn]
      have : ((n : Int) - 1 - -1 - 1) / (- -1) + 1 = n := by
        rw [show (- -1 : Int) = 1 by decide, Int.ediv_one]
        omega
      rw [this]
      exact Int.toNat_natCast n
    · rw [if_neg hn]
      have : n = 0 := by omega
      subst this
      rfl
  show wpAny _ _ (pure ((n : Int) - 1, (-1 : Int), Builtin.Slice.slicePlaces ((n : Int) - 1) (-1) (-1))) _ _ s
  rw [e]
  exact wpAny_pure h
theorem getItem_tuple_rev {t sl : Addr} {items : Array Value} {vl vu vs : Value} {Q : Value → Shared → Prop} (ht : IsTup s.heap t items) (hs : s.heap.IsSliceOf sl vl vu vs) (pl : IsPart vl none) (pu : IsPart vu none) (ps : IsPart vs (some (-1)))
    (h : Q (.ref s.heap.objs.size) { s with heap := s.heap.push { cls := .type "tuple", data := .seq items.toList.reverse.toArray } }) (hsz : items.size ≤ sizeLine) : wpAny (model prog w) A (getItem (.ref t) (.ref sl)) Q E s := by
  have fits : sizeOk (.seq items.toList.reverse.toArray) := by
    show items.toList.reverse.toArray.size ≤ sizeLine
    rw [List.size_toArray, List.length_reverse, Array.length_toList]
    exact hsz
  obtain ⟨os, hos, hcs, hds⟩ := id hs
  have hTs : s.TypeIs (.ref sl) "slice" := ⟨os, hos, hcs⟩
  unfold getItem
  try with_reducible refine wpAny_holding ?_
  first | refine wpAny_bind (wpAny_pure ?_) | skip
  refine wpAny_bind (wpAny_sequenceKey ht.typeIs (by decide) ?_)
  refine wpAny_bind (wpAny_callSpecial?_slot (name := Str.ofString "__getitem__") ht.typeIs PyProof.Rows.slot_tuple_getitem (wpAny_call_entry PyProof.Rows.slot_tuple_getitem ht.typeIs entry_tuple_getitem ?_ (args_tuple_getitem _ _)))
  show wpAny _ _ (Builtin.Tuple.tupleItemsOf (.ref t) >>= _) _ _ s
  refine wpAny_bind (tupleItemsOf_ ht (wpAny_bind (wpAny_typeOf hTs ?_)))
  rw [if_pos (by decide)]
  refine wpAny_bind (sliceApplied_rev hs pl pu ps ?_)
  have no : ¬ ((((items.size : Int) - 1) == 0 && (-1 : Int) == 1 && items.size == items.size) = true) := by
    rw [show ((-1 : Int) == 1) = false from by decide, Bool.and_false, Bool.false_and]
    exact Bool.false_ne_true
  show wpAny _ _ (if (((items.size : Int) - 1) == 0 && (-1 : Int) == 1 && items.size == items.size) = true then _ else _) _ _ s
  rw [if_neg no, rev_pick]
  first
    | exact wpAny_bind (m := Builtin.Tuple.tupleExact _) (wpAny_newObj_type (wpAny_pure ⟨_, rfl, wpAny_pure h⟩) fits)
    | exact wpAny_bind (m := Builtin.Tuple.tupleExact _) (wpAny_newObj_type (wpAny_bind (wpAny_pure (wpAny_pure ⟨_, rfl, wpAny_pure h⟩))) fits)
    | exact wpAny_bind (wpAny_bind (m := Builtin.Tuple.tupleExact _) (wpAny_newObj_type (wpAny_pure (wpAny_pure ⟨_, rfl, wpAny_pure h⟩)) fits))
    | exact wpAny_bind (wpAny_bind (m := Builtin.Tuple.tupleExact _) (wpAny_newObj_type (wpAny_pure ⟨_, rfl, wpAny_pure h⟩) fits))
end
theorem PE.or {X : Cx} {e : Expr} {t t' : TE} (h : PE X e t) (h' : PE X e t') : PE X e (fun σ H Q => t σ H Q ∨ t' σ H Q) := ⟨fun pins s σ H Q I q => by
  rcases q with q | q
  · exact h.run pins s σ H Q I q
  · exact h'.run pins s σ H Q I q⟩
section
variable {Φ : Ctx} {X : Cx} {e : Expr} {f : Mo D}
def tRvT (K : PySem.W.Frag) (te : TE) : TE := fun σ H Q => te σ H fun x H1 => ∃ a xs, x = .ref a ∧ SqT K H1 a xs ∧ NewT xs.reverse H1 Q
theorem pe_rvT {te : TE} {k : Nat} {p1 p2 p3 pos : Pos} (he : PE X e te) : PE X (.Subscript e (.Slice none none (some (.UnaryOp .USub (.Constant (.int 1) k p1) p2)) p3) pos) (tRvT X.K te) := by
  refine ⟨fun pins s σ H Q I h => Subscript_ (thn (he.run pins s σ H _ I h) fun v s1 ⟨x, H1, I1, r1, a, xs, ex, hx, q⟩ => ?_)⟩
  subst ex
  cases r1
  have st : PO X (some (.UnaryOp .USub (.Constant (.int 1) k p1) p2)) (tPart (tUn (rU fun i => .int (-i)) (tC (.int 1)))) := po_some (pe_un un_neg pe_int)
  refine wpAny_Slice (thn (po_none.run pins s1 σ H1 (fun o H2 => o = none ∧ H2 = H1) I1 ⟨rfl, rfl⟩) fun vl s2 ⟨l, H2, I2, pl, el, e2⟩ => ?_)
  subst el e2
  refine thn (po_none.run pins s2 σ H2 (fun o H3 => o = none ∧ H3 = H2) I2 ⟨rfl, rfl⟩) fun vu s3 ⟨u, H3, I3, pu, eu, e3⟩ => ?_
  subst eu e3
  refine thn (st.run pins s3 σ H3 (fun o H4 => o = some (-1) ∧ H4 = H3) I3 ⟨1, rfl, -1, rfl, rfl, rfl⟩) fun vs s4 ⟨o, H4, I4, ps, eo, e4⟩ => ?_
  subst eo e4
  have I5 : Inv X pins σ H4 { s4 with heap := s4.heap.push { cls := .type "slice", data := .fields #[vl, vu, vs] } } := I4.kept (t' := s4.toks) fun b ob q => Heap.get?_push_of_some _ q
  obtain ⟨its, r, ht, hz⟩ := I5.tuple hx
  have hlen := r.length
  show wpAny (model X.prog X.w) X.A (subscriptTail e (.Slice none none (some (.UnaryOp .USub (.Constant (.int 1) k p1) p2)) p3) (.ref a) (.ref s4.heap.objs.size)) (EP X pins σ Q) X.xe _
  refine tail_any (ops := [.ref a, .ref s4.heap.objs.size]) ht.typeIs PyProof.Rows.slot_tuple_getitem.lookup ?_ (by with_unfolding_all rfl)
  refine getItem_tuple_rev ht (Heap.IsSliceOf.new _ vl vu vs) pl pu ps ?_ (by rw [List.size_toArray]; omega)
  exact laidT I5 r.reverse (by rw [List.length_reverse]; exact hz) q
def revA : D → Option D
  | .str z => if z.length ≤ lineN then some (.str (revS z)) else none
  | .lst xs | .frz xs => some (.lst xs.reverse)
  | .tup xs => some (.tup xs.reverse)
  | _ => none
theorem de_revA {k : Nat} {p1 p2 p3 pos : Pos} (he : DE Φ X e f) : DE Φ X (.Subscript e (.Slice none none (some (.UnaryOp .USub (.Constant (.int 1) k p1) p2)) p3) pos) (op1 revA f) :=
  PE.imp (PE.or (pe_rvS he) (PE.or (pe_revL he) (pe_rvT he))) fun σ H Q ⟨ρ, μ, C, os, R, z⟩ => by
  cases e1 : f ρ μ with
  | no => unfold op1 bnd at z; simp only [e1] at z; exact z.elim
  | ex c ns vs ρ1 μ1 =>
    unfold op1 bnd at z
    simp only [e1] at z
    exact .inl ⟨ρ, μ, C, os, R, by rw [e1]; exact z⟩
  | ok d ρ1 μ1 =>
    unfold op1 bnd at z
    simp only [e1] at z
    have go : ∀ {v : V} {H1 : Hp} {C1 : List Addr} {os1 : Os}, Rl Φ X ρ1 μ1 C1 os1 σ H1 → Stp (rc Φ X C os H) (rc Φ X C1 os1 H1) → ∃ d', revA d = some d' ∧ ∀ v H', Grow H1 H' → Rep (rc Φ X C1 os1 H') v d' → Q v H' := fun R1 S1 => lift_ok R1 (PostE.from S1 z)
    cases d with
    | str s =>
      refine .inl ⟨ρ, μ, C, os, R, ?_⟩
      rw [e1]
      intro v H1 C1 os1 R1 S1 q1
      obtain ⟨d', e', k⟩ := go (v := v) R1 S1
      have e' : (if s.length ≤ lineN then some (D.str (revS s)) else none) = some d' := e'
      split at e'
      · rename_i hl
        cases e'
        cases q1
        exact ⟨s, rfl, by rw [line_eq]; exact hl, k _ _ (Grow.refl _) (.str _)⟩
      · cases e'
    | lst xs =>
      refine .inr (.inl ⟨ρ, μ, C, os, R, ?_⟩)
      rw [e1]
      intro v H1 C1 os1 R1 S1 q1
      obtain ⟨d', e', k⟩ := go (v := v) R1 S1
      cases e'
      cases q1 with
      | lst ha n qs => exact ⟨_, _, rfl, .of ha, fun p hp => k _ _ (Grow.upd hp) (NewR.rep (d := .lst _) ⟨_, rfl, qs.reverse⟩ hp (R1.fr p hp))⟩
    | frz xs =>
      refine .inr (.inl ⟨ρ, μ, C, os, R, ?_⟩)
      rw [e1]
      intro v H1 C1 os1 R1 S1 q1
      obtain ⟨d', e', k⟩ := go (v := v) R1 S1
      cases e'
      cases q1 with
      | frz ha qs => exact ⟨_, _, rfl, ha.sq, fun p hp => k _ _ (Grow.upd hp) (NewR.rep (d := .lst _) ⟨_, rfl, qs.reverse⟩ hp (R1.fr p hp))⟩
    | tup xs =>
      refine .inr (.inr ⟨ρ, μ, C, os, R, ?_⟩)
      rw [e1]
      intro v H1 C1 os1 R1 S1 q1
      obtain ⟨d', e', k⟩ := go (v := v) R1 S1
      cases e'
      cases q1 with
      | tup hT qs => exact ⟨_, _, rfl, hT.sq, newT (q := rc Φ X C1 os1 H1) R1.fr qs.reverse k⟩
    | non => exact z.elim
    | bl _ => exact z.elim
    | int _ => exact z.elim
    | dct _ _ => exact z.elim
    | ins _ _ _ => exact z.elim
    | cell _ => exact z.elim
end
end L2.DL

/-! DL25: tuple(range(i, j, c)). -/
namespace L2.DL
open PySem PySem.Spec PyProof.Rows
def rg3V (i c : Int) (n : Nat) : List V := (List.range n).map fun k => V.int (i + (k : Nat) * c)
def rg3D (i c : Int) (n : Nat) : List D := (List.range n).map fun k => D.int (i + (k : Nat) * c)
theorem rg3_vals {i c : Int} {n : Nat} {acc : Array Value} (h : ItemsOf (fun k v => ∃ t, v = Value.int (i + k * c) t) acc n) : Vals (rg3V i c n) acc.toList := by
  have hl : acc.toList.length = n := by rw [Array.length_toList]; exact h.1
  have e : rg3V i c n = (List.range acc.toList.length).map fun k => V.int (i + (k : Nat) * c) := by rw [hl] <;> rfl
  rw [e]
  have go : ∀ (l : List Value) (m : Nat), (∀ j v, l[j]? = some v → ∃ t, v = Value.int (i + ((m + j : Nat) : Int) * c) t) → Vals ((List.range' m l.length).map fun k => V.int (i + (k : Nat) * c)) l := by
    intro l
    induction l with
    | nil => intro m _; exact .nil
    | cons x l ih =>
      intro m hm
      rw [List.length_cons, List.range'_succ, List.map_cons]
      refine .cons ?_ (ih (m + 1) fun j v hj => ?_)
      · obtain ⟨t, e⟩ := hm 0 x rfl
        exact ⟨t, e⟩
      · obtain ⟨t, e⟩ := hm (j + 1) v (by simpa using hj)
        refine ⟨t, ?_⟩
        rw [e]
        congr 3
        omega
  rw [List.range_eq_range']
  refine go acc.toList 0 fun j v hj => ?_
  rw [Array.getElem?_toList] at hj
  obtain ⟨t, e⟩ := h.2 j v hj
  exact ⟨t, by rw [e, Nat.zero_add]⟩
def rg3 : List D → Option (List D)
  | [.int i, .int j, .int c] => if c ≠ 0 ∧ c.natAbs < 1073741824 ∧ Builtin.Range.small i j c = true ∧ Builtin.Range.rangeSize i j c = ((Builtin.Range.rangeSize i j c).toNat : Int) ∧ (Builtin.Range.rangeSize i j c).toNat ≤ lineN then
    some (rg3D i c (Builtin.Range.rangeSize i j c).toNat) else none
  | _ => none
def tupR3 (fa : Mo (List D)) : Mo D := bnd fa fun ds => lift ((rg3 ds).map D.tup)
section
variable {Φ : Ctx} {X : Cx} {a b c : Expr} {fa : Mo (List D)}
def tTR3 (ta : TA) : TE := fun σ H Q => ta σ H fun vs H1 => ∃ (i j c : Int) (n : Nat), vs = [.int i, .int j, .int c] ∧ RgC i j c n ∧ n ≤ lineN ∧ NewT (rg3V i c n) H1 Q
theorem pe_tR3 {ta : TA} {p pos p2 pos2 : Pos} (hc : X.calm = true) (hg : Gl X "tuple") (hm : X.mg "tuple" = none) (hg2 : Gl X "range") (hm2 : X.mg "range" = none) (ha : PA X [a, b, c] ta)
    (na : starEach [.Call (.Name "range" p2) [a, b, c] [] pos2] X.env = (false, eval (.Call (.Name "range" p2) [a, b, c] [] pos2) X.env) :: starEach [] X.env)
    (hs : starEach [a, b, c] X.env = (false, eval a X.env) :: starEach [b, c] X.env) (hpl : (backTo pos2 (starEach [b, c] X.env)).any (·.1) = false) :
    PE X (.Call (.Name "tuple" p) [.Call (.Name "range" p2) [a, b, c] [] pos2] [] pos) (tTR3 ta) := by
  refine ⟨fun pins s σ H Q I h => ?_⟩
  refine Call_ (ld_blt I hg hm boot_tuple (PyProof.Rows.callWith_type1 (args_cons ?_ na) na))
  refine Call_ (ld_blt I hg2 hm2 boot_range (PyProof.Rows.callWith_type1 (thn (ha.run pos2 pins s σ H _ I h) fun us s1 ⟨vs, H1, I1, r1, i, j, k, n, e, ⟨c0, c1, c2, c3⟩, hn, q⟩ => ?_) hs hpl))
  subst e
  cases r1 with
  | cons r rr =>
    cases rr with
    | cons r' rr =>
      cases rr with
      | cons r'' rr =>
        cases rr
        obtain ⟨t, rfl⟩ := r
        obtain ⟨t', rfl⟩ := r'
        obtain ⟨t'', rfl⟩ := r''
        refine call_range_3 c0 ?_ (.inl (PyProof.noPylong_small c1))
        have I2 : Inv X pins σ H1 { s1 with heap := s1.heap.push { cls := .type "range", data := .fields #[.int i t, .int j t', .int k t''] } } := I1.kept (t' := s1.toks) fun b o e => Heap.get?_push_of_some _ e
        refine args_nil (call_tuple_range (I2.ok.hd hc) (IsRange.new _ _ _ _ _ _ _) c2 c3 (Nat.le_trans hn (by decide)) fun h' tk acc hk hi => ?_)
        have I3 : Inv X pins σ H1 { s1 with heap := h', toks := tk } := I2.kept (t' := tk) hk
        have z := laidT (s := { s1 with heap := h', toks := tk }) I3 (rg3_vals hi) (by unfold rg3V; rw [List.length_map, List.length_range, line_eq]; exact hn) q
        have te : tupOb acc.toList = { cls := .type "tuple", data := .seq acc } := by unfold tupOb; rw [Array.toArray_toList]
        rw [te] at z
        exact z
theorem reps_rg3 {r : RC} (i c : Int) (n : Nat) : Reps r (rg3V i c n) (rg3D i c n) := by
  unfold rg3V rg3D
  induction List.range n with
  | nil => exact .nil
  | cons k l ih => exact .cons (.int _) ih
theorem de_tR3 {p pos p2 pos2 : Pos} (hc : X.calm = true) (hm : X.mg "tuple" = none) (hm2 : X.mg "range" = none) (ha : DA Φ X [a, b, c] fa) (hg : Gl X "tuple" := by rfl) (hg2 : Gl X "range" := by rfl)
    (na : starEach [.Call (.Name "range" p2) [a, b, c] [] pos2] X.env = (false, eval (.Call (.Name "range" p2) [a, b, c] [] pos2) X.env) :: starEach [] X.env := by rfl)
    (hs : starEach [a, b, c] X.env = (false, eval a X.env) :: starEach [b, c] X.env := by rfl) (hpl : (backTo pos2 (starEach [b, c] X.env)).any (·.1) = false := by rfl) :
    DE Φ X (.Call (.Name "tuple" p) [.Call (.Name "range" p2) [a, b, c] [] pos2] [] pos) (tupR3 fa) := PE.imp (pe_tR3 hc hg hm hg2 hm2 ha na hs hpl) fun σ H Q ⟨ρ, μ, C, os, R, z⟩ =>
  ⟨ρ, μ, C, os, R, PostE.bndA z fun ds ρ1 μ1 vs H1 C1 os1 R1 S1 q1 z1 => by
    obtain ⟨d, e, k⟩ := lift_ok R1 z1
    obtain ⟨l, e2, rfl⟩ := Option.map_eq_some_iff.mp e
    unfold rg3 at e2
    split at e2
    · rename_i i j c
      split at e2
      · rename_i hk
        cases e2
        obtain ⟨k1, k2, k3, k4, k5⟩ := hk
        cases q1 with
        | cons h t =>
          cases t with
          | cons h2 t =>
            cases t with
            | cons h3 t =>
              cases t
              cases h; cases h2; cases h3
              exact ⟨i, j, c, _, rfl, ⟨k1, k2, k3, k4⟩, k5, newT (q := rc Φ X C1 os1 H1) R1.fr (reps_rg3 i c _) k⟩
      · cases e2
    · cases e2⟩
end
end L2.DL

/-! DL26: the fields of instances. -/
namespace L2.DL
open PySem PySem.Spec PyProof.Rows
/-- the module's classes, each with the names that no class of it holds -/
abbrev FT := List (Str × List Str)
def FtOk (K : PySem.W.Frag) (mg : Str → Option Value) (T : FT) : Prop := ∀ c fs, T.lookup c = some fs → ∀ Cc, mg c = some (.ref Cc) → Cls K Cc ∧ ∀ f ∈ fs, NoAttr K Cc f
def fldOf (T : FT) (f c : Str) (ns : List Str) (vs : List D) : Option D := match T.lookup c with
  | some fs => if f ∈ fs then (ns.zip vs).lookup f else none
  | none => none
def insOf (d : D) (μ : Sto) : Option (Str × List Str × List D) := match d with
  | .ins c ns vs => some (c, ns, vs)
  | .cell n => match μ[n]? with
    | some (.ins c ns vs) => some (c, ns, vs)
    | _ => none
  | _ => none
def fldM (T : FT) (f : Str) (g : Mo D) : Mo D := bnd g fun d ρ μ => match insOf d μ with
  | some (c, ns, vs) => lift (fldOf T f c ns vs) ρ μ
  | none => .no
/-- the field of what a name holds: an instance, also one that is being made -/
def fldV (T : FT) (f : Str) (i : Nat) : Mo D := fun ρ μ => match ρ[i]? with
  | some (some (.bd c ns vs)) => lift (fldOf T f c ns vs) ρ μ
  | some (some (.sh d)) => (match insOf d μ with
    | some (c, ns, vs) => lift (fldOf T f c ns vs) ρ μ
    | none => .no)
  | _ => .no
section
variable {Φ : Ctx} {X : Cx} {e : Expr} {f : Str} {g : Mo D} {T : FT} {pos p : Pos}
theorem fld_at {ρ : Env} {μ : Sto} {C : List Addr} {os : Os} {σ : L2.St} {H : Hp} {Q : VK} {a : Addr} {c : Str} {ns : List Str} {vs : List D} (hT : FtOk X.K X.mg T) (R : Rl Φ X ρ μ C os σ H) (b : BdR (rc Φ X C os H) a c ns vs)
    (z : PostE Φ X C os σ H (lift (fldOf T f c ns vs) ρ μ) Q) : ∃ C' dx fs v, H a = some (.ins C' dx fs) ∧ Cls X.K C' ∧ NoAttr X.K C' f ∧ fs.lookup f = some v ∧ Q v H := by
  obtain ⟨Cc, dx, fs, h1, h2, h3, h4⟩ := b
  obtain ⟨d, e, k⟩ := lift_ok R z
  unfold fldOf at e
  cases e1 : T.lookup c with
  | none => simp only [e1] at e; cases e
  | some l =>
    simp only [e1] at e
    split at e
    · rename_i hf
      obtain ⟨t1, t2⟩ := hT c l e1 Cc h2
      obtain ⟨v, hv, q⟩ := zip_look h3 h4 e
      exact ⟨Cc, dx, fs, v, h1, t1, t2 f hf, hv, k v H (Grow.refl _) q⟩
    · cases e
theorem ins_at {ρ : Env} {μ : Sto} {C : List Addr} {os : Os} {σ : L2.St} {H : Hp} {v : V} {d : D} {c : Str} {ns : List Str} {vs : List D} (R : Rl Φ X ρ μ C os σ H) (q : Rep (rc Φ X C os H) v d) (e : insOf d μ = some (c, ns, vs)) : ∃ a, v = .ref a ∧ BdR (rc Φ X C os H) a c ns vs := by
  cases q with
  | ins h n g e2 qs =>
    cases e
    exact ⟨_, rfl, _, _, _, h, g, e2, qs⟩
  | @cell a n h =>
    have e : (match μ[n]? with
      | some (.ins c ns vs) => some (c, ns, vs)
      | _ => none) = some (c, ns, vs) := e
    split at e
    · rename_i c' ns' vs' hm
      cases e
      exact ⟨a, rfl, R.sto.2 n a _ h hm⟩
    · cases e
  | _ => cases e
theorem de_fld (hT : FtOk X.K X.mg T) (he : DE Φ X e g) (hb : attributeBase e f X.env (eval e X.env) = eval e X.env := by rfl) : DE Φ X (.Attribute e f pos) (fldM T f g) := PE.imp (pe_fld he hb) fun σ H Q ⟨ρ, μ, C, os, R, z⟩ =>
  ⟨ρ, μ, C, os, R, PostE.bnd z fun d ρ1 μ1 v H1 C1 os1 R1 S1 q1 z1 => by
    cases e1 : insOf d μ1 with
    | none => simp only [e1] at z1; exact z1.elim
    | some r =>
      obtain ⟨c, ns, vs⟩ := r
      simp only [e1] at z1
      obtain ⟨a, rfl, b⟩ := ins_at R1 q1 e1
      obtain ⟨C', dx, fs, w, h1, h2, h3, h4, h5⟩ := fld_at hT R1 b z1
      exact ⟨a, C', dx, fs, w, rfl, h1, h2, h3, h4, h5⟩⟩
theorem de_fldv {i : Nat} {x : Str} (hT : FtOk X.K X.mg T) (hN : X.N[i]? = some x := by rfl) (hv : Vis X.env.scope x := by first | exact Or.inl rfl | exact Or.inr (Or.inl rfl) | exact Or.inr (Or.inr rfl)) (hd : (x == ("__debug__" : Str)) = false := by decide)
    (hcd : (x == ("__classdict__" : Str)) = false := by decide) (hb : attributeBase (.Name x p) f X.env (eval (.Name x p) X.env) = eval (.Name x p) X.env := by rfl) : DE Φ X (.Attribute (.Name x p) f pos) (fldV T f i) :=
  PE.imp (pe_fld (pe_var hN hv hd hcd) hb) fun σ H Q ⟨ρ, μ, C, os, R, z⟩ => by
  unfold fldV at z
  cases e1 : ρ[i]? with
  | none => simp only [e1] at z; exact z.elim
  | some t =>
    cases t with
    | none => simp only [e1] at z; exact z.elim
    | some t =>
      cases t with
      | ow d => simp only [e1] at z; exact z.elim
      | eh c ns vs => simp only [e1] at z; exact z.elim
      | bd c ns vs =>
        simp only [e1] at z
        obtain ⟨v, hv', a, ⟨rfl, _⟩, _, b⟩ := R.env i _ e1
        obtain ⟨C', dx, fs, w, h1, h2, h3, h4, h5⟩ := fld_at hT R b z
        exact ⟨.ref a, hv', a, C', dx, fs, w, rfl, h1, h2, h3, h4, h5⟩
      | sh d =>
        simp only [e1] at z
        obtain ⟨v, hv', q⟩ := R.env i _ e1
        cases e2 : insOf d μ with
        | none => simp only [e2] at z; exact z.elim
        | some r =>
          obtain ⟨c, ns, vs⟩ := r
          simp only [e2] at z
          obtain ⟨a, rfl, b⟩ := ins_at R q e2
          obtain ⟨C', dx, fs, w, h1, h2, h3, h4, h5⟩ := fld_at hT R b z
          exact ⟨.ref a, hv', a, C', dx, fs, w, rfl, h1, h2, h3, h4, h5⟩
end
end L2.DL

/-! DL27: self.f = e. -/
namespace L2.DL
open PySem PySem.Spec PyProof.Rows
def putD (f : Str) (d : D) : List Str → List D → List Str × List D
  | g :: ns, v :: vs => if g = f then (g :: ns, d :: vs) else (g :: (putD f d ns vs).1, v :: (putD f d ns vs).2)
  | _, _ => ([f], [d])
theorem put_rep {r : RC} {f : Str} {y : V} {d : D} (q : Rep r y d) : ∀ {fs : List (Str × V)} {ns : List Str} {vs : List D}, fs.map (·.1) = ns → Reps r (fs.map (·.2)) vs →
    (putF f y fs).map (·.1) = (putD f d ns vs).1 ∧ Reps r ((putF f y fs).map (·.2)) (putD f d ns vs).2
  | [], ns, vs, h1, h2 => by
    subst h1
    cases h2
    exact ⟨rfl, .cons q .nil⟩
  | (g, x) :: fs, ns, vs, h1, h2 => by
    subst h1
    cases h2 with
    | @cons _ v _ vs hx t =>
      have ih := put_rep (f := f) q (fs := fs) rfl t
      unfold putF
      simp only [List.map_cons]
      unfold putD
      by_cases e : g = f
      · rw [if_pos e, if_pos e]
        exact ⟨rfl, .cons q t⟩
      · rw [if_neg e, if_neg e]
        refine ⟨?_, .cons hx ih.2⟩
        show g :: (putF f y fs).map (·.1) = g :: _
        rw [ih.1]
/-- may the field be set -/
def setOk (T : FT) (c f : Str) (ns : List Str) : Bool := (match T.lookup c with
  | some fs => decide (f ∈ fs)
  | none => false) && decide (ns.length < 1000)
def satM (T : FT) (f : Str) (i : Nat) (g : Mo D) : Mo Fl := bnd g fun d ρ μ => match ρ[i]? with
  | some (some (.bd c ns vs)) => if setOk T c f ns = true then .ok .nx (ρ.set i (some (.bd c (putD f d ns vs).1 (putD f d ns vs).2))) μ else .no
  | some (some (.sh (.cell n))) => (match μ[n]? with
    | some (.ins c ns vs) => if setOk T c f ns = true then .ok .nx ρ (μ.set n (.ins c (putD f d ns vs).1 (putD f d ns vs).2)) else .no
    | _ => .no)
  | _ => .no
section
variable {Φ : Ctx} {X : Cx} {e : Expr} {f : Str} {g : Mo D} {T : FT} {pos p p' : Pos}
theorem setOk_at {K : PySem.W.Frag} {mg : Str → Option Value} {c : Str} {ns : List Str} (hT : FtOk K mg T) (h : setOk T c f ns = true) {Cc : Addr} (hm : mg c = some (.ref Cc)) : Cls K Cc ∧ NoAttr K Cc f ∧ ns.length < 1000 := by
  unfold setOk at h
  rw [Bool.and_eq_true, decide_eq_true_iff] at h
  cases e : T.lookup c with
  | none => rw [e] at h; cases h.1
  | some fs =>
    rw [e] at h
    obtain ⟨t1, t2⟩ := hT c fs e Cc hm
    exact ⟨t1, t2 f (of_decide_eq_true h.1), h.2⟩
theorem bd_put {r r' : RC} {a : Addr} {c : Str} {ns : List Str} {vs : List D} {y : V} {d : D} {Cc dx : Addr} {fs : List (Str × V)} (S : Stp r r') (hm : r.mg c = some (.ref Cc)) (h1 : fs.map (·.1) = ns) (h2 : Reps r (fs.map (·.2)) vs) (q : Rep r y d)
    (ha : r'.H a = some (.ins Cc dx (putF f y fs))) : BdR r' a c (putD f d ns vs).1 (putD f d ns vs).2 := by
  obtain ⟨e1, e2⟩ := put_rep (f := f) q h1 h2
  exact ⟨Cc, dx, _, ha, by rw [S.g]; exact hm, e1, e2.step S⟩
theorem ds_sat {i : Nat} {x : Str} (hT : FtOk X.K X.mg T) (he : DE Φ X e g) (hN : X.N[i]? = some x := by rfl) (hv : Vis X.env.scope x := by first | exact Or.inl rfl | exact Or.inr (Or.inl rfl) | exact Or.inr (Or.inr rfl)) (hd : (x == ("__debug__" : Str)) = false := by decide)
    (hcd : (x == ("__classdict__" : Str)) = false := by decide) (hs : swapsWith e (some (.Attribute (.Name x p) f p')) pos.line X.env = pure false := by rfl) : DS Φ X (.Assign [.Attribute (.Name x p) f p'] e pos) (satM T f i g) :=
  PS.imp (ps_fld (pe_var hN hv hd hcd) he hs) fun E σ H ⟨ρ, μ, C, os, R, z⟩ => ⟨ρ, μ, C, os, R, PostS.bndE z fun d ρ1 μ1 y H1 C1 os1 R1 S1 q1 z1 => by
    cases e1 : ρ1[i]? with
    | none => simp only [e1] at z1; exact z1.elim
    | some t =>
      cases t with
      | none => simp only [e1] at z1; exact z1.elim
      | some t =>
        cases t with
        | ow d => simp only [e1] at z1; exact z1.elim
        | eh c ns vs => simp only [e1] at z1; exact z1.elim
        | bd c ns vs =>
          simp only [e1] at z1
          split at z1
          · rename_i hk
            obtain ⟨v, hv', a, ⟨rfl, hself⟩, hm, Cc, dx, fs, h1, h2, h3, h4⟩ := R1.env i _ e1
            obtain ⟨t1, t2, t3⟩ := setOk_at hT hk h2
            refine ⟨.ref a, hv', a, Cc, dx, fs, rfl, h1, t1, t2, by rw [← h3, List.length_map] at t3; exact t3, ?_⟩
            have S0 : Stp (rc Φ X C1 os1 H1) (rc Φ X C1 os1 (upd H1 a (.ins Cc dx (putF f y fs)))) := stp_mut (o := .ins Cc dx (putF f y fs)) h1 (.inr (.inr ⟨_, hm⟩)) (R1.notB (.inl hm))
            obtain ⟨R2, S2⟩ := R1.mutO (o := .ins Cc dx (putF f y fs)) (t := .bd c (putD f d ns vs).1 (putD f d ns vs).2) hv' hm ⟨a, ⟨rfl, hself⟩, hm, bd_put S0 h2 h3 h4 q1 upd_same⟩
            exact z1 σ _ C1 os1 R2 S2
          · exact z1.elim
        | sh d0 =>
          cases d0 with
          | cell n =>
            simp only [e1] at z1
            cases e2 : μ1[n]? with
            | none => simp only [e2] at z1; exact z1.elim
            | some c0 =>
              cases c0 with
              | lst _ => simp only [e2] at z1; exact z1.elim
              | dct _ _ => simp only [e2] at z1; exact z1.elim
              | ins c ns vs =>
                simp only [e2] at z1
                split at z1
                · rename_i hk
                  obtain ⟨v, hv', q⟩ := R1.env i _ e1
                  cases q with
                  | @cell a _ hC =>
                    have hC : C1[n]? = some a := hC
                    obtain ⟨Cc, dx, fs, h1, h2, h3, h4⟩ := R1.sto.2 n a _ hC e2
                    obtain ⟨t1, t2, t3⟩ := setOk_at hT hk h2
                    refine ⟨.ref a, hv', a, Cc, dx, fs, rfl, h1, t1, t2, by rw [← h3, List.length_map] at t3; exact t3, ?_⟩
                    have S0 : Stp (rc Φ X C1 os1 H1) (rc Φ X C1 os1 (upd H1 a (.ins Cc dx (putF f y fs)))) := stp_mut (o := .ins Cc dx (putF f y fs)) h1 (.inr (.inl (List.mem_of_getElem? hC))) (R1.notB (i := 0) (.inr (List.mem_of_getElem? hC)))
                    obtain ⟨R2, S2⟩ := R1.mutC (o := .ins Cc dx (putF f y fs)) (c := .ins c (putD f d ns vs).1 (putD f d ns vs).2) hC (bd_put S0 h2 h3 h4 q1 upd_same)
                    exact z1 σ _ C1 os1 R2 S2
                · exact z1.elim
          | _ => simp only [e1] at z1; exact z1.elim⟩
end
end L2.DL

/-! DL28: an own __init__ as a function: from the arguments to the fields. -/
namespace L2.DL
open PySem PySem.Spec PyProof.Rows
inductive RI where
  | ok (ns : List Str) (vs : List D) (μ : Sto) | ex (c : Str) (ns : List Str) (vs : List D) (μ : Sto) | no
abbrev FnI := List D → Sto → RI
def PostI' (K : PySem.W.Frag) (mg : Str → Option Value) (A : Addr → Prop) (C : List Addr) (H : Hp) (a Cc : Addr) (r : RI) (Q : VK) (E : XK) : Prop := match r with
  | .ok ns es μ => ∀ dx fs H' C', COut K mg A [a] C H C' H' μ → H' a = some (.ins Cc dx fs) → fs.map (·.1) = ns → Reps (rO K mg A [a] C' H') (fs.map (·.2)) es → Q .non H'
  | .ex c ns es μ => ∀ Cx dy H' C', COut K mg A [] C H C' H' μ → mg c = some (.ref Cx) → EhR (rO K mg A [] C' H') dy c ns es → E (.ref Cx) (some dy) H'
  | .no => False
def spN (K : PySem.W.Frag) (mg : Str → Option Value) (c : Str) (G : FnI) : Sp := fun vs H Q E => ∃ (a Cc dx : Addr) (ws : List V) (ds : List D) (μ : Sto) (A : Addr → Prop) (C : List Addr) (H1 : Hp), vs = .ref a :: ws ∧ mg c = some (.ref Cc) ∧ H1 a = none ∧ H1 dx = none ∧ dx ≠ a ∧
  H = upd (upd H1 dx (.own a)) a (.ins Cc dx []) ∧ CIn K mg A C μ ws ds H1 ∧ PostI' K mg A C H1 a Cc (G ds μ) Q E
def runI (c : Str) (p n : Nat) (g : Mo Fl) : FnI := fun ds μ => if ds.length + 1 = p then (match g (some (Ent.bd c [] []) :: (ds.map (fun d => some (Ent.sh d)) ++ List.replicate (n - (ds.length + 1)) none)) μ with
  | .ok .nx ρ' μ' => (match (ρ'[0]? : Option (Option Ent)) with
    | some (some (.bd c' ns vs)) => if c' = c then .ok ns vs μ' else .no
    | _ => .no)
  | .ok _ _ _ => .no
  | .ex c ns vs _ μ' => .ex c ns vs μ'
  | .no => .no) else .no
section
variable {P : Program} {w : World} {K : PySem.W.Frag} {mg : Str → Option Value} {base : Heap}
theorem Rl.initI {Φ : Ctx} {N : List Str} {A : Addr → Prop} {C : List Addr} {μ : Sto} {ws : List V} {ds : List D} {H H1 : Hp} {a Cc dx : Addr} {c : Str} (i : CIn K mg A C μ ws ds H1) (hm : mg c = some (.ref Cc)) (na : H1 a = none) (nd : H1 dx = none) (ne : dx ≠ a)
    (eH : H = upd (upd H1 dx (.own a)) a (.ins Cc dx [])) (h1 : Φ.H0 = H) (h2 : Φ.A0 = A) (h3 : Φ.C0 = C) (h4 : Φ.M0 = fun b => b = a) (h5 : Φ.self = some a) :
    RlK Φ K mg (some (Ent.bd c [] []) :: (ds.map (fun d => some (Ent.sh d)) ++ List.replicate (N.length - (ds.length + 1)) none)) μ C [(some 0, a)] (start N (.ref a :: ws)) H := by
  have hl := i.arg.length
  have gr : Grow H1 H := by
    rw [eH]
    intro b o e
    rw [upd_ne (ne_of_none e na), upd_ne (ne_of_none e nd)]
    exact e
  have S : Stq ⟨K, mg, A, fun _ => False, C, H1⟩ (rcK Φ K mg C [(some 0, a)] H) := ⟨rfl, rfl, fun b z => by
    rcases z with z | z | ⟨j, z⟩
    · exact .inl (by rw [← h2]; exact z)
    · exact .inl (i.cA b z)
    · cases List.mem_singleton.mp z
      exact .inr na, ⟨[], by simp [rcK]⟩, fun b o e _ => gr b o e⟩
  have Ha : H a = some (.ins Cc dx []) := by rw [eH, upd_same]
  have nA : ¬ A a := fun z => by
    obtain ⟨o, e⟩ := i.alv a z
    rw [na] at e; cases e
  have nC : a ∉ C := fun z => nA (i.cA a z)
  subst h1 h2 h3
  refine ⟨?_, fun j t e => ?_, ⟨i.sto.1, fun n b c' e1 e2 => ?_⟩, fun x y b z1 z2 => ?_, fun x b z => ?_, ⟨[], by simp⟩, fun b z => .inl z, i.cnd, fun b z => ?_, fun b o z _ _ => z, fun b z => ?_⟩
  · unfold start
    simp [hl]
  · cases j with
    | zero =>
      rw [List.getElem?_cons_zero] at e
      cases e
      exact ⟨.ref a, by unfold start; simp, a, ⟨rfl, h5⟩, List.mem_singleton.mpr rfl, Cc, dx, [], Ha, hm, rfl, .nil⟩
    | succ j =>
      rw [List.getElem?_cons_succ] at e
      by_cases hj : j < ds.length
      · rw [List.getElem?_append_left (by simpa using hj), List.getElem?_map] at e
        obtain ⟨d, e1, e2⟩ := Option.map_eq_some_iff.mp e
        cases e2
        obtain ⟨v, hv, q⟩ := i.arg.get e1
        refine ⟨v, ?_, q.stq S⟩
        unfold start
        rw [List.getElem?_append_left (by simp [hl]; omega), List.getElem?_map, List.getElem?_cons_succ, hv] <;> rfl
      · rw [List.getElem?_append_right (by simpa using hj), List.getElem?_replicate] at e
        split at e <;> cases e
  · have q := i.sto.2 n b c' e1 e2
    cases c' with
    | lst ds => obtain ⟨vs, e, q⟩ := q; exact ⟨vs, gr _ _ e, q.stq S⟩
    | dct ks ds => obtain ⟨kvs, e, e2, q⟩ := q; exact ⟨kvs, gr _ _ e, e2, q.stq S⟩
    | ins c ns ds => obtain ⟨Cc', dx', fs, e, m, e2, q⟩ := q; exact ⟨Cc', dx', fs, gr _ _ e, m, e2, q.stq S⟩
  · cases List.mem_singleton.mp z1
    cases List.mem_singleton.mp z2
    rfl
  · cases List.mem_singleton.mp z
    exact ⟨.inr (by rw [h4]), nC, nA, _, Ha⟩
  · obtain ⟨o, e⟩ := i.alv b (i.cA b z)
    exact ⟨o, gr _ _ e⟩
  · rcases z with z | z
    · obtain ⟨o, e⟩ := i.alv b z
      exact ⟨o, gr _ _ e⟩
    · rw [h4] at z
      exact ⟨_, z ▸ Ha⟩
theorem Rl.outI {Φ : Ctx} {ρ : Env} {μ : Sto} {A : Addr → Prop} {C C' : List Addr} {os : Os} {σ : L2.St} {H H1 H' : Hp} {a dx Cc : Addr} (na : H1 a = none) (nd : H1 dx = none) (eH : H = upd (upd H1 dx (.own a)) a (.ins Cc dx [])) (h1 : Φ.H0 = H) (h2 : Φ.A0 = A) (h3 : Φ.C0 = C)
    (h4 : Φ.M0 = fun b => b = a) (R : RlK Φ K mg ρ μ C' os σ H') (zo : List Addr) (hz : ∀ b ∈ zo, b = a ∧ ∃ i, (i, b) ∈ os) : COut K mg A zo C H1 C' H' μ ∧ Stq (rcK Φ K mg C' os H') (rO K mg A zo C' H') := by
  have gr : Grow H1 H := by
    rw [eH]
    intro b o e
    rw [upd_ne (ne_of_none e na), upd_ne (ne_of_none e nd)]
    exact e
  subst h1 h2 h3
  have S : Stq (rcK Φ K mg C' os H') (rO K mg Φ.A0 zo C' H') := stq_A fun b z => by
    rcases z with z | z | z
    · exact .inl z
    · exact .inr (.inl z)
    · exact .inr (.inr (hz b z).2)
  have h0 : ∀ b, Φ.H0 b = none → H1 b = none := fun b e => by
    cases q : H1 b with
    | none => rfl
    | some o => rw [gr b o q] at e; cases e
  refine ⟨⟨R.pre, fun b z => (R.cfr b z).imp id (h0 b), R.cnd, R.clv, fun b o e n => R.frm b o (gr b o e) (fun hC => ?_) (by rw [h4]; exact ne_of_none e na), R.sto.stq S rfl rfl, fun b z => ?_⟩, S⟩
  · rcases R.cfr b hC with q | q
    · exact n q
    · rw [gr b o e] at q; cases q
  · obtain ⟨rfl, i, q⟩ := hz b z
    obtain ⟨_, f2, _, f4⟩ := R.fre i b q
    exact ⟨na, f2, f4⟩
/-- THE RULE for an own __init__ -/
theorem Fun.okN {qual c : Str} {st : Stmt} {f : Addr} {fd : FuncData} {N ps : List Str} {k : Nat} {g : Mo Fl} (F : Fun K "__init__" qual st f fd) (S : FnScope N ps (defScope st))
    (hb : ∀ (Φ : Ctx) (cdv : Value) (A : Around) (outer : List PySem.Env) (s : Shared) (H : Hp) (E : XK), Cn Φ (cxOf (L2.CX P w) P w K mg base N qual (defScope st) f cdv A outer s H E) k →
      DSs Φ (cxOf (L2.CX P w) P w K mg base N qual (defScope st) f cdv A outer s H E) (defBody st) g) : FnOk P w K mg base (L2.CX P w) (k + 1) f fd ps (spN K mg c (runI c ps.length N.length g)) := by
  refine Fun.okX F S (fun vs H Q E h => ?_) fun cdv A outer s H vs Q E hr h => ?_
  · obtain ⟨a, Cc, dx, ws, ds, μ, A, C, H1, rfl, _, _, _, _, _, i, z⟩ := h
    unfold runI at z
    split at z
    · rename_i hl
      rw [List.length_cons, i.arg.length, hl]
    · exact z.elim
  · obtain ⟨a, Cc, dx, ws, ds, μ, A', C, H1, rfl, hm, na, nd, ne, eH, i, z⟩ := h
    let Φ : Ctx := ⟨H, A', C, fun b => b = a, fun cls d _ H' => E cls d H', none, "", some a⟩
    have cn : Cn Φ (cxOf (L2.CX P w) P w K mg base N qual (defScope st) f cdv A outer s H E) k := ⟨S.nd, rfl, passes_of rfl, takes_of (X := cxOf (L2.CX P w) P w K mg base N qual (defScope st) f cdv A outer s H E) rfl rfl rfl rfl, hr⟩
    refine ⟨_, hb Φ cdv A outer s H E cn, _, μ, C, _, Rl.initI (N := N) i hm na nd ne eH rfl rfl rfl rfl rfl, ?_⟩
    unfold runI at z
    split at z
    · cases e : g (some (Ent.bd c [] []) :: (ds.map (fun d => some (Ent.sh d)) ++ List.replicate (N.length - (ds.length + 1)) none)) μ with
      | no => simp only [e] at z; exact z.elim
      | ex c' ns es ρ' μ' =>
        simp only [e] at z
        intro Cx dy σ' H' C' os' R _ hm' he
        obtain ⟨o, S'⟩ := Rl.outI na nd eH rfl rfl rfl rfl R [] (fun b z => by cases z)
        exact z Cx dy H' C' o hm' (he.stq S')
      | ok fl ρ' μ' =>
        simp only [e] at z
        intro σ' H' C' os' R _
        cases fl with
        | nx =>
          simp only at z
          cases e0 : (ρ'[0]? : Option (Option Ent)) with
          | none => rw [e0] at z; exact z.elim
          | some t =>
            cases t with
            | none => rw [e0] at z; exact z.elim
            | some t =>
              cases t with
              | sh _ => rw [e0] at z; exact z.elim
              | ow _ => rw [e0] at z; exact z.elim
              | eh _ _ _ => rw [e0] at z; exact z.elim
              | bd c' ns es =>
                rw [e0] at z
                simp only at z
                split at z
                · rename_i hc
                  subst hc
                  obtain ⟨v, _, a', ⟨_, hs⟩, hos, Cc', dx', fs, b1, b2, b3, b4⟩ := R.env 0 _ e0
                  cases (show some a = some a' from hs)
                  cases hm.symm.trans (show mg c' = some (.ref Cc') from b2)
                  obtain ⟨o, S'⟩ := Rl.outI na nd eH rfl rfl rfl rfl R [a] (fun b z => ⟨List.mem_singleton.mp z, some 0, List.mem_singleton.mp z ▸ hos⟩)
                  exact z dx' fs H' C' o b1 b3 (b4.stq S')
                · exact z.elim
        | bk => exact z.elim
        | ct => exact z.elim
        | rt _ => exact z.elim
        | ro _ => exact z.elim
    · exact z.elim
end
end L2.DL

/-! DL29: C(e, .., k = v, ..): a new instance. -/
namespace L2.DL
open PySem PySem.Spec PyProof.Rows
section
variable {X : Cx} {CX : CXT} {k n : Nat} {f C : Addr} {fd : FuncData} {ps ks : List Str} {sp : Sp} {E : L2.St → XK} {x : Str} {p pos : Pos} {es : List Expr} {kws : List Keyword} {t tk : TA} {g : List Value → List Value → List Value} {gV : List V → List V → List V}
def tNew (C : Addr) (n m : Nat) (sp : Sp) (gV : List V → List V → List V) (E : L2.St → XK) (t tk : TA) : TE := fun σ H Q => t σ H fun vs H1 => tk σ H1 fun zs H2 => vs.length = n ∧ zs.length = m ∧ ∀ a dx, H2 a = none → H2 dx = none → dx ≠ a →
  sp (gV (.ref a :: vs) zs) (upd (upd H2 dx (.own a)) a (.ins C dx [])) (fun v H3 => v = .non ∧ Q (.ref a) H3) (E σ)
theorem pe_new (M : Mk X.K C f) (F : FnOk X.prog X.w X.K X.mg X.base CX k f fd ps sp) (hr : Room (k + 1) X.A) (hg : Gl X x) (hm : X.mg x = some (.ref C)) (hb : KBn X.K fd ps (n + 1) ks g gV) (hx : ∀ σ, PassesAt CX X σ (E σ))
    (ha : PA X es t) (hkw : PK X kws tk) (hall : (backToKw pos (keywordEach kws X.env)).all (·.1.isSome) = true := by rfl) (hks : (backToKw pos (keywordEach kws X.env)).filterMap (·.1) = ks := by rfl)
    (hdb : (x == ("__debug__" : Str)) = false := by decide) (hpl : ((backTo pos (starEach es X.env)).any (·.1) || (backToKw pos (keywordEach kws X.env)).any (·.1.isNone)) = false := by rfl)
    (he : (es = [] ∧ n = 0) ∨ ∃ e r, es = e :: r ∧ starEach (e :: r) X.env = (false, eval e X.env) :: starEach r X.env := by first | exact .inl ⟨rfl, rfl⟩ | exact .inr ⟨_, _, rfl, rfl⟩) :
    PE X (.Call (.Name x p) es kws pos) (tNew C n ks.length sp gV E t tk) := by
  refine ⟨fun pins s σ H Q I h => wpAny_Call_Name_kw (ld_glob I hg hm ?_ hdb)⟩
  have go : ∀ {us ws : List Value} {vs zs : List V} {s2 : Shared} {H2 : Hp}, Inv X pins σ H2 s2 → Vals vs us → Vals zs ws → vs.length = n → zs.length = ks.length →
      (∀ a dx, H2 a = none → H2 dx = none → dx ≠ a → sp (gV (.ref a :: vs) zs) (upd (upd H2 dx (.own a)) a (.ins C dx [])) (fun v H3 => v = .non ∧ Q (.ref a) H3) (E σ)) →
      wpAny (model X.prog X.w) X.A (call (.ref C) us (ks.zip ws)) (EP X pins σ Q) X.xe s2 := by
    intro us ws vs zs s2 H2 I1 r rz l1 l2 q
    have hq := q (s2.heap.objs.size + 1) s2.heap.objs.size (I1.hok.fresh (Nat.le_succ _)) (I1.hok.fresh (Nat.le_refl _)) (Nat.ne_of_lt (Nat.lt_succ_self _))
    have I2 := Inv.made (C := C) I1
    have r1 : Vals (V.ref (s2.heap.objs.size + 1) :: vs) (Value.ref (s2.heap.objs.size + 1) :: us) := .cons rfl r
    have n1 : (Value.ref (s2.heap.objs.size + 1) :: us).length = n + 1 := by rw [List.length_cons, ← r.length, l1]
    have run := F.run (X.A.under (.builtin "type.__call__" ⟨.ref C :: us, ks.zip ws⟩)) X.stack _ _ ⟨Value.ref (s2.heap.objs.size + 1) :: us, ks.zip ws⟩ (g (Value.ref (s2.heap.objs.size + 1) :: us) ws) _ _ (E σ) (hr.make C us (ks.zip ws)) (I2.env0.make C us (ks.zip ws))
      (hb.to _ (Value.ref (s2.heap.objs.size + 1) :: us) ws I2.kIn n1 (rz.length.symm.trans l2)) (hb.rel r1 rz) hq
    refine wpAny_call (make_map (f := f) I1.kIn M.makes M.init (beq_iff_eq.mp M.fn) (codeAny_mono run fun o s' ho => ?_))
    cases o with
    | error e => exact hx σ pins _ _ e s' I2 ho
    | ok fl =>
      cases fl with
      | ret u =>
        obtain ⟨v, H', I3, rv, ev, q3⟩ := I2.after ho
        subst ev
        exact ⟨rv, V.ref (s2.heap.objs.size + 1), H', I3, rfl, q3⟩
      | next => exact ho.elim
      | brk => exact ho.elim
      | cont => exact ho.elim
  rcases he with ⟨rfl, hn0⟩ | ⟨e, r0, rfl, he⟩
  · refine PySem.W.callWith_KW0 (h₀ := X.base) I.ok.mod.kin M.kp hall ?_ hpl
    show wpAny (model X.prog X.w) X.A ((spliced (backTo pos (starEach [] X.env))) >>= fun _ => evalAll ((backToKw pos (keywordEach kws X.env)).map (·.2))) _ _ _
    refine wpAny_bind (thn (ha.run pos pins s σ H _ I h) fun us s1 ⟨vs, H1, I1, r, q⟩ => ?_)
    refine thn (hkw.run pos pins s1 σ H1 _ I1 q) fun ws s2 ⟨zs, H2, I2, rz, l1, l2, q2⟩ => ⟨I2.kIn, ?_⟩
    rw [hks]
    have lv : vs.length = 0 := l1.trans hn0
    cases vs with
    | cons _ _ => cases lv
    | nil =>
      cases r
      exact go I2 .nil rz l1 l2 q2
  · refine PySem.W.callWith_KW (h₀ := X.base) I.ok.mod.kin M.kp hall (thn (ha.run pos pins s σ H _ I h) fun us s1 ⟨vs, H1, I1, r, q⟩ => ?_) hpl he
    refine thn (hkw.run pos pins s1 σ H1 _ I1 q) fun ws s2 ⟨zs, H2, I2, rz, l1, l2, q2⟩ => ⟨I2.kIn, ?_⟩
    rw [hks]
    exact go I2 r rz l1 l2 q2
end
end L2.DL

/-! DL30: C(e, .., k = v, ..) read on trees. -/
namespace L2.DL
open PySem PySem.Spec PyProof.Rows
def newM (c : Str) (G : FnI) (fa : Mo (List D)) : Mo D := bnd fa fun ds ρ μ => match G ds μ with
  | .ok ns vs μ' => .ok (.ins c ns vs) ρ μ'
  | .ex c ns vs μ' => .ex c ns vs ρ μ'
  | .no => .no
/-- n arguments by place, m by name, the defaults dds; the parameters get the items at ix -/
def kwD (n m : Nat) (ix : List Nat) (dds : List D) (fa fk : Mo (List D)) : Mo (List D) := bnd fa fun ds => bnd fk fun es => if ds.length = n ∧ es.length = m then ret (pick ix (ds ++ (es ++ dds))) else no
/-- the module's class c: its own __init__ as G -/
structure Cln (P : Program) (w : World) (K : PySem.W.Frag) (mg : Str → Option Value) (base : Heap) (c : Str) (k : Nat) (G : FnI) (n : Nat) (ks : List Str) (ix : List Nat) (dds : List D) : Prop where
  ex : ∃ (C f : Addr) (fd : FuncData) (ps : List Str) (dvs : List V) (g : List Value → List Value → List Value), mg c = some (.ref C) ∧ Mk K C f ∧ FnOk P w K mg base (L2.CX P w) k f fd ps (spN K mg c G) ∧
    KBn K fd ps (n + 1) ks g (fun vs zs => vs.take 1 ++ pick ix (vs.drop 1 ++ (zs ++ dvs))) ∧ ∀ r : RC, Reps r dvs dds
section
variable {Φ : Ctx} {X : Cx} {c : Str} {G : FnI}
theorem new_at {Cc : Addr} {ρ : Env} {μ : Sto} {C : List Addr} {os : Os} {σ : L2.St} {H : Hp} {vs : List V} {ds : List D} {Q : VK} (hm : X.mg c = some (.ref Cc)) (R : Rl Φ X ρ μ C os σ H) (q : Reps (rc Φ X C os H) vs ds)
    (z : PostE Φ X C os σ H ((fun ρ μ => match G ds μ with
      | .ok ns vs μ' => .ok (.ins c ns vs) ρ μ'
      | .ex c ns vs μ' => .ex c ns vs ρ μ'
      | .no => .no : Mo D) ρ μ) Q) {a dx : Addr} (na : H a = none) (nd : H dx = none) (ne : dx ≠ a) :
    spN X.K X.mg c G (.ref a :: vs) (upd (upd H dx (.own a)) a (.ins Cc dx [])) (fun v H3 => v = .non ∧ Q (.ref a) H3) (WE Φ.W σ) := by
  have i := CIn.of R q
  refine ⟨a, Cc, dx, vs, ds, μ, AA Φ C os, C, H, rfl, hm, na, nd, ne, rfl, i, ?_⟩
  cases e : G ds μ with
  | no => simp only [e] at z; exact z.elim
  | ex c' ns es μ' =>
    simp only [e] at z
    intro Cx dy H' C' o hm' he
    obtain ⟨R', S', S2⟩ := R.called (i := 0) o
    exact z Cx dy H' C' _ R' S' hm' (he.stq S2)
  | ok ns es μ' =>
    simp only [e] at z
    intro dx' fs H' C' o h1 h2 h3
    obtain ⟨o2, S3, nA⟩ := o.let i.alv
    obtain ⟨R', S', S2⟩ := R.called (i := 0) o2
    refine ⟨rfl, z _ H' C' _ R' S' (Rep.stq S2 (.ins h1 nA hm h2 (h3.stq S3)))⟩
variable {x : Str} {p pos : Pos} {es : List Expr} {kws : List Keyword} {fa fk : Mo (List D)}
theorem de_new1 {k j n : Nat} {ks : List Str} {ix : List Nat} {dds : List D} (F : Cln X.prog X.w X.K X.mg X.base x k G n ks ix dds) (cc : Cc Φ X j) (ha : DA Φ X es fa) (hw : DK Φ X kws fk) (hg : Gl X x := by rfl) (hj : k + 1 ≤ j := by decide)
    (hall : (backToKw pos (keywordEach kws X.env)).all (·.1.isSome) = true := by rfl) (hks : (backToKw pos (keywordEach kws X.env)).filterMap (·.1) = ks := by rfl)
    (hdb : (x == ("__debug__" : Str)) = false := by decide) (hpl : ((backTo pos (starEach es X.env)).any (·.1) || (backToKw pos (keywordEach kws X.env)).any (·.1.isNone)) = false := by rfl)
    (he : (es = [] ∧ n = 0) ∨ ∃ e r, es = e :: r ∧ starEach (e :: r) X.env = (false, eval e X.env) :: starEach r X.env := by first | exact .inl ⟨rfl, rfl⟩ | exact .inr ⟨_, _, rfl, rfl⟩) :
    DE Φ X (.Call (.Name x p) es kws pos) (newM x G (kwD n ks.length ix dds fa fk)) := by
  obtain ⟨C, f, fd, ps, dvs, g, hm, M, F, hb, hd⟩ := F.ex
  refine PE.imp (pe_new M F (cc.rm.mono hj) hg hm hb (fun σ => passAt cc.tk σ) ha hw hall hks hdb hpl he) fun σ H Q ⟨ρ, μ, C0, os, R, z⟩ => ⟨ρ, μ, C0, os, R, ?_⟩
  unfold newM kwD bnd at z
  cases e1 : fa ρ μ with
  | no => simp only [e1] at z; exact z
  | ex c ns ds ρ1 μ1 => simp only [e1] at z; exact z
  | ok ds ρ1 μ1 =>
    simp only [e1] at z
    intro vs H1 C1 os1 R1 S1 q1
    refine ⟨ρ1, μ1, C1, os1, R1, ?_⟩
    have z := PostE.from S1 z
    cases e2 : fk ρ1 μ1 with
    | no => simp only [e2] at z; exact z
    | ex c ns ds ρ2 μ2 => simp only [e2] at z; exact z
    | ok es' ρ2 μ2 =>
      simp only [e2] at z
      intro zs H2 C2 os2 R2 S2 q2
      have z := PostE.from S2 z
      by_cases hl : ds.length = n ∧ es'.length = ks.length
      · rw [if_pos hl] at z
        have q3 := pick_reps ((q1.step S2).append (q2.append (hd _))) ix
        exact ⟨by rw [q1.length]; exact hl.1, by rw [q2.length]; exact hl.2, fun a dx na nd ne => new_at hm R2 q3 z na nd ne⟩
      · rw [if_neg hl] at z
        exact z.elim
end
end L2.DL

/-! DL31: methods of own instances; repr, len, str of them. -/
namespace L2.DL
open PySem PySem.Spec PyProof.Rows
section
variable {X : Cx} {CX : CXT} {k n : Nat} {f C : Addr} {fd : FuncData} {ps ks : List Str} {sp : Sp} {E : L2.St → XK} {x m : Str} {p pos apos : Pos} {o : Expr} {es : List Expr} {kws : List Keyword} {ta : TE} {t tk : TA} {g : List Value → List Value → List Value} {gV : List V → List V → List V}
/-- o.m(e, .., k = v, ..) of an instance of the class at C -/
def tMth (C : Addr) (m : Str) (n l : Nat) (sp : Sp) (gV : List V → List V → List V) (E : L2.St → XK) (ta : TE) (t tk : TA) : TE := fun σ H Q => ta σ H fun x H1 => ∃ a dx fs, x = .ref a ∧ H1 a = some (.ins C dx fs) ∧ fs.lookup m = none ∧
  t σ H1 fun vs H2 => tk σ H2 fun zs H3 => vs.length = n ∧ zs.length = l ∧ sp (gV (x :: vs) zs) H3 Q (E σ)
theorem run_fnK {A : Around} {pins : List (Addr × Obj)} {σ : L2.St} {H : Hp} {s : Shared} {Q : VK} {us ws : List Value} {vs zs : List V} (F : FnOk X.prog X.w X.K X.mg X.base CX k f fd ps sp) (hr : Room k A) (hA : A.frames = X.A.frames) (hb : KBn X.K fd ps n ks g gV) (hx : PassesAt CX X σ (E σ))
    (I : Inv X pins σ H s) (r : Vals vs us) (rz : Vals zs ws) (l1 : vs.length = n) (l2 : zs.length = ks.length) (h : sp (gV vs zs) H Q (E σ)) : wpAny (model X.prog X.w) A (call (.ref f) us (ks.zip ws)) (EP X pins σ Q) X.xe s := by
  have r2 := hb.rel r rz
  have e0 : Env0 X.prog X.w X.K X.mg X.base A X.stack s H := by
    have e := I.env0
    exact ⟨by rw [hA]; exact e.frames, e.mod, e.bs, e.bsz, e.funs, e.frf, e.hok, e.bare⟩
  refine wpAny_call (codeAny_mono (F.run A X.stack s H ⟨us, ks.zip ws⟩ (g us ws) (gV vs zs) Q (E σ) hr e0 (hb.to s us ws I.kIn (r.length.symm.trans l1) (rz.length.symm.trans l2)) r2 h) fun r s' hq => ?_)
  cases r with
  | error e => exact hx pins H s e s' I hq
  | ok fl =>
    cases fl with
    | ret u => exact I.after hq
    | next => exact False.elim hq
    | brk => exact False.elim hq
    | cont => exact False.elim hq
theorem pe_mth {pl : Sem Bool} (ho : PE X o ta) (c : Cls X.K C) (hm : Meth X.K C m f) (F : FnOk X.prog X.w X.K X.mg X.base CX k f fd ps sp) (hr : Room k X.A) (hb : KBn X.K fd ps (n + 1) ks g gV) (hx : ∀ σ, PassesAt CX X σ (E σ))
    (ha : PA X es t) (hkw : PK X kws tk) (hall : (backToKw pos (keywordEach kws X.env)).all (·.1.isSome) = true := by rfl) (hks : (backToKw pos (keywordEach kws X.env)).filterMap (·.1) = ks := by rfl)
    (hpl : ((backTo pos (starEach es X.env)).any (·.1) || (backToKw pos (keywordEach kws X.env)).any (·.1.isNone)) = false := by rfl)
    (he : (es = [] ∧ n = 0) ∨ ∃ e r, es = e :: r ∧ starEach (e :: r) X.env = (false, eval e X.env) :: starEach r X.env := by first | exact .inl ⟨rfl, rfl⟩ | exact .inr ⟨_, _, rfl, rfl⟩)
    (ht : eval (.Call (.Attribute o m apos) es kws pos) X.env = (do
      let ov ← eval o X.env
      standAt apos.atName
      let (f, first) ← holding [ov] (getMethod ov m pl)
      callWith pos f first (backTo pos (starEach es X.env)) (backToKw pos (keywordEach kws X.env))) := by rfl) :
    PE X (.Call (.Attribute o m apos) es kws pos) (tMth C m n ks.length sp gV E ta t tk) := by
  refine ⟨fun pins s σ H Q I h => ?_⟩
  refine PySem.W.methodCall_KW (pl := pl) (thn (ho.run pins s σ H _ I h) fun u s1 ⟨x, H1, I1, rx, a, dx, fs, ex, ea, l, q⟩ => ?_) ht
  subst ex
  obtain rfl : u = Value.ref a := rx
  refine getmeth_ok I1 ea c hm l ?_
  rcases he with ⟨rfl, hn0⟩ | ⟨e, r0, rfl, he⟩
  · refine PySem.W.callWith_KW0 (first := [.ref a]) (h₀ := X.base) I.ok.mod.kin hm.kp hall ?_ hpl
    show wpAny (model X.prog X.w) X.A ((spliced (backTo pos (starEach [] X.env))) >>= fun _ => evalAll ((backToKw pos (keywordEach kws X.env)).map (·.2))) _ _ _
    refine wpAny_bind (thn (ha.run pos pins s1 σ H1 _ I1 q) fun us s2 ⟨vs, H2, I2, r, q2⟩ => ?_)
    refine thn (hkw.run pos pins s2 σ H2 _ I2 q2) fun ws s3 ⟨zs, H3, I3, rz, l1, l2, q3⟩ => ⟨I3.kIn, ?_⟩
    rw [hks]
    have lv : vs.length = 0 := l1.trans hn0
    cases vs with
    | cons _ _ => cases lv
    | nil =>
      cases r
      exact run_fnK (us := [.ref a]) (vs := [.ref a]) F hr rfl hb (hx σ) I3 (.cons rfl .nil) rz (by rw [hn0]; rfl) l2 q3
  · refine PySem.W.callWith_KW (first := [.ref a]) (h₀ := X.base) I.ok.mod.kin hm.kp hall (thn (ha.run pos pins s1 σ H1 _ I1 q) fun us s2 ⟨vs, H2, I2, r, q2⟩ => ?_) hpl he
    refine thn (hkw.run pos pins s2 σ H2 _ I2 q2) fun ws s3 ⟨zs, H3, I3, rz, l1, l2, q3⟩ => ⟨I3.kIn, ?_⟩
    rw [hks]
    exact run_fnK (us := .ref a :: us) (vs := .ref a :: vs) F hr rfl hb (hx σ) I3 (.cons rfl r) rz (by rw [List.length_cons, l1]) l2 q3
end
/-- the module's class c: its method m as G (the instance first) -/
structure Mtd (P : Program) (w : World) (K : PySem.W.Frag) (mg : Str → Option Value) (base : Heap) (c m : Str) (k : Nat) (G : Fn) (n : Nat) (ks : List Str) (ix : List Nat) (dds : List D) : Prop where
  ex : ∃ (C f : Addr) (fd : FuncData) (ps : List Str) (dvs : List V) (g : List Value → List Value → List Value), mg c = some (.ref C) ∧ Cls K C ∧ Meth K C m f ∧ FnOk P w K mg base (L2.CX P w) k f fd ps (spD K mg G) ∧
    KBn K fd ps (n + 1) ks g (fun vs zs => vs.take 1 ++ pick ix (vs.drop 1 ++ (zs ++ dvs))) ∧ ∀ r : RC, Reps r dvs dds
/-- what the instance d has at its call of m: the class c, no field of the name m -/
def mthM (c m : Str) (G : Fn) (f : Mo D) (fa : Mo (List D)) : Mo D := bnd f fun d ρ μ => match insOf d μ with
  | some (c', ns, _) => if c' = c ∧ m ∉ ns then calM G (bnd fa fun ds => ret (d :: ds)) ρ μ else .no
  | none => .no
section
variable {Φ : Ctx} {X : Cx} {c m : Str} {G : Fn} {o : Expr} {es : List Expr} {kws : List Keyword} {f : Mo D} {fa fk : Mo (List D)} {pos apos p : Pos}
theorem look_none {m : Str} : ∀ {fs : List (Str × V)}, m ∉ fs.map (·.1) → fs.lookup m = none
  | [], _ => rfl
  | (n, v) :: fs, h => by
    rw [List.map_cons, List.mem_cons, not_or] at h
    rw [List.lookup_cons]
    have e : (m == n) = false := by simpa using h.1
    rw [e]
    exact look_none h.2
theorem de_mtd {pl : Sem Bool} {k j n : Nat} {ks : List Str} {ix : List Nat} {dds : List D} (M : Mtd X.prog X.w X.K X.mg X.base c m k G n ks ix dds) (cc : Cc Φ X j) (ho : DE Φ X o f) (ha : DA Φ X es fa) (hw : DK Φ X kws fk) (hj : k ≤ j := by decide)
    (hall : (backToKw pos (keywordEach kws X.env)).all (·.1.isSome) = true := by rfl) (hks : (backToKw pos (keywordEach kws X.env)).filterMap (·.1) = ks := by rfl)
    (hpl : ((backTo pos (starEach es X.env)).any (·.1) || (backToKw pos (keywordEach kws X.env)).any (·.1.isNone)) = false := by rfl)
    (he : (es = [] ∧ n = 0) ∨ ∃ e r, es = e :: r ∧ starEach (e :: r) X.env = (false, eval e X.env) :: starEach r X.env := by first | exact .inl ⟨rfl, rfl⟩ | exact .inr ⟨_, _, rfl, rfl⟩)
    (ht : eval (.Call (.Attribute o m apos) es kws pos) X.env = (do
      let ov ← eval o X.env
      standAt apos.atName
      let (f, first) ← holding [ov] (getMethod ov m pl)
      callWith pos f first (backTo pos (starEach es X.env)) (backToKw pos (keywordEach kws X.env))) := by rfl) :
    DE Φ X (.Call (.Attribute o m apos) es kws pos) (mthM c m G f (kwD n ks.length ix dds fa fk)) := by
  obtain ⟨C, f', fd, ps, dvs, g, hm, cl, mt, F, hb, hd⟩ := M.ex
  refine PE.imp (pe_mth ho cl mt F (cc.rm.mono hj) hb (fun σ => passAt cc.tk σ) ha hw hall hks hpl he ht) fun σ H Q ⟨ρ, μ, C0, os, R, z⟩ => ⟨ρ, μ, C0, os, R, PostE.bnd z fun d ρ1 μ1 v H1 C1 os1 R1 S1 q1 z1 => ?_⟩
  cases e0 : insOf d μ1 with
  | none => simp only [e0] at z1; exact z1.elim
  | some r =>
    obtain ⟨c', ns, vs⟩ := r
    simp only [e0] at z1
    split at z1
    · rename_i hc
      obtain ⟨hc, hn⟩ := hc
      subst hc
      obtain ⟨a, rfl, b⟩ := ins_at R1 q1 e0
      obtain ⟨Cc, dx, fs, h1, h2, h3, h4⟩ := b
      cases hm.symm.trans h2
      refine ⟨a, dx, fs, rfl, h1, look_none (by rw [h3]; exact hn), ρ1, μ1, C1, os1, R1, ?_⟩
      unfold calM kwD bnd at z1
      cases e1 : fa ρ1 μ1 with
      | no => simp only [e1] at z1; exact z1
      | ex c ns ds ρ2 μ2 => simp only [e1] at z1; exact z1
      | ok ds ρ2 μ2 =>
        simp only [e1] at z1
        intro ws H2 C2 os2 R2 S2 q2
        refine ⟨ρ2, μ2, C2, os2, R2, ?_⟩
        have z1 := PostE.from S2 z1
        cases e2 : fk ρ2 μ2 with
        | no => simp only [e2] at z1; exact z1
        | ex c ns ds ρ3 μ3 => simp only [e2] at z1; exact z1
        | ok es' ρ3 μ3 =>
          simp only [e2] at z1
          intro zs H3 C3 os3 R3 S3 q3
          have z1 := PostE.from S3 z1
          by_cases hl : ds.length = n ∧ es'.length = ks.length
          · rw [if_pos hl] at z1
            have q4 := pick_reps ((q2.step S3).append (q3.append (hd _))) ix
            refine ⟨by rw [q2.length]; exact hl.1, by rw [q3.length]; exact hl.2, ?_⟩
            exact call_at (G := G) (ds := d :: pick ix (ds ++ (es' ++ dds))) R3 (.cons ((q1.step S2).step S3) q4) z1
          · rw [if_neg hl] at z1
            exact z1.elim
    · exact z1.elim

/-! ### an own special method behind a built-in -/
/-- the module's class c: its special method m, of the instance alone, as G -/
structure Spc (P : Program) (w : World) (K : PySem.W.Frag) (mg : Str → Option Value) (base : Heap) (c m : Str) (k : Nat) (G : Fn) : Prop where
  ex : ∃ (C f : Addr) (fd : FuncData) (ps : List Str), mg c = some (.ref C) ∧ PySem.W.findIn K (.ref C) m = some (some (.ref f)) ∧ PySem.W.isFn K (.ref f) = true ∧ FnOk P w K mg base (L2.CX P w) k f fd ps (spD K mg G) ∧ Binds K fd ps []
theorem run_spc {A : Around} {CX : CXT} {k : Nat} {f : Addr} {fd : FuncData} {ps : List Str} {sp : Sp} {E : L2.St → XK} {pins : List (Addr × Obj)} {σ : L2.St} {H : Hp} {s : Shared} {Q : VK} {us : List Value} {vs : List V} (F : FnOk X.prog X.w X.K X.mg X.base CX k f fd ps sp) (hr : Room k A) (hA : A.frames = X.A.frames)
    (hb : Binds X.K fd ps []) (hx : PassesAt CX X σ (E σ)) (I : Inv X pins σ H s) (r : Vals vs us) (h : sp vs H Q (E σ)) : wpAny (model X.prog X.w) A (call (.ref f) us) (EP X pins σ Q) X.xe s := by
  have e0 : Env0 X.prog X.w X.K X.mg X.base A X.stack s H := by
    have e := I.env0
    exact ⟨by rw [hA]; exact e.frames, e.mod, e.bs, e.bsz, e.funs, e.frf, e.hok, e.bare⟩
  have hl : us.length = ps.length := by rw [← r.length]; exact F.len _ _ _ _ h
  have b := hb s us I.kIn (by rw [List.append_nil]; exact hl)
  rw [List.append_nil] at b
  refine wpAny_call (codeAny_mono (F.run A X.stack s H ⟨us, []⟩ us vs Q (E σ) hr e0 b r h) fun r s' hq => ?_)
  cases r with
  | error e => exact hx pins H s e s' I hq
  | ok fl =>
    cases fl with
    | ret u => exact I.after hq
    | next => exact False.elim hq
    | brk => exact False.elim hq
    | cont => exact False.elim hq
/-- what an own __repr__, __str__ must answer -/
def strR (r : R) (ρ : Env) : O D := match r with
  | .ok (.str s) μ => .ok (.str s) ρ μ
  | .ex c ns vs μ => .ex c ns vs ρ μ
  | _ => .no
theorem spc_str {G : Fn} {ρ : Env} {μ : Sto} {C : List Addr} {os : Os} {σ : L2.St} {H : Hp} {v : V} {d : D} {Q : VK} (R : Rl Φ X ρ μ C os σ H) (q : Rep (rc Φ X C os H) v d) (z : PostE Φ X C os σ H (strR (G [d] μ) ρ) Q) :
    spD X.K X.mg G [v] H (fun v H' => (∃ s, v = .str s) ∧ Q v H') (WE Φ.W σ) := by
  have i := CIn.of R (.one q)
  refine ⟨[d], μ, AA Φ C os, C, i, ?_⟩
  cases e : G [d] μ with
  | no => rw [e] at z; exact z
  | ow d μ' => rw [e] at z; exact z.elim
  | ex c ns es μ' =>
    rw [e] at z
    intro Cc dx H' C' o hm he
    obtain ⟨R', S', S2⟩ := R.called (i := 0) o
    exact z Cc dx H' C' _ R' S' hm (he.stq S2)
  | ok d μ' =>
    rw [e] at z
    cases d with
    | str s =>
      intro v H' C' o q'
      obtain ⟨R', S', S2⟩ := R.called (i := 0) o
      cases q'
      exact ⟨⟨s, rfl⟩, z _ H' C' _ R' S' (.str s)⟩
    | _ => exact z.elim
theorem insOf_repW {ρ : Env} {μ : Sto} {C : List Addr} {os : Os} {σ : L2.St} {H : Hp} {v : V} {d : D} {c : Str} {ns : List Str} {vs : List D} (R : Rl Φ X ρ μ C os σ H) (q : RepW (rc Φ X C os H) v d) (e : insOf d μ = some (c, ns, vs)) : Rep (rc Φ X C os H) v d := by
  rcases q with q | ⟨a, _, q⟩
  · exact q
  · cases d <;> first | exact q.elim | cases e
/-- a call whose promise knows the caller's slots -/
def CallS (X : Cx) (f : Value) (r : L2.St → List V → Hp → VK → Prop) : Prop :=
  ∀ (pins : List (Addr × Obj)) (s : Shared) (σ : L2.St) (H : Hp) (xs : List V) (us : List Value) (Q : VK), Inv X pins σ H s → Vals xs us → r σ xs H Q → wpAny (model X.prog X.w) X.A (call f us) (EP X pins σ Q) X.xe s
def tCS (r : L2.St → List V → Hp → VK → Prop) (t : TA) : TE := fun σ H Q => t σ H fun xs H1 => r σ xs H1 Q
theorem pe_callBS {es : List Expr} {e : Expr} {x : Str} {id : String} {t : TA} {r : L2.St → List V → Hp → VK → Prop} (hc : CallS X (.builtin id) r) (hg : Gl X x) (hm : X.mg x = none) (hv : bootBuiltins x = some (.builtin id)) (ha : PA X (e :: es) t) (hn : x ≠ "__name__" := by decide) (hdb : (x == ("__debug__" : Str)) = false := by decide)
    (he : starEach (e :: es) X.env = (false, eval e X.env) :: starEach es X.env := by rfl) (hpl : (backTo pos (starEach es X.env)).any (·.1) = false := by rfl) : PE X (.Call (.Name x p) (e :: es) [] pos) (tCS r t) := by
  refine ⟨fun pins s σ H Q I h => ?_⟩
  refine wpAny_Call_Name_kw (ld_blt I hg hm hv ?_ hn hdb)
  exact PyProof.Rows.callWith_builtin1 (thn (ha.run pos pins s σ H _ I h) fun us s1 ⟨vs, H1, I1, r1, q1⟩ => hc pins s1 σ H1 vs us Q I1 r1 q1) he hpl
/-- classes with an own special method m of the instance alone -/
abbrev ST := List (Str × Fn)
def SpcT (P : Program) (w : World) (K : PySem.W.Frag) (mg : Str → Option Value) (base : Heap) (m : Str) (k : Nat) (T : ST) : Prop := ∀ c G, T.lookup c = some G → Spc P w K mg base c m k G
theorem spcT_nil {P : Program} {w : World} {K : PySem.W.Frag} {mg : Str → Option Value} {base : Heap} {m : Str} {k : Nat} : SpcT P w K mg base m k [] := fun _ _ e => by cases e
theorem spcT_cons {P : Program} {w : World} {K : PySem.W.Frag} {mg : Str → Option Value} {base : Heap} {m c : Str} {k : Nat} {G : Fn} {T : ST} (h : Spc P w K mg base c m k G) (t : SpcT P w K mg base m k T) : SpcT P w K mg base m k ((c, G) :: T) := fun c' G' e => by
  rw [List.lookup_cons] at e
  split at e
  · rename_i q
    cases e
    have : c' = c := by simpa using q
    exact this ▸ h
  · exact t c' G' e
/-- an own special method's promise, its answer seen through A -/
def rOwn (X : Cx) (W : WX) (T : ST) (A : V → Prop) : L2.St → List V → Hp → VK → Prop := fun σ xs H Q => ∃ (c : Str) (G : Fn) (C a dx : Addr) (fs : List (Str × V)), T.lookup c = some G ∧ X.mg c = some (.ref C) ∧ xs = [.ref a] ∧ H a = some (.ins C dx fs) ∧
  spD X.K X.mg G [.ref a] H (fun v H' => A v ∧ Q v H') (WE W σ)
theorem own_repr {k j : Nat} {T : ST} (S : SpcT X.prog X.w X.K X.mg X.base "__repr__" k T) (cc : Cc Φ X j) (hj : k + 1 ≤ j) : CallS X (.builtin "repr") (rOwn X Φ.W T fun v => ∃ s, v = .str s) := by
  rintro pins s σ H xs us Q I r ⟨c, G, C, a, dx, fs, e, hm, rfl, ha, hsp⟩
  obtain ⟨C', f', fd, ps, hmc, hs, hf, F, hb⟩ := (S c G e).ex
  cases hm.symm.trans hmc
  have hr := cc.rm.mono hj
  obtain ⟨u, rfl, rx⟩ := vals1 r
  obtain rfl : u = Value.ref a := rx
  obtain ⟨mA, J, _⟩ := ins_get I.hok ha
  obtain ⟨od, J, _⟩ := J.look
  obtain ⟨m, hF⟩ := I.fr
  refine PySem.W.repr_K hr.in1.units0 hF I.ok.mod.kin J hs hf ?_
  refine wpAny_mono (run_spc (A := X.A.in1) (vs := [V.ref a]) (us := [Value.ref a]) F hr.in1 rfl hb (E := WE Φ.W) (passAt cc.tk σ) I (.cons rfl .nil) hsp) (fun v s' q => ?_) fun _ _ y => y
  obtain ⟨y, H', I', ry, ⟨sy, rfl⟩, q2⟩ := q
  obtain ⟨tk, rfl⟩ := ry
  exact ⟨.str sy, H', I', ⟨_, rfl⟩, q2⟩
theorem own_len {k j : Nat} {T : ST} (S : SpcT X.prog X.w X.K X.mg X.base "__len__" k T) (cc : Cc Φ X j) (hj : k + 1 ≤ j) : CallS X (.builtin "len") (rOwn X Φ.W T fun v => ∃ i : Int, v = .int i ∧ 0 ≤ i ∧ i < 2 ^ 63) := by
  rintro pins s σ H xs us Q I r ⟨c, G, C, a, dx, fs, e, hm, rfl, ha, hsp⟩
  obtain ⟨C', f', fd, ps, hmc, hs, hf, F, hb⟩ := (S c G e).ex
  cases hm.symm.trans hmc
  have hr := cc.rm.mono hj
  obtain ⟨u, rfl, rx⟩ := vals1 r
  obtain rfl : u = Value.ref a := rx
  obtain ⟨mA, J, _⟩ := ins_get I.hok ha
  obtain ⟨od, J, _⟩ := J.look
  obtain ⟨m, hF⟩ := I.fr
  refine PySem.W.len_K hF I.ok.mod.kin J hs hf ?_
  refine wpAny_mono (run_spc (A := X.A.in1) (vs := [V.ref a]) (us := [Value.ref a]) F hr.in1 rfl hb (E := WE Φ.W) (passAt cc.tk σ) I (.cons rfl .nil) hsp) (fun v s' q => ?_) fun _ _ y => y
  obtain ⟨y, H', I', ry, ⟨i, rfl, h0, h1⟩, q2⟩ := q
  obtain ⟨tk, rfl⟩ := ry
  exact ⟨⟨h0, h1⟩, .int i, H', I'.tok _, ⟨_, rfl⟩, q2⟩
/-- what an own __len__ must answer -/
def lenR (r : R) (ρ : Env) : O D := match r with
  | .ok (.int i) μ => if 0 ≤ i ∧ i < 9223372036854775808 then .ok (.int i) ρ μ else .no
  | .ex c ns vs μ => .ex c ns vs ρ μ
  | _ => .no
theorem spc_len {G : Fn} {ρ : Env} {μ : Sto} {C : List Addr} {os : Os} {σ : L2.St} {H : Hp} {v : V} {d : D} {Q : VK} (R : Rl Φ X ρ μ C os σ H) (q : Rep (rc Φ X C os H) v d) (z : PostE Φ X C os σ H (lenR (G [d] μ) ρ) Q) :
    spD X.K X.mg G [v] H (fun v H' => (∃ i : Int, v = .int i ∧ 0 ≤ i ∧ i < 2 ^ 63) ∧ Q v H') (WE Φ.W σ) := by
  have i := CIn.of R (.one q)
  refine ⟨[d], μ, AA Φ C os, C, i, ?_⟩
  cases e : G [d] μ with
  | no => rw [e] at z; exact z
  | ow d μ' => rw [e] at z; exact z.elim
  | ex c ns es μ' =>
    rw [e] at z
    intro Cc dx H' C' o hm he
    obtain ⟨R', S', S2⟩ := R.called (i := 0) o
    exact z Cc dx H' C' _ R' S' hm (he.stq S2)
  | ok d μ' =>
    rw [e] at z
    cases d with
    | int n =>
      simp only [lenR] at z
      split at z
      · rename_i hn
        intro v H' C' o q'
        obtain ⟨R', S', S2⟩ := R.called (i := 0) o
        cases q'
        exact ⟨⟨n, rfl, hn.1, by have := hn.2; omega⟩, z _ H' C' _ R' S' (.int n)⟩
      · exact z.elim
    | _ => exact z.elim
/-- a built-in of one value: of an instance by its own method, of data by h -/
def ownM (T : ST) (out : R → Env → O D) (h : D → Option D) (f : Mo D) : Mo D := bnd f fun d ρ μ => match insOf d μ with
  | some (c, _, _) => (match T.lookup c with
    | some G => out (G [d] μ) ρ
    | none => .no)
  | none => lift (h d) ρ μ
theorem CallS.or {f : Value} {r : L2.St → List V → Hp → VK → Prop} {r' : List V → Hp → VK → Prop} (h : CallS X f r) (h' : CallR X f r') : CallS X f (fun σ xs H Q => r σ xs H Q ∨ r' xs H Q) := fun pins s σ H xs us Q I rv z => by
  rcases z with z | z
  · exact h pins s σ H xs us Q I rv z
  · exact h' pins s σ H xs us Q I rv z
theorem run_own {T : ST} {out : R → Env → O D} {A : V → Prop} {r : List V → Hp → VK → Prop} {h : D → Option D} (hD : Cal1 X r h)
    (hO : ∀ {G : Fn} {ρ : Env} {μ : Sto} {C : List Addr} {os : Os} {σ : L2.St} {H : Hp} {v : V} {d : D} {Q : VK}, Rl Φ X ρ μ C os σ H → Rep (rc Φ X C os H) v d → PostE Φ X C os σ H (out (G [d] μ) ρ) Q → spD X.K X.mg G [v] H (fun v H' => A v ∧ Q v H') (WE Φ.W σ))
    {σ : L2.St} {H : Hp} {Q : VK} (z : cE Φ X (ownM T out h f) σ H Q) : tCS (fun σ xs H Q => rOwn X Φ.W T A σ xs H Q ∨ r xs H Q) (tCons (cB Φ X f) tNil) σ H Q := by
  obtain ⟨ρ, μ, C, os, R, z⟩ := z
  refine ⟨ρ, μ, C, os, R, cB_bnd z fun d ρ1 μ1 v H1 C1 os1 R1 S1 q1 z1 => ?_⟩
  show _ ∨ _
  cases e0 : insOf d μ1 with
  | none =>
    simp only [e0] at z1
    obtain ⟨d', e, k⟩ := lift_ok R1 z1
    exact .inr (hD (rc Φ X C1 os1 H1) v d d' Q rfl rfl R1.fr q1 e k)
  | some r =>
    obtain ⟨c, ns, vs⟩ := r
    simp only [e0] at z1
    cases e1 : T.lookup c with
    | none => simp only [e1] at z1; exact z1.elim
    | some G =>
      simp only [e1] at z1
      have q := insOf_repW R1 q1 e0
      obtain ⟨a, rfl, b⟩ := ins_at R1 q e0
      obtain ⟨Cc, dx, fs, h1, h2, h3, h4⟩ := b
      exact .inl ⟨c, G, Cc, a, dx, fs, e1, h2, rfl, h1, hO R1 q z1⟩
theorem de_own {T : ST} {out : R → Env → O D} {A : V → Prop} {r : List V → Hp → VK → Prop} {h : D → Option D} {e : Expr} {x : Str} {id : String} (hS : CallS X (.builtin id) (rOwn X Φ.W T A)) (hc : CallR X (.builtin id) r) (hD : Cal1 X r h)
    (hO : ∀ {G : Fn} {ρ : Env} {μ : Sto} {C : List Addr} {os : Os} {σ : L2.St} {H : Hp} {v : V} {d : D} {Q : VK}, Rl Φ X ρ μ C os σ H → Rep (rc Φ X C os H) v d → PostE Φ X C os σ H (out (G [d] μ) ρ) Q → spD X.K X.mg G [v] H (fun v H' => A v ∧ Q v H') (WE Φ.W σ))
    (hm : X.mg x = none) (hv : bootBuiltins x = some (.builtin id)) (ha : DB Φ X e f) (hg : Gl X x) (hx : x ≠ "__name__") (hdb : (x == ("__debug__" : Str)) = false)
    (he : starEach (e :: []) X.env = (false, eval e X.env) :: starEach [] X.env) (hpl : (backTo pos (starEach [] X.env)).any (·.1) = false) : DE Φ X (.Call (.Name x p) [e] [] pos) (ownM T out h f) :=
  PE.imp (pe_callBS (hS.or hc) hg hm hv (pa_cons ha pa_nil he) hx hdb he hpl) fun σ H Q z => run_own hD hO z
theorem de_lenO {k j : Nat} {T : ST} {e : Expr} (S : SpcT X.prog X.w X.K X.mg X.base "__len__" k T) (cc : Cc Φ X j) (hm : X.mg "len" = none) (ha : DB Φ X e f) (hj : k + 1 ≤ j := by decide) (hg : Gl X "len" := by rfl) (he : starEach (e :: []) X.env = (false, eval e X.env) :: starEach [] X.env := by rfl)
    (hpl : (backTo pos (starEach [] X.env)).any (·.1) = false := by rfl) : DE Φ X (.Call (.Name "len" p) [e] [] pos) (ownM T lenR lenD f) :=
  de_own (own_len S cc hj) (call_len.or call_lenD) cd_len (fun R q z => spc_len R q z) hm PySem.boot_len ha hg (by decide) (by decide) he hpl
end
end L2.DL

/-! DL32: repr of data whose text is short enough; of own instances. -/
namespace L2.DL
open PySem PySem.Spec PyProof.Rows
def reprW (d : D) : Option D := match toR d with
  | some p => if p.showable && decide (p.shown.length ≤ lineN) && decide (p.depth ≤ 60) then some (.str p.shown) else none
  | none => none
section
variable {X : Cx}
def rReprW (X : Cx) : List V → Hp → VK → Prop := fun xs H Q => ∃ (r : RC) (x : V) (d : D) (p : PyData), xs = [x] ∧ r.K = X.K ∧ r.H = H ∧ RepW r x d ∧ toR d = some p ∧ p.showable = true ∧ p.shown.length ≤ sizeLine ∧ p.depth ≤ 60 ∧ Q (.str p.shown) H
theorem call_reprW (hg : X.A.guards = some []) (hu : hasUnits X) : CallR X (.builtin "repr") (rReprW X) := by
  intro pins s σ H xs us Q I r h
  obtain ⟨q, x, d, p, rfl, h1, h2, h3, h4, h5, hz, h8, k⟩ := h
  obtain ⟨u, rfl, rv⟩ := vals1 r
  obtain ⟨as, hr, hm⟩ := rep_reads I h1 h2 h3 rv h4
  have hu : X.A.units + 64 < cLine := hu
  cases hr with
  | none => exact PySem.P.repr_of_none ⟨.str _, H, I.tok _, ⟨_, rfl⟩, k⟩
  | bool b => exact PySem.P.repr_of_bool ⟨.str _, H, I.tok _, ⟨_, rfl⟩, k⟩
  | int i t => exact PySem.P.repr_of_int (by simpa [PyData.showable] using h5) ⟨.str _, H, I.tok _, ⟨_, rfl⟩, k⟩
  | str x t => exact PySem.P.repr_of_str ⟨.str _, H, I.tok _, ⟨_, rfl⟩, k⟩ (by simpa only [PyData.shown] using hz)
  | list a1 a2 a3 a4 => exact repr_of_reads' (.list a1 a2 a3 a4) h5 hm hg (by omega) (fun _ _ e => e) (fun h' u tk hk => ⟨.str _, H, I.kept (t' := tk) hk, ⟨_, rfl⟩, k⟩) hz
  | tuple a1 a2 a3 a4 => exact repr_of_reads' (.tuple a1 a2 a3 a4) h5 hm hg (by omega) (fun _ _ e => e) (fun h' u tk hk => ⟨.str _, H, I.kept (t' := tk) hk, ⟨_, rfl⟩, k⟩) hz
  | dict a1 a2 a3 a4 a5 => exact repr_of_reads' (.dict a1 a2 a3 a4 a5) h5 hm hg (by omega) (fun _ _ e => e) (fun h' u tk hk => ⟨.str _, H, I.kept (t' := tk) hk, ⟨_, rfl⟩, k⟩) hz
theorem cd_reprW : Cal1 X (rReprW X) reprW := by
  intro q x d1 d Q hK _ _ h1 e k
  unfold reprW at e
  cases e2 : toR d1 with
  | none => simp only [e2] at e; cases e
  | some p =>
    simp only [e2] at e
    split at e
    · rename_i hc
      simp only [Bool.and_eq_true, decide_eq_true_eq] at hc
      cases e
      exact ⟨q, x, d1, p, rfl, hK, rfl, h1, e2, hc.1.1, by rw [line_eq]; exact hc.1.2, hc.2, k _ _ (Grow.refl _) (.str _)⟩
    · cases e
theorem reprW_fits {d : D} {p : PyData} (h : toR d = some p) (h1 : p.showable = true) (h2 : p.leavesShort 64 = true) (h3 : p.weight ≤ 200000) (h4 : p.depth ≤ 60) : reprW d = some (.str p.shown) := by
  have z := PyData.shown_le 64 (by decide) p h2
  have z2 : p.shown.length ≤ lineN := by
    refine Nat.le_trans z ?_
    show _ ≤ 16777216
    omega
  unfold reprW
  rw [h]
  simp only [h1, decide_eq_true z2, decide_eq_true h4, Bool.and_self, if_true]
variable {Φ : Ctx} {f : Mo D} {p pos : Pos}
theorem de_reprO {k j : Nat} {T : ST} {e : Expr} (S : SpcT X.prog X.w X.K X.mg X.base "__repr__" k T) (hgd : X.A.guards = some []) (cc : Cc Φ X j) (hm : X.mg "repr" = none) (ha : DB Φ X e f) (hj : k + 1 ≤ j := by decide) (hg : Gl X "repr" := by rfl) (he : starEach (e :: []) X.env = (false, eval e X.env) :: starEach [] X.env := by rfl)
    (hpl : (backTo pos (starEach [] X.env)).any (·.1) = false := by rfl) : DE Φ X (.Call (.Name "repr" p) [e] [] pos) (ownM T strR reprW f) :=
  de_own (own_repr S cc hj) (call_reprW hgd cc.rm.units) cd_reprW (fun R q z => spc_str R q z) hm (by decide +kernel) ha hg (by decide) (by decide) he hpl
end
end L2.DL

/-! DL33: isinstance of built-in and own classes. -/
namespace L2.DL
open PySem PySem.Spec PyProof.Rows
inductive Ty where
  | b (s : String) | o (c : Str)
deriving DecidableEq
def TyV (mg : Str → Option Value) : Ty → Value → Prop
  | .b s, u => s ∈ tysD ∧ u = .type s
  | .o c, u => ∃ C, mg c = some (.ref C) ∧ u = .ref C
/-- the kinship that the text's classes have -/
abbrev KT := List ((Ty × Ty) × Bool)
def KtOk (K : PySem.W.Frag) (mg : Str → Option Value) (T : KT) : Prop := ∀ t s b, T.lookup (t, s) = some b → ∀ u v, TyV mg t u → TyV mg s v → PySem.W.kitOne K u v = some b
/-- what isinstance asks of an own class of which instances are shown to it -/
def OcOk (K : PySem.W.Frag) (mg : Str → Option Value) (cs : List Str) : Prop := ∀ c ∈ cs, ∀ C, mg c = some (.ref C) → Cls K C ∧ PySem.W.findIn K (.ref C) "__class__" = some (some (.builtin "object.__class__")) ∧
  PySem.W.specialIn K (.builtin "object.__class__") "__get__" = some (some (.builtin "getset_descriptor.__get__")) ∧ PySem.W.takesIn K (.builtin "object.__class__") = some true ∧ PySem.W.mroIn K C (.type "object") = some true
def tyI (cs : List Str) (d : D) (μ : Sto) : Option Ty := match d with
  | .cell n => (match μ[n]? with
    | some (.lst _) => some (.b "list")
    | some (.dct _ _) => some (.b "dict")
    | some (.ins c _ _) => if c ∈ cs then some (.o c) else none
    | none => none)
  | .ins c _ _ => if c ∈ cs then some (.o c) else none
  | d => (tyN d).map .b
def isK (T : KT) : Ty → Ty → Option Bool
  | .b s, .b t => some (isT s t)
  | t, s => T.lookup (t, s)
def isAny (T : KT) (t : Ty) : List Ty → Option Bool
  | [] => some false
  | s :: ss => match isK T t s with
    | some true => some true
    | some false => isAny T t ss
    | none => none
def isiM (T : KT) (cs : List Str) (Ts : List Ty) (f : Mo D) : Mo D := bnd f fun d ρ μ => match tyI cs d μ with
  | some t => lift ((isAny T t Ts).map D.bl) ρ μ
  | none => .no
/-- an expression that names a class -/
structure TyE (X : Cx) (e : Expr) (t : Ty) : Prop where
  ex : ∃ v u, PE X e (tC v) ∧ ClsV v u ∧ TyV X.mg t u
section
variable {Φ : Ctx} {X : Cx} {e e2 e3 : Expr} {f : Mo D} {p p2 p4 pos : Pos} {x : Str}
theorem tye_b {s : String} (hm : X.mg x = none) (hv : bootBuiltins x = some (.type s) := by decide +kernel) (hs : s ∈ tysD := by decide) (hg : Gl X x := by rfl) (hn : x ≠ "__name__" := by decide) (hd : (x == ("__debug__" : Str)) = false := by decide) : TyE X (.Name x p) (.b s) :=
  ⟨.ty s, .type s, pe_bltn (v := .ty s) hg hm hv rfl hn hd, .ty s, hs, rfl⟩
theorem tye_o (hm : ∃ C, X.mg x = some (.ref C)) (hg : Gl X x := by rfl) (hd : (x == ("__debug__" : Str)) = false := by decide) : TyE X (.Name x p) (.o x) := by
  obtain ⟨C, hm⟩ := hm
  exact ⟨.ref C, .ref C, pe_glob (v := .ref C) hg hm rfl hd, .own C, C, hm, rfl⟩
theorem ty_at {cs : List Str} {ρ : Env} {μ : Sto} {C : List Addr} {os : Os} {σ : L2.St} {H : Hp} {v : V} {d : D} {t : Ty} (hO : OcOk X.K X.mg cs) (R : Rl Φ X ρ μ C os σ H) (q : Rep (rc Φ X C os H) v d) (e : tyI cs d μ = some t) : ∃ u, TyX X.K H v u ∧ TyV X.mg t u := by
  have ins : ∀ {a : Addr} {c : Str} {ns : List Str} {ds : List D}, v = .ref a → BdR (rc Φ X C os H) a c ns ds → (if c ∈ cs then some (Ty.o c) else none) = some t → ∃ u, TyX X.K H v u ∧ TyV X.mg t u := by
    rintro a c ns ds rfl ⟨Cc, dx, fs, h1, h2, h3, h4⟩ e
    split at e
    · rename_i hc
      cases e
      obtain ⟨z1, z2, z3, z4, z5⟩ := hO c hc Cc h2
      exact ⟨.ref Cc, .base (.ins h1 z1 z2 z3 z4 z5), Cc, h2, rfl⟩
    · cases e
  have dat : (tyN d).map Ty.b = some t → ∃ u, TyX X.K H v u ∧ TyV X.mg t u := fun e => by
    obtain ⟨s, e1, rfl⟩ := Option.map_eq_some_iff.mp e
    exact ⟨.type s, RepW.ty (q := rc Φ X C os H) (.inl q) e1, tyN_mem e1, rfl⟩
  cases d with
  | cell n =>
    cases q with
    | cell h =>
      have e : (match μ[n]? with
        | some (.lst _) => some (Ty.b "list")
        | some (.dct _ _) => some (.b "dict")
        | some (.ins c _ _) => if c ∈ cs then some (.o c) else none
        | none => none) = some t := e
      split at e
      · rename_i hc
        cases e
        obtain ⟨vs, h1, h2⟩ := R.sto.2 n _ _ h hc
        exact ⟨.type "list", .base (.lst h1), by decide, rfl⟩
      · rename_i hc
        cases e
        obtain ⟨kvs, h1, h2, h3⟩ := R.sto.2 n _ _ h hc
        exact ⟨.type "dict", .base (.dK h1), by decide, rfl⟩
      · rename_i hc
        exact ins rfl (R.sto.2 n _ _ h hc) e
      · cases e
  | ins c ns ds =>
    cases q with
    | ins h n g e2 qs => exact ins rfl ⟨_, _, _, h, g, e2, qs⟩ e
  | non => exact dat e
  | bl b => exact dat e
  | int i => exact dat e
  | str s => exact dat e
  | tup xs => exact dat e
  | lst xs => exact dat e
  | frz xs => exact dat e
  | dct ks vs => exact dat e
theorem isK_ok {T : KT} (hT : KtOk X.K X.mg T) {t s : Ty} {b : Bool} {u v : Value} (e : isK T t s = some b) (h1 : TyV X.mg t u) (h2 : TyV X.mg s v) : PySem.W.kitOne X.K u v = some b := by
  cases t with
  | b t =>
    cases s with
    | b s =>
      obtain ⟨m1, rfl⟩ := h1
      obtain ⟨m2, rfl⟩ := h2
      cases e
      exact kit_is m1 m2
    | o c => exact hT _ _ _ e _ _ h1 h2
  | o c => cases s <;> exact hT _ _ _ e _ _ h1 h2
theorem isAny_ok {T : KT} (hT : KtOk X.K X.mg T) {t : Ty} {u : Value} (h1 : TyV X.mg t u) : ∀ {ss : List Ty} {vs : List Value} {b : Bool}, Paired (TyV X.mg) ss vs → isAny T t ss = some b → PySem.W.kitAny X.K u vs = some b := by
  intro ss vs b h
  induction h generalizing b with
  | nil => intro e; cases e; rfl
  | @cons s v ss vs h2 _ ih =>
    intro e
    unfold isAny at e
    split at e
    · rename_i q
      cases e
      exact kitAny_cons (isK_ok hT q h1 h2) (fun z => by cases z) (fun _ => rfl)
    · rename_i q
      exact kitAny_cons (isK_ok hT q h1 h2) (fun _ => ih e) (fun z => by cases z)
    · cases e
theorem isAny_one {T : KT} {t s : Ty} {b : Bool} (e : isAny T t [s] = some b) : isK T t s = some b := by
  unfold isAny at e
  split at e
  · rename_i q; cases e; exact q
  · rename_i q; cases e; exact q
  · cases e
variable {T : KT} {cs : List Str} {t1 t2 : Ty}
theorem de_isI (hT : KtOk X.K X.mg T) (hO : OcOk X.K X.mg cs) (hm : X.mg "isinstance" = none) (ha : DE Φ X e f) (h : TyE X e2 t1) (hg : Gl X "isinstance" := by rfl) (hv : bootBuiltins "isinstance" = some (.builtin "isinstance") := by decide +kernel)
    (h1 : starEach [e, e2] X.env = (false, eval e X.env) :: starEach [e2] X.env := by rfl) (h2 : starEach [e2] X.env = (false, eval e2 X.env) :: starEach [] X.env := by rfl) (hpl : (backTo pos (starEach [e2] X.env)).any (·.1) = false := by rfl) :
    DE Φ X (.Call (.Name "isinstance" p) [e, e2] [] pos) (isiM T cs [t1] f) := by
  obtain ⟨v, u, pv, cv, tv⟩ := h.ex
  refine PE.imp (pe_callB call_isi hg hm hv (pa_cons ha (pa_cons pv pa_nil h2) h1) (by decide) (by decide) h1 hpl) fun σ H Q ⟨ρ, μ, C, os, R, z⟩ => ⟨ρ, μ, C, os, R, PostE.bnd z fun d ρ1 μ1 x H1 C1 os1 R1 S1 q1 z1 => ?_⟩
  cases e0 : tyI cs d μ1 with
  | none => simp only [e0] at z1; exact z1.elim
  | some t =>
    simp only [e0] at z1
    obtain ⟨d2, e1, k⟩ := lift_ok R1 z1
    obtain ⟨b, e3, rfl⟩ := Option.map_eq_some_iff.mp e1
    obtain ⟨w, w1, w2⟩ := ty_at hO R1 q1 e0
    exact ⟨x, v, w, u, b, rfl, cv, w1, isK_ok hT (isAny_one e3) w2 tv, k _ _ (Grow.refl _) (.bl b)⟩
theorem de_isI2 {n : Nat} (hT : KtOk X.K X.mg T) (hO : OcOk X.K X.mg cs) (hm : X.mg "isinstance" = none) (ha : DE Φ X e f) (h : TyE X e2 t1) (h' : TyE X e3 t2) (hg : Gl X "isinstance" := by rfl) (hv : bootBuiltins "isinstance" = some (.builtin "isinstance") := by decide +kernel)
    (h1 : starEach [e, .Tuple [e2, e3] n p4] X.env = (false, eval e X.env) :: starEach [.Tuple [e2, e3] n p4] X.env := by rfl) (h2 : starEach [.Tuple [e2, e3] n p4] X.env = (false, eval (.Tuple [e2, e3] n p4) X.env) :: starEach [] X.env := by rfl)
    (h3 : starEach [e2, e3] X.env = (false, eval e2 X.env) :: starEach [e3] X.env := by rfl) (h4 : starEach [e3] X.env = (false, eval e3 X.env) :: starEach [] X.env := by rfl)
    (hpl : (backTo pos (starEach [.Tuple [e2, e3] n p4] X.env)).any (·.1) = false := by rfl) :
    DE Φ X (.Call (.Name "isinstance" p) [e, .Tuple [e2, e3] n p4] [] pos) (isiM T cs [t1, t2] f) := by
  obtain ⟨v, u, pv, cv, tv⟩ := h.ex
  obtain ⟨v', u', pv', cv', tv'⟩ := h'.ex
  refine PE.imp (pe_callB call_isiT hg hm hv (pa_cons ha (pa_cons (pe_tup (pa_cons pv (pa_cons pv' pa_nil h4) h3)) pa_nil h2) h1) (by decide) (by decide) h1 hpl) fun σ H Q ⟨ρ, μ, C, os, R, z⟩ => ⟨ρ, μ, C, os, R, PostE.bnd z fun d ρ1 μ1 x H1 C1 os1 R1 S1 q1 z1 => ?_⟩
  cases e0 : tyI cs d μ1 with
  | none => simp only [e0] at z1; exact z1.elim
  | some t =>
    simp only [e0] at z1
    obtain ⟨d2, e1, k⟩ := lift_ok R1 z1
    obtain ⟨b, e3, rfl⟩ := Option.map_eq_some_iff.mp e1
    refine ⟨by show 2 ≤ sizeLine; decide, fun tp n => ?_⟩
    have g := Grow.upd (o := .tup [v, v']) n
    obtain ⟨w, w1, w2⟩ := ty_at hO (R1.grow g) (q1.step (stp_grow g)) e0
    exact ⟨x, tp, [v, v'], w, [u, u'], b, rfl, upd_same, .cons cv (.cons cv' .nil), w1, isAny_ok hT w2 (.cons tv (.cons tv' .nil)) e3, k _ _ g (.bl b)⟩
end
end L2.DL

/-! DL34: what the printed texts of classes lean on: how parameters are bound, methods, tables. -/
namespace L2.DL
open PySem PySem.Spec PyProof.Rows
/-- the parameters get: the first j positional values (self), then the items at ix of the other values, the keywords' values, the defaults -/
abbrev pk (j : Nat) {α : Type} (ix : List Nat) (us ws ds : List α) : List α := us.take j ++ pick ix (us.drop j ++ (ws ++ ds))
theorem pk_vals {j : Nat} {ix : List Nat} {vs zs dv : List V} {us ws ds : List Value} (r : Vals vs us) (rz : Vals zs ws) (rd : Vals dv ds) : Vals (pk j ix vs zs dv) (pk j ix us ws ds) :=
  (r.take j).append (pick_vals ((r.drop j).append (rz.append rd)) ix)
section
variable {K : PySem.W.Frag} {fd : FuncData} {ps ks : List Str} {n j : Nat} {ix : List Nat} {x qual : Str} {params : Arguments} {body : List Stmt} {scope : Scope} {kws : List (Str × V)} {f : Addr}
theorem kbn_0 (h : ∀ us ws : List Value, us.length = n → ws.length = ks.length → bindArgs fd ⟨us, ks.zip ws⟩ = pure (ps.zip (pk j ix us ws []))) : KBn K fd ps n ks (fun us ws => pk j ix us ws []) (fun vs zs => pk j ix vs zs []) :=
  ⟨fun s us ws _ h1 h2 => .of_eq (h us ws h1 h2), fun r rz => pk_vals r rz .nil⟩
theorem kbn_kw (F : FunD K x qual params body scope [] kws f fd) (ms : List (Str × V)) (hk : kws ≠ []) (hms : ∀ q ∈ ms, q ∈ kws)
    (h : ∀ (D : Addr) (doc pm : Value) (an : Option Addr) (cdv ct : Value) (us mv ws : List Value), us.length = n → mv.length = ms.length → ws.length = ks.length →
      KwChain D ((ms.map (·.1)).zip mv) (bindArgs (PySem.W.fnOf x qual params body scope .none (.ref D) doc pm an cdv ct) ⟨us, ks.zip ws⟩) (ps.zip (pk j ix us ws mv))) :
    ∃ g, KBn K fd ps n ks g (fun vs zs => pk j ix vs zs (ms.map (·.2))) := by
  obtain ⟨mv, h⟩ := FunD.kbinds0 F n ks ms (fun us mv ws => pk j ix us ws mv) hk hms (fun r1 r2 r3 => pk_vals r1 r3 r2) h
  exact ⟨_, h⟩
/-- a default's value -/
inductive Dv : V → D → Prop
  | non : Dv .non .non
  | bl (b : Bool) : Dv (.bl b) (.bl b)
  | int (i : Int) : Dv (.int i) (.int i)
  | str (s : Str) : Dv (.str s) (.str s)
inductive Dvs : List V → List D → Prop
  | nil : Dvs [] []
  | cons {v : V} {d : D} {vs : List V} {ds : List D} (h : Dv v d) (t : Dvs vs ds) : Dvs (v :: vs) (d :: ds)
theorem Dv.rep {v : V} {d : D} (h : Dv v d) (r : RC) : Rep r v d := by
  cases h with
  | non => exact .non
  | bl b => exact .bl b
  | int i => exact .int i
  | str s => exact .str s
theorem Dvs.reps : ∀ {vs : List V} {ds : List D}, Dvs vs ds → ∀ r : RC, Reps r vs ds
  | _, _, .nil, _ => .nil
  | _, _, .cons h t, r => .cons (h.rep r) (Dvs.reps t r)
variable {P : Program} {w : World} {mg : Str → Option Value} {base : Heap} {c m : Str} {k : Nat}
theorem cln_mk {C : Addr} {G : FnI} {g : List Value → List Value → List Value} {dvs : List V} {dds : List D} (hm : mg c = some (.ref C)) (M : Mk K C f) (F : FnOk P w K mg base (L2.CX P w) k f fd ps (spN K mg c G)) (hb : KBn K fd ps (n + 1) ks g (fun vs zs => pk 1 ix vs zs dvs)) (hd : Dvs dvs dds) : Cln P w K mg base c k G n ks ix dds :=
  ⟨C, f, fd, ps, dvs, g, hm, M, F, hb, hd.reps⟩
theorem mtd_mk {C : Addr} {G : Fn} {g : List Value → List Value → List Value} {dvs : List V} {dds : List D} (hm : mg c = some (.ref C)) (cl : Cls K C) (M : Meth K C m f) (F : FnOk P w K mg base (L2.CX P w) k f fd ps (spD K mg G)) (hb : KBn K fd ps (n + 1) ks g (fun vs zs => pk 1 ix vs zs dvs)) (hd : Dvs dvs dds) : Mtd P w K mg base c m k G n ks ix dds :=
  ⟨C, f, fd, ps, dvs, g, hm, cl, M, F, hb, hd.reps⟩
theorem spc_mk {C : Addr} {G : Fn} (hm : mg c = some (.ref C)) (M : Meth K C m f) (F : FnOk P w K mg base (L2.CX P w) k f fd ps (spD K mg G)) (hb : Binds K fd ps []) : Spc P w K mg base c m k G := ⟨C, f, fd, ps, hm, M.at_, M.fn, F, hb⟩
/-! tables, entry by entry -/
theorem ft_nil : FtOk K mg [] := fun _ _ e => by cases e
theorem ft_cons {C : Addr} {fs : List Str} {T : FT} (hm : mg c = some (.ref C)) (cl : Cls K C) (h : ∀ f ∈ fs, NoAttr K C f) (t : FtOk K mg T) : FtOk K mg ((c, fs) :: T) := fun c' fs' e Cc hc => by
  rw [List.lookup_cons] at e
  split at e
  · rename_i q
    cases e
    have : c' = c := by simpa using q
    subst this
    cases hm.symm.trans hc
    exact ⟨cl, h⟩
  · exact t c' fs' e Cc hc
theorem oc_nil : OcOk K mg [] := fun _ h => by cases h
theorem oc_cons {C : Addr} {cs : List Str} (hm : mg c = some (.ref C)) (cl : Cls K C) (h1 : PySem.W.findIn K (.ref C) "__class__" = some (some (.builtin "object.__class__"))) (h2 : PySem.W.specialIn K (.builtin "object.__class__") "__get__" = some (some (.builtin "getset_descriptor.__get__")))
    (h3 : PySem.W.takesIn K (.builtin "object.__class__") = some true) (h4 : PySem.W.mroIn K C (.type "object") = some true) (t : OcOk K mg cs) : OcOk K mg (c :: cs) := fun c' h Cc hc => by
  rcases List.mem_cons.mp h with rfl | h
  · cases hm.symm.trans hc
    exact ⟨cl, h1, h2, h3, h4⟩
  · exact t c' h Cc hc
theorem kt_nil : KtOk K mg [] := fun _ _ _ e => by cases e
theorem tyv_inj {t : Ty} {u v : Value} (h1 : TyV mg t u) (h2 : TyV mg t v) : u = v := by
  cases t with
  | b s => rw [h1.2, h2.2]
  | o c =>
    obtain ⟨C, e1, rfl⟩ := h1
    obtain ⟨C', e2, rfl⟩ := h2
    cases e1.symm.trans e2
    rfl
theorem kt_cons {t s : Ty} {u v : Value} {b : Bool} {T : KT} (h1 : TyV mg t u) (h2 : TyV mg s v) (h : PySem.W.kitOne K u v = some b) (r : KtOk K mg T) : KtOk K mg (((t, s), b) :: T) := fun t' s' b' e u' v' h1' h2' => by
  rw [List.lookup_cons] at e
  split at e
  · rename_i q
    cases e
    have q : (t', s') = (t, s) := by simpa using q
    cases q
    rw [← tyv_inj h1 h1', ← tyv_inj h2 h2']
    exact h
  · exact r t' s' b' e u' v' h1' h2'
theorem tyv_b {s : String} (h : s ∈ tysD := by decide) : TyV mg (.b s) (.type s) := ⟨h, rfl⟩
theorem tyv_o {C : Addr} (h : mg c = some (.ref C)) : TyV mg (.o c) (.ref C) := ⟨C, h, rfl⟩
end
end L2.DL
namespace L2.DL
open PySem PySem.Spec PyProof.Rows
theorem kit_b {K : PySem.W.Frag} {C : Addr} {T : String} {b : Bool} (h : PySem.W.subIn K (.ref C) (.type T) = some b) (hm : PySem.W.kitMeta T = true := by decide +kernel) : PySem.W.kitOne K (.ref C) (.type T) = some b := by
  unfold PySem.W.kitOne
  rw [if_neg (by simp)]
  show (if PySem.W.kitMeta T = true then _ else _) = _
  rw [if_pos hm, h]
theorem kit_o {K : PySem.W.Frag} {D : Addr} {u : Value} {b : Bool} (h : PySem.W.subIn K u (.ref D) = some b) (hc : PySem.W.isClsIn K D = true) (ht : PySem.W.typeIn K (.ref D) = some (.type "type")) (hs : PySem.W.subIn K (.ref D) (.ref D) = some true) : PySem.W.kitOne K u (.ref D) = some b := by
  unfold PySem.W.kitOne
  by_cases q : (u == Value.ref D) = true
  · rw [if_pos q]
    have e : u = .ref D := beq_iff_eq.mp q
    subst e
    rw [hs] at h
    exact h
  · rw [if_neg q]
    show (if ((PySem.W.clsIn K D).isSome && PySem.W.typeIn K (.ref D) == some (.type "type")) = true then _ else _) = _
    have hc : (PySem.W.clsIn K D).isSome = true := hc
    rw [if_pos (by rw [hc, ht] <;> simp), h]
end L2.DL

/-! DL35: a, b = e, e' of two names. -/
namespace L2.DL
open PySem PySem.Spec PyProof.Rows
def parM3 (i j l : Nat) (fa : Mo (List D)) : Mo Fl := bnd fa fun ds => match ds with
  | [x, y, z] => bnd (put i (.sh x)) fun _ => bnd (put j (.sh y)) fun _ => put l (.sh z)
  | _ => no
def parM (i j : Nat) (fa : Mo (List D)) : Mo Fl := bnd fa fun ds => match ds with
  | [x, y] => bnd (put i (.sh x)) fun _ => put j (.sh y)
  | _ => no
section
variable {Φ : Ctx} {X : Cx} {a b : Expr} {fa : Mo (List D)} {px py pt pos pt2 : Pos} {kt k2 : Nat} {x y : Str}
theorem parM_ap {i j : Nat} {ρ : Env} {μ : Sto} : parM i j fa ρ μ = bo (fa ρ μ) fun ds => match ds with
  | [x, y] => bnd (put i (.sh x)) fun _ => put j (.sh y)
  | _ => no := bnd_ap
theorem ds_par {i j k : Nat} (cn : Cn Φ X k) (ha : DA Φ X [a, b] fa) (hi : X.N[i]? = some x := by rfl) (hj : X.N[j]? = some y := by rfl) (hij : i ≠ j := by decide) (hx : X.env.scope.names.lookup x = some .local := by rfl) (hy : X.env.scope.names.lookup y = some .local := by rfl)
    (hw : swappedStores [.Tuple [.Name x px, .Name y py] kt pt] (.Tuple [a, b] k2 pt2) X.env = pure (some [x, y]) := by rfl) (hs : swapsWithSole [.Tuple [.Name x px, .Name y py] kt pt] (.Tuple [a, b] k2 pt2) pos.line X.env = pure false := by rfl) :
    DS Φ X (.Assign [.Tuple [.Name x px, .Name y py] kt pt] (.Tuple [a, b] k2 pt2) pos) (parM i j fa) := PS.imp (ps_par cn.calm cn.nd hi hj hij hx hy ha hw hs) fun D σ H ⟨ρ, μ, C, os, R, z⟩ => ⟨ρ, μ, C, os, R, by
  unfold parM bnd at z
  cases e : fa ρ μ with
  | no => simp only [e] at z; exact z
  | ex c ns ds ρ1 μ1 => simp only [e] at z; exact fun Cc dx H' C' os' R S g e => z Cc dx σ H' C' os' R S g e
  | ok ds ρ1 μ1 =>
    simp only [e] at z
    intro vs H1 C1 os1 R1 S1 q1
    match ds, q1, z with
    | [d1, d2], .cons (v := v1) h1 (.cons (v := v2) h2 .nil), z =>
      exact ⟨v1, v2, rfl, z _ _ C1 os1 ((R1.setv (t := .sh d1) h1).setv (t := .sh d2) h2) S1⟩
    | [], _, z => exact z.elim
    | [_], _, z => exact z.elim
    | _ :: _ :: _ :: _, _, z => exact z.elim⟩
theorem parM3_ap {i j l : Nat} {ρ : Env} {μ : Sto} : parM3 i j l fa ρ μ = bo (fa ρ μ) fun ds => match ds with
  | [x, y, z] => bnd (put i (.sh x)) fun _ => bnd (put j (.sh y)) fun _ => put l (.sh z)
  | _ => no := bnd_ap
theorem ds_par3 {c : Expr} {z : Str} {pz : Pos} {i j l k : Nat} (cn : Cn Φ X k) (ha : DA Φ X [a, b, c] fa) (hi : X.N[i]? = some x := by rfl) (hj : X.N[j]? = some y := by rfl) (hl : X.N[l]? = some z := by rfl) (hij : i ≠ j := by decide) (hil : i ≠ l := by decide) (hjl : j ≠ l := by decide)
    (hx : X.env.scope.names.lookup x = some .local := by rfl) (hy : X.env.scope.names.lookup y = some .local := by rfl) (hz : X.env.scope.names.lookup z = some .local := by rfl)
    (hw : swappedStores [.Tuple [.Name x px, .Name y py, .Name z pz] kt pt] (.Tuple [a, b, c] k2 pt2) X.env = pure (some [x, y, z]) := by rfl) (hs : swapsWithSole [.Tuple [.Name x px, .Name y py, .Name z pz] kt pt] (.Tuple [a, b, c] k2 pt2) pos.line X.env = pure false := by rfl) :
    DS Φ X (.Assign [.Tuple [.Name x px, .Name y py, .Name z pz] kt pt] (.Tuple [a, b, c] k2 pt2) pos) (parM3 i j l fa) := PS.imp (ps_par3 cn.calm cn.nd hi hj hl hij hil hjl hx hy hz ha hw hs) fun D σ H ⟨ρ, μ, C, os, R, z⟩ => ⟨ρ, μ, C, os, R, by
  unfold parM3 bnd at z
  cases e : fa ρ μ with
  | no => simp only [e] at z; exact z
  | ex c ns ds ρ1 μ1 => simp only [e] at z; exact fun Cc dx H' C' os' R S g e => z Cc dx σ H' C' os' R S g e
  | ok ds ρ1 μ1 =>
    simp only [e] at z
    intro vs H1 C1 os1 R1 S1 q1
    match ds, q1, z with
    | [d1, d2, d3], .cons (v := v1) h1 (.cons (v := v2) h2 (.cons (v := v3) h3 .nil)), z =>
      exact ⟨v1, v2, v3, rfl, z _ _ C1 os1 (((R1.setv (t := .sh d1) h1).setv (t := .sh d2) h2).setv (t := .sh d3) h3) S1⟩
    | [], _, z => exact z.elim
    | [_], _, z => exact z.elim
    | [_, _], _, z => exact z.elim
    | _ :: _ :: _ :: _ :: _, _, z => exact z.elim⟩
end
end L2.DL

/-! DL36: repr of data in which dicts may stand at any depth; of own instances. -/
namespace L2.DL
open PySem PySem.Spec PyProof.Rows
/-- the dict of the modules stands -/
def SysM (h : Heap) : Prop := ∃ o es ep, h.get? sysModules = some o ∧ o.data = .dict es ep
mutual
def toN : D → Option PyData
  | .non => some .none | .bl b => some (.bool b) | .int i => some (.int i) | .str s => some (.str s)
  | .tup xs => (toNs xs).map .tuple | .lst xs => (toNs xs).map .list | .frz xs => (toNs xs).map .list
  | .dct ks vs => (toNs vs).map fun ps => .dict ((ks.map keyP).zip ps)
  | .ins _ _ _ => none | .cell _ => none
def toNs : List D → Option (List PyData)
  | [] => some []
  | d :: ds => match toN d, toNs ds with
    | some p, some ps => some (p :: ps)
    | _, _ => none
end
theorem toNs_cons {d : D} {ds : List D} {qs : List PyData} (e : toNs (d :: ds) = some qs) : ∃ p ps, toN d = some p ∧ toNs ds = some ps ∧ qs = p :: ps := by
  unfold toNs at e
  split at e
  · rename_i p ps h1 h2
    cases e
    exact ⟨p, ps, h1, h2, rfl⟩
  · cases e
theorem toNs_len : ∀ {ds : List D} {ps : List PyData}, toNs ds = some ps → ps.length = ds.length
  | [], _, e => by cases e; rfl
  | d :: ds, qs, e => by
    obtain ⟨p, ps, h1, h2, rfl⟩ := toNs_cons e
    rw [List.length_cons, List.length_cons, toNs_len h2]
section
variable {X : Cx} {pins : List (Addr × Obj)} {σ : L2.St} {H : Hp} {s : Shared}
theorem sysm_H (S : SysM X.base) (I : Inv X pins σ H s) : H sysModules = none := by
  obtain ⟨o, es, ep, e, d⟩ := S
  exact (I.env0.bs _ _ e).2
theorem sysm_list (S : SysM X.base) (I : Inv X pins σ H s) {a : Addr} {o : Obj} {vs : Array Value} {n : Nat} (e : s.heap.get? a = some o) (d : o.data = .seq vs n) : a ≠ sysModules := by
  intro z
  obtain ⟨o', es, ep, e', d'⟩ := S
  have q := (I.env0.bs _ _ e').1
  rw [z, q] at e
  cases e
  rw [d'] at d
  cases d
theorem pairs_zip {h : Heap} {P : Program} {w : World} : ∀ {es : List DictEntry} {vs : List (Key × Value)} {kvs : List (Key × V)}, Pairs (mixKind P w) es vs → KV kvs vs → ReadsAll h (es.map (·.key)) ((kvs.map (·.1)).map keyP) [] ∧ Vals (kvs.map (·.2)) (es.map (·.val)) := by
  intro es vs kvs hp
  induction hp generalizing kvs with
  | nil =>
    intro hk
    cases hk
    exact ⟨.nil, .nil⟩
  | @cons e kv es vs h1 h2 _ ih =>
    intro hk
    cases hk with
    | @cons p _ kvs _ hkv hrest =>
      obtain ⟨z1, z2⟩ := ih hrest
      obtain ⟨e1, rv⟩ := hkv
      have h1 : keyIs kv.1 e.key = true := h1
      rw [← e1] at h1
      rw [← h2] at rv
      exact ⟨ReadsAll.cons (as := []) (bs := []) (key_reads h1) z1, .cons rv z2⟩
mutual
theorem rep_n {r : RC} (S : SysM X.base) (I : Inv X pins σ H s) (hK : r.K = X.K) (hH : r.H = H) : ∀ {d : D} {v : V} {u : Value} {p : PyData}, Rep r v d → RelV v u → toN d = some p → ∃ as, Reads s.heap u p as ∧ sysModules ∉ as
  | .non, v, u, p, q, rv, e => by cases e; cases q; cases rv; exact ⟨[], .none, by simp⟩
  | .bl b, v, u, p, q, rv, e => by cases e; cases q; cases rv; exact ⟨[], .bool b, by simp⟩
  | .int i, v, u, p, q, rv, e => by cases e; cases q; obtain ⟨t, rfl⟩ := rv; exact ⟨[], .int i t, by simp⟩
  | .str x, v, u, p, q, rv, e => by cases e; cases q; obtain ⟨t, rfl⟩ := rv; exact ⟨[], .str x t, by simp⟩
  | .tup xs, v, u, p, q, rv, e => by
    obtain ⟨ps, e1, rfl⟩ := Option.map_eq_some_iff.mp (show (toNs xs).map PyData.tuple = some p from e)
    cases q with
    | tup h qs =>
      cases rv
      obtain ⟨its, rv, ⟨o, ho, hc, n, hd⟩, _⟩ := I.tuple (hK ▸ hH ▸ h.sq)
      obtain ⟨as, hr, hm⟩ := reps_n S I hK hH qs rv e1
      exact ⟨as, .tuple ho hc hd hr, hm⟩
  | .lst xs, v, u, p, q, rv, e => by
    obtain ⟨ps, e1, rfl⟩ := Option.map_eq_some_iff.mp (show (toNs xs).map PyData.list = some p from e)
    cases q with
    | lst h n qs =>
      cases rv
      obtain ⟨its, rv, ⟨o, n, ho, hc, _, hd⟩, _⟩ := I.list (.of (hH ▸ h))
      obtain ⟨as, hr, hm⟩ := reps_n S I hK hH qs rv e1
      exact ⟨_, .list ho hc hd hr, fun z => (List.mem_cons.mp z).elim (fun z => sysm_list S I ho hd z.symm) hm⟩
  | .frz xs, v, u, p, q, rv, e => by
    obtain ⟨ps, e1, rfl⟩ := Option.map_eq_some_iff.mp (show (toNs xs).map PyData.list = some p from e)
    cases q with
    | frz h qs =>
      cases rv
      obtain ⟨its, rv, ⟨o, n, ho, hc, _, hd⟩, _⟩ := I.list (hK ▸ hH ▸ h.sq)
      obtain ⟨as, hr, hm⟩ := reps_n S I hK hH qs rv e1
      exact ⟨_, .list ho hc hd hr, fun z => (List.mem_cons.mp z).elim (fun z => sysm_list S I ho hd z.symm) hm⟩
  | .dct ks vs, v, u, p, q, rv, e => by
    obtain ⟨ps, e1, rfl⟩ := Option.map_eq_some_iff.mp (show (toNs vs).map (fun ps => PyData.dict ((ks.map keyP).zip ps)) = some p from e)
    cases q with
    | @dct a kvs _ _ h n e2 qs =>
      cases rv
      obtain ⟨_, hs, ws, hkv, o, es, ep, ho, hx, hd, _, hp, _⟩ : ObjOk X.prog X.w H s.heap a (.dK kvs) := I.hok a _ (hH ▸ h)
      obtain ⟨z1, z2⟩ := pairs_zip (h := s.heap) hp hkv
      obtain ⟨as, hr, hm⟩ := reps_n S I hK hH qs z2 e1
      have lk : (ks.map keyP).length = ps.length := by
        rw [List.length_map, toNs_len e1, ← qs.length, ← e2, List.length_map, List.length_map]
      refine ⟨a :: [] ++ as, .dict ho hx.1 hd ?_ ?_, fun z => ?_⟩
      · rw [List.map_fst_zip (Nat.le_of_eq lk), ← e2]
        exact z1
      · rw [List.map_snd_zip (Nat.le_of_eq lk.symm)]
        exact hr
      · rcases List.mem_append.mp z with z | z
        · rw [List.mem_singleton.mp z] at hs
          simp at hs
        · exact hm z
  | .ins _ _ _, _, _, _, _, _, e => by cases (show (none : Option PyData) = some _ from e)
  | .cell _, _, _, _, _, _, e => by cases (show (none : Option PyData) = some _ from e)
theorem reps_n {r : RC} (S : SysM X.base) (I : Inv X pins σ H s) (hK : r.K = X.K) (hH : r.H = H) : ∀ {ds : List D} {vs : List V} {us : List Value} {ps : List PyData}, Reps r vs ds → Vals vs us → toNs ds = some ps → ∃ as, ReadsAll s.heap us ps as ∧ sysModules ∉ as
  | [], vs, us, ps, q, rv, e => by cases e; cases q; cases rv; exact ⟨[], .nil, by simp⟩
  | d :: ds, vs, us, qs, q, rv, e => by
    obtain ⟨p, ps, h1, h2, rfl⟩ := toNs_cons e
    cases q with
    | cons q1 q2 =>
      cases rv with
      | cons r1 r2 =>
        obtain ⟨as, a1, a2⟩ := rep_n S I hK hH q1 r1 h1
        obtain ⟨bs, b1, b2⟩ := reps_n S I hK hH q2 r2 h2
        exact ⟨as ++ bs, .cons a1 b1, fun z => (List.mem_append.mp z).elim a2 b2⟩
end
def reprN (d : D) : Option D := match toN d with
  | some p => if p.showable && decide (p.shown.length ≤ lineN) && decide (p.depth ≤ 60) then some (.str p.shown) else none
  | none => none
def rReprN (X : Cx) : List V → Hp → VK → Prop := fun xs H Q => ∃ (r : RC) (x : V) (d : D) (p : PyData), xs = [x] ∧ r.K = X.K ∧ r.H = H ∧ Rep r x d ∧ toN d = some p ∧ p.showable = true ∧ p.shown.length ≤ sizeLine ∧ p.depth ≤ 60 ∧ Q (.str p.shown) H
theorem call_reprN (S : SysM X.base) (hg : X.A.guards = some []) (hu : hasUnits X) : CallR X (.builtin "repr") (rReprN X) := by
  intro pins s σ H xs us Q I r h
  obtain ⟨q, x, d, p, rfl, h1, h2, h3, h4, h5, hz, h8, k⟩ := h
  obtain ⟨u, rfl, rv⟩ := vals1 r
  obtain ⟨as, hr, hm0⟩ := rep_n S I h1 h2 h3 rv h4
  have hm : p.hasDict = true → sysModules ∉ as := fun _ => hm0
  have hu : X.A.units + 64 < cLine := hu
  cases hr with
  | none => exact PySem.P.repr_of_none ⟨.str _, H, I.tok _, ⟨_, rfl⟩, k⟩
  | bool b => exact PySem.P.repr_of_bool ⟨.str _, H, I.tok _, ⟨_, rfl⟩, k⟩
  | int i t => exact PySem.P.repr_of_int (by simpa [PyData.showable] using h5) ⟨.str _, H, I.tok _, ⟨_, rfl⟩, k⟩
  | str x t => exact PySem.P.repr_of_str ⟨.str _, H, I.tok _, ⟨_, rfl⟩, k⟩ (by simpa only [PyData.shown] using hz)
  | list a1 a2 a3 a4 => exact repr_of_reads' (.list a1 a2 a3 a4) h5 hm hg (by omega) (fun _ _ e => e) (fun h' u tk hk => ⟨.str _, H, I.kept (t' := tk) hk, ⟨_, rfl⟩, k⟩) hz
  | tuple a1 a2 a3 a4 => exact repr_of_reads' (.tuple a1 a2 a3 a4) h5 hm hg (by omega) (fun _ _ e => e) (fun h' u tk hk => ⟨.str _, H, I.kept (t' := tk) hk, ⟨_, rfl⟩, k⟩) hz
  | dict a1 a2 a3 a4 a5 => exact repr_of_reads' (.dict a1 a2 a3 a4 a5) h5 hm hg (by omega) (fun _ _ e => e) (fun h' u tk hk => ⟨.str _, H, I.kept (t' := tk) hk, ⟨_, rfl⟩, k⟩) hz
variable {Φ : Ctx} {f : Mo D} {p pos : Pos}
theorem de_reprN {k j : Nat} {T : ST} {e : Expr} (S : SpcT X.prog X.w X.K X.mg X.base "__repr__" k T) (SM : SysM X.base) (hgd : X.A.guards = some []) (cc : Cc Φ X j) (hm : X.mg "repr" = none) (ha : DE Φ X e f) (hj : k + 1 ≤ j := by decide) (hg : Gl X "repr" := by rfl) (hv : bootBuiltins "repr" = some (.builtin "repr") := by decide +kernel) (he : starEach (e :: []) X.env = (false, eval e X.env) :: starEach [] X.env := by rfl)
    (hpl : (backTo pos (starEach [] X.env)).any (·.1) = false := by rfl) : DE Φ X (.Call (.Name "repr" p) [e] [] pos) (ownM T strR reprN f) :=
  PE.imp (pe_callBS ((own_repr S cc hj).or (call_reprN SM hgd cc.rm.units)) hg hm hv (pa_cons ha pa_nil he) (by decide) (by decide) he hpl) fun σ H Q ⟨ρ, μ, C, os, R, z⟩ => ⟨ρ, μ, C, os, R, PostE.bnd z fun d ρ1 μ1 v H1 C1 os1 R1 S1 q1 z1 => by
    show _ ∨ _
    cases e0 : insOf d μ1 with
    | none =>
      simp only [e0] at z1
      obtain ⟨d', e, k⟩ := lift_ok R1 z1
      unfold reprN at e
      cases e2 : toN d with
      | none => simp only [e2] at e; cases e
      | some p =>
        simp only [e2] at e
        split at e
        · rename_i hc
          simp only [Bool.and_eq_true, decide_eq_true_eq] at hc
          cases e
          exact .inr ⟨rc Φ X C1 os1 H1, v, d, p, rfl, rfl, rfl, q1, e2, hc.1.1, by rw [line_eq]; exact hc.1.2, hc.2, k _ _ (Grow.refl _) (.str _)⟩
        · cases e
    | some r =>
      obtain ⟨c, ns, vs⟩ := r
      simp only [e0] at z1
      cases e1 : T.lookup c with
      | none => simp only [e1] at z1; exact z1.elim
      | some G =>
        simp only [e1] at z1
        obtain ⟨a, rfl, b⟩ := ins_at R1 q1 e0
        obtain ⟨Cc, dx, fs, h1, h2, h3, h4⟩ := b
        exact .inl ⟨c, G, Cc, a, dx, fs, e1, h2, rfl, h1, spc_str R1 q1 z1⟩⟩
end
theorem reprN_fits {d : D} {p : PyData} (h : toN d = some p) (h1 : p.showable = true) (h2 : p.leavesShort 64 = true) (h3 : p.weight ≤ 200000) (h4 : p.depth ≤ 60) : reprN d = some (.str p.shown) := by
  have z := PyData.shown_le 64 (by decide) p h2
  have z2 : p.shown.length ≤ lineN := by
    refine Nat.le_trans z ?_
    show _ ≤ 16777216
    omega
  unfold reprN
  rw [h]
  simp only [h1, decide_eq_true z2, decide_eq_true h4, Bool.and_self, if_true]
/-- the law's def on a script -/
theorem law_atM {P : Program} {w : World} {K : PySem.W.Frag} {mg mb : Str → Option Value} {fa a : Addr} {fd : FuncData} {x : Str} {G : Fn} {s₁ : Shared} {vs : List Value} {ns : List Int}
    (KX : K.In s₁.heap) (hns : s₁.heap.Ns mainGlobals mg) (hb : s₁.heap.Ns builtinsNs mb) (hbb : ∀ x : Str, x ≠ "__name__" → mb x = bootBuiltins x) (lim : s₁.heap.NoLimit) (hg : s₁.gens = #[])
    (ha : s₁.heap.get? a = some { cls := .type "list", data := .seq vs.toArray }) (hi : IntsAre vs ns) (hl : ns.length ≤ sizeLine)
    (hsm : SysM s₁.heap) (F : ∀ base : Heap, K.In base → base.Ns mainGlobals mg → SysM base → RunAt P w K mg base callerA fa fd [x] (spD K mg G)) (bnds : ∀ (s : Shared) (u : Value), BindsTo s fd ⟨[u], []⟩ [(x, u)])
    (ans : ∃ μ, G [.frz (ns.map D.int)] [] = .ok (.bl true) μ) :
    codeAny (model P w) callerA (.call (.ref fa) ⟨[.ref a], []⟩) (fun r s' => r = .ok (.ret (.bool true)) ∧ OldK s₁.heap s'.heap ∧ s'.os = s₁.os ∧ AllBare s'.gens) s₁ := by
  have rv := vals_ints hi
  have go : ∀ H : Hp, (∀ b, H b = none ∨ (b = a ∧ H b = some (.frz { cls := .type "list", data := .seq vs.toArray } (.lst (ns.map V.int))))) → SqL K H a (ns.map V.int) → HOk P w H s₁.heap → (H a ≠ none → K.lookup a = none) →
      codeAny (model P w) callerA (.call (.ref fa) ⟨[.ref a], []⟩) (fun r s' => r = .ok (.ret (.bool true)) ∧ OldK s₁.heap s'.heap ∧ s'.os = s₁.os ∧ AllBare s'.gens) s₁ := by
    intro H only hS hok hK
    have isA : ∀ {b o}, H b = some o → b = a := fun {b o} e => by
      rcases only b with z | z
      · rw [z] at e; cases e
      · exact z.1
    have keep : ∀ {b o}, s₁.heap.get? b = some o → H b = none → (hidT s₁.heap H).get? b = some o := fun e n => hidT_get e n
    have seqA : ∀ {b o}, s₁.heap.get? b = some o → H b ≠ none → o = { cls := .type "list", data := .seq vs.toArray } := fun {b o} e n => by
      cases q : H b with
      | none => exact (n q).elim
      | some u =>
        rw [isA q, ha] at e
        exact (Option.some.inj e).symm
    have hidK : K.In (hidT s₁.heap H) := fun b o e => keep (KX b o e) (Classical.byContradiction fun n => by
      cases q : H b with
      | none => exact n q
      | some u =>
        have eb := isA q
        rw [eb] at e n
        rw [hK n] at e; cases e)
    have hidN : ∀ {b : Addr} {m : Str → Option Value}, s₁.heap.Ns b m → (hidT s₁.heap H).Ns b m := fun {b m} ⟨o, es, ep, e, d, r⟩ => ⟨o, es, ep, keep e (Classical.byContradiction fun n => by
      rw [seqA e n] at d
      cases d), d, r⟩
    have M : Mod K mg (hidT s₁.heap H) := ⟨hidK, hidN hns, ⟨mb, hidN hb, hbb⟩, let ⟨mc, h1, h2⟩ := lim; ⟨mc, hidN h1, h2⟩⟩
    have e0 : Env0 P w K mg (hidT s₁.heap H) callerA [] s₁ H := ⟨rfl, M, fun b o e => of_hidT e, Nat.le_of_eq (hidT_size _ _), trivial, fun b hb => (by cases hb), hok, .of_eq hg⟩
    have sp : spD K mg G [.ref a] H (fun v _ => v = .bl true) fun _ _ _ => False := by
      obtain ⟨μ, e⟩ := ans
      refine ⟨[.frz (ns.map D.int)], [], fun _ => False, [], ⟨.cons (.frz ?_ (ints_repD ns)) .nil, ⟨rfl, fun n a c h => (by cases h)⟩, List.nodup_nil, fun a h => (by cases h), fun a h => h.elim⟩, ?_⟩
      · rcases hS with h | h
        · exact .inl ⟨fun z => z, h⟩
        · exact .inr (.inr h)
      · rw [e]
        intro v H' C' _ q
        cases q
        rfl
    refine codeAny_mono (F _ hidK (hidN hns) (let ⟨o, es, ep, e, d⟩ := hsm; ⟨o, es, ep, keep e (Classical.byContradiction fun n => by
      rw [seqA e n] at d
      cases d), d⟩) [] s₁ H ⟨[.ref a], []⟩ [.ref a] [.ref a] _ _ e0 (bnds s₁ (.ref a)) (.cons rfl .nil) sp) fun r s' h => ?_
    cases r with
    | error e =>
      obtain ⟨_, _, _, _, _, _, _, _, _, _, _, _, z⟩ := h
      exact z.elim
    | ok fl =>
      cases fl with
      | next => exact h.elim
      | brk => exact h.elim
      | cont => exact h.elim
      | ret u =>
        obtain ⟨v, H', os, bare, un, hok', r', q⟩ := h
        cases (show v = .bl true from q)
        cases (show u = Value.bool true from r')
        refine ⟨rfl, OldK.of_keep fun b o e => ?_, os, bare⟩
        rcases only b with n | ⟨eb, n⟩
        · exact un.keep b o e n (by intro z; cases z) (by simp)
        · obtain ⟨e1, _⟩ := hok b _ n
          obtain ⟨e2, _⟩ := hok' b _ (un.frzs b _ _ n)
          rw [e] at e1; cases e1
          exact e2
  cases hk : K.lookup a with
  | some o =>
    have e := KX a o hk
    rw [ha] at e
    cases e
    exact go (fun _ => none) (fun _ => .inl rfl) (.inr ⟨_, vs.toArray, _, hk, rfl, rfl, rfl, by rw [List.size_toArray, hi.length]; exact hl, by simpa using rv⟩) (fun b u z => nomatch (show (none : Option HO) = some u from z)) fun z => (z rfl).elim
  | none =>
    refine go (fun b => if b = a then some (.frz { cls := .type "list", data := .seq vs.toArray } (.lst (ns.map V.int))) else none) (fun b => ?_) (.inl (.inr ⟨_, if_pos rfl⟩)) (fun b u z => ?_) fun _ => hk
    · by_cases h : b = a
      · exact .inr ⟨h, if_pos h⟩
      · exact .inl (if_neg h)
    · by_cases h : b = a
      · have z := (if_pos h).symm.trans z
        cases z
        subst h
        exact ⟨ha, by rw [List.length_map]; exact hl, vs, _, rv, ha⟩
      · have z := (if_neg h).symm.trans z
        cases z
/-- the goal behind the head -/
theorem walk_M {l : PySem.W.OpenLaw} {n : Nat} {q : Program} {loose : List Str} {XP : (Str → Option Value) → Heap → Prop} {YP : World → Heap → Prop} {d : DefRec} {K : Params → PySem.W.Frag} {G : Fn} {x : Str} (hn : l.most = some n) (hn2 : n ≤ sizeLine) (hdf : d.params.defaults = []) (hin : importsNone q = true)
    (hY : ∀ (w : World) (h : Heap), YP w h → (K w.params).In h)
    (F : ∀ (w : World) (mg : Str → Option Value) (fa : Addr) (h : Heap), (K w.params).In h → h.Ns mainGlobals mg → mg d.name = some (.ref fa) →
      ∃ fd : FuncData, (∀ (s : Shared) (u : Value), BindsTo s fd ⟨[u], []⟩ [(x, u)]) ∧ ∀ base : Heap, (K w.params).In base → base.Ns mainGlobals mg → SysM base → RunAt l.prog w (K w.params) mg base callerA fa fd [x] (spD (K w.params) mg G))
    (ans : ∀ ns : List Int, ns.length ≤ n → ∃ μ, G [.frz (ns.map D.int)] [] = .ok (.bl true) μ) : PySem.W.WalkO q loose XP YP l.row.toRowW d [] (fun f vs => PySem.call f vs) := by
  refine Att.attach_call hn hdf fun w s₀ s₁ mg mb fa o pm cd doc a vs ns G' Y ho hd hcd hmg hobj hints hlen hg => ?_
  have KX := hY w _ Y
  obtain ⟨fd, hb, hF⟩ := F w mg fa _ KX G'.T.g hmg
  exact law_atM KX G'.T.g G'.T.b G'.T.builtins G'.T.nolimit hg hobj hints (Nat.le_trans hlen hn2) (let ⟨_, ⟨o, es, ep, e, d, _⟩, _⟩ := (G'.T.seer hin).mods; ⟨o, es, ep, e, d⟩) hF hb (ans ns hlen)
end L2.DL

/-! PL1: what a mirror leads to, backward: Wp; loops and comprehensions by what holds at each turn. -/
namespace L2.DL
open PySem PySem.Spec
def Wp {α : Type} (o : O α) (Q : α → Env → Sto → Prop) : Prop := match o with
  | .ok a ρ μ => Q a ρ μ
  | _ => False
/-- a def's answer that is a value -/
def Rw (r : R) (Q : D → Sto → Prop) : Prop := match r with
  | .ok d μ => Q d μ
  | _ => False
section
variable {α β : Type} {ρ : Env} {μ : Sto} {a : α}
theorem Wp_ok {Q : α → Env → Sto → Prop} : Wp (.ok a ρ μ) Q = Q a ρ μ := rfl
theorem Wp.mono {o : O α} {Q Q' : α → Env → Sto → Prop} (h : Wp o Q) (i : ∀ a ρ μ, Q a ρ μ → Q' a ρ μ) : Wp o Q' := by
  cases o with
  | ok a ρ μ => exact i _ _ _ h
  | _ => exact h.elim
theorem Wp.ex {o : O α} {Q : α → Env → Sto → Prop} (h : Wp o Q) : ∃ a ρ μ, o = .ok a ρ μ ∧ Q a ρ μ := by
  cases o with
  | ok a ρ μ => exact ⟨a, ρ, μ, rfl, h⟩
  | _ => exact h.elim
theorem Wp_bo {o : O α} {g : α → Mo β} {Q : β → Env → Sto → Prop} (h : Wp o fun a ρ μ => Wp (g a ρ μ) Q) : Wp (bo o g) Q := by
  cases o with
  | ok a ρ μ => exact h
  | _ => exact h.elim
/-- behind a statement -/
def nxt (g : Mo Fl) (Q : Fl → Env → Sto → Prop) : Fl → Env → Sto → Prop
  | .nx => fun ρ μ => Wp (g ρ μ) Q
  | fl => Q fl
theorem Wp_sq {o : O Fl} {g : Mo Fl} {Q : Fl → Env → Sto → Prop} (h : Wp o (nxt g Q)) : Wp (sq o g) Q := by
  cases o with
  | ok fl ρ μ => cases fl <;> exact h
  | _ => exact h.elim
theorem nxt_nx {g : Mo Fl} {Q : Fl → Env → Sto → Prop} : nxt g Q .nx ρ μ = Wp (g ρ μ) Q := rfl
theorem nxt_rt {g : Mo Fl} {Q : Fl → Env → Sto → Prop} {d : D} : nxt g Q (.rt d) ρ μ = Q (.rt d) ρ μ := rfl
theorem nxt_bk {g : Mo Fl} {Q : Fl → Env → Sto → Prop} : nxt g Q .bk ρ μ = Q .bk ρ μ := rfl
theorem nxt_ct {g : Mo Fl} {Q : Fl → Env → Sto → Prop} : nxt g Q .ct ρ μ = Q .ct ρ μ := rfl
/-- behind a turn -/
def trn (J : Env → Sto → Prop) (Q : Fl → Env → Sto → Prop) : Fl → Env → Sto → Prop
  | .nx => J
  | .ct => J
  | .bk => Q .nx
  | fl => Q fl
theorem trn_nx {J : Env → Sto → Prop} {Q : Fl → Env → Sto → Prop} : trn J Q .nx ρ μ = J ρ μ := rfl
theorem trn_ct {J : Env → Sto → Prop} {Q : Fl → Env → Sto → Prop} : trn J Q .ct ρ μ = J ρ μ := rfl
theorem trn_bk {J : Env → Sto → Prop} {Q : Fl → Env → Sto → Prop} : trn J Q .bk ρ μ = Q .nx ρ μ := rfl
theorem trn_rt {J : Env → Sto → Prop} {Q : Fl → Env → Sto → Prop} {d : D} : trn J Q (.rt d) ρ μ = Q (.rt d) ρ μ := rfl
theorem Wp_for {gt : D → Mo Unit} {body : Mo Fl} {Q : Fl → Env → Sto → Prop} : ∀ {ds : List D} {ρ : Env} {μ : Sto} (I : Nat → Env → Sto → Prop), I 0 ρ μ →
    (∀ (i : Nat) (d : D) (ρ : Env) (μ : Sto), ds[i]? = some d → I i ρ μ → Wp (bo (gt d ρ μ) fun _ => body) (trn (I (i + 1)) Q)) → (∀ ρ μ, I ds.length ρ μ → Q .nx ρ μ) → Wp (forL gt body ds ρ μ) Q
  | [], ρ, μ, I, h0, _, hf => hf ρ μ h0
  | d :: ds, ρ, μ, I, h0, hs, hf => by
    have h1 := hs 0 d ρ μ rfl h0
    rw [forL_cons]
    have key : ∀ (o : O Unit), Wp (bo o fun _ => body) (trn (I 1) Q) → Wp (bo o fun _ ρ μ => fo (body ρ μ) gt body ds) Q := fun o h => by
      cases o with
      | ok u ρ1 μ1 =>
        have h : Wp (body ρ1 μ1) (trn (I 1) Q) := h
        show Wp (fo (body ρ1 μ1) gt body ds) Q
        have ih : ∀ ρ μ, I 1 ρ μ → Wp (forL gt body ds ρ μ) Q := fun ρ μ h => Wp_for (fun i => I (i + 1)) h (fun i d ρ μ e z => hs (i + 1) d ρ μ (by rw [List.getElem?_cons_succ]; exact e) z) (fun ρ μ z => hf ρ μ (by rw [List.length_cons]; exact z))
        cases e : body ρ1 μ1 with
        | ok fl ρ2 μ2 =>
          rw [e] at h
          cases fl with
          | nx => exact ih _ _ h
          | ct => exact ih _ _ h
          | bk => exact h
          | rt d => exact h
          | ro d => exact h
        | ex c ns vs ρ2 μ2 => rw [e] at h; exact h.elim
        | no => rw [e] at h; exact h.elim
      | ex c ns vs ρ1 μ1 => exact h.elim
      | no => exact h.elim
    exact key _ h1
theorem Rw.ex {r : R} {Q : D → Sto → Prop} (h : Rw r Q) : ∃ d μ, r = .ok d μ ∧ Q d μ := by
  cases r with
  | ok d μ => exact ⟨d, μ, rfl, h⟩
  | _ => exact h.elim
/-- behind a def's body -/
def ends (Q : D → Sto → Prop) : Fl → Env → Sto → Prop
  | .nx => fun _ μ => Q .non μ
  | .rt d => fun _ μ => Q d μ
  | _ => fun _ _ => False
theorem ends_nx {Q : D → Sto → Prop} : ends Q .nx ρ μ = Q .non μ := rfl
theorem ends_rt {Q : D → Sto → Prop} {d : D} : ends Q (.rt d) ρ μ = Q d μ := rfl
theorem Rw_ri {o : O Fl} {Q : D → Sto → Prop} (h : Wp o (ends Q)) : Rw (ri o) Q := by
  cases o with
  | ok fl ρ μ => cases fl <;> exact h
  | _ => exact h.elim
theorem Rw_run {p n : Nat} {g : Mo Fl} {ds : List D} {Q : D → Sto → Prop} (hl : ds.length = p) (h : Wp (g (ds.map (fun d => some (Ent.sh d)) ++ List.replicate (n - ds.length) none) μ) (ends Q)) : Rw (runD p n g ds μ) Q := by
  rw [runD_ap hl]
  exact Rw_ri h
/-- a comprehension, turn by turn -/
theorem Wp_lcGo {own : List Nat} {gt : D → Mo Unit} {ft : Mo Bool} {fe : Mo D} {Q : List D → Env → Sto → Prop} : ∀ {ds acc : List D} {ρ : Env} {μ : Sto} (I : Nat → List D → Env → Sto → Prop), I 0 acc ρ μ → acc.length + ds.length < lineN →
    (∀ (i : Nat) (d : D) (acc : List D) (ρ : Env) (μ : Sto), ds[i]? = some d → I i acc ρ μ → Wp (bo (gt d ρ μ) fun _ => ft) fun b ρ2 μ2 => if b then Wp (fe ρ2 μ2) fun v ρ3 μ3 => I (i + 1) (acc ++ [v]) (wipD ρ3 own) μ3 else I (i + 1) acc (wipD ρ2 own) μ2) →
    (∀ acc ρ μ, I ds.length acc ρ μ → Q acc ρ μ) → Wp (lcGo own gt ft fe ds acc ρ μ) Q
  | [], acc, ρ, μ, I, h0, _, _, hf => hf acc ρ μ h0
  | d :: ds, acc, ρ, μ, I, h0, hl, hs, hf => by
    rw [List.length_cons] at hl
    have h1 := hs 0 d acc ρ μ rfl h0
    unfold lcGo
    have ih : ∀ acc' ρ μ, acc'.length ≤ acc.length + 1 → I 1 acc' ρ μ → Wp (lcGo own gt ft fe ds acc' ρ μ) Q := fun acc' ρ μ hk h => Wp_lcGo (fun i => I (i + 1)) h (by omega) (fun i d acc ρ μ e z => hs (i + 1) d acc ρ μ (by rw [List.getElem?_cons_succ]; exact e) z) (fun acc ρ μ z => hf acc ρ μ (by rw [List.length_cons]; exact z))
    cases e1 : gt d ρ μ with
    | ex c ns vs ρ1 μ1 => rw [e1] at h1; exact h1.elim
    | no => rw [e1] at h1; exact h1.elim
    | ok u ρ1 μ1 =>
      rw [e1] at h1
      have h1 : Wp (ft ρ1 μ1) _ := h1
      simp only
      cases e2 : ft ρ1 μ1 with
      | ex c ns vs ρ1 μ1 => rw [e2] at h1; exact h1.elim
      | no => rw [e2] at h1; exact h1.elim
      | ok b ρ2 μ2 =>
        rw [e2] at h1
        cases b with
        | false => exact ih _ _ _ (by omega) h1
        | true =>
          have h1 : Wp (fe ρ2 μ2) _ := h1
          simp only
          cases e3 : fe ρ2 μ2 with
          | ex c ns vs ρ1 μ1 => rw [e3] at h1; exact h1.elim
          | no => rw [e3] at h1; exact h1.elim
          | ok v ρ3 μ3 =>
            rw [e3] at h1
            simp only
            rw [if_pos (by omega)]
            exact ih _ _ _ (by rw [List.length_append, List.length_singleton] <;> omega) h1
/-- items one by one: kept those of t, made into f; nothing else changes -/
theorem lcGo_map {own : List Nat} {gt : D → Mo Unit} {ft : Mo Bool} {fe : Mo D} (t : D → Bool) (f : D → D) (ρ0 : Env) (μ : Sto) : ∀ (ds acc : List D), acc.length + ds.length < lineN →
    (∀ d ∈ ds, ∃ ρ1, gt d ρ0 μ = .ok () ρ1 μ ∧ ∃ ρ2, ft ρ1 μ = .ok (t d) ρ2 μ ∧ if t d then ∃ ρ3, fe ρ2 μ = .ok (f d) ρ3 μ ∧ wipD ρ3 own = ρ0 else wipD ρ2 own = ρ0) →
    lcGo own gt ft fe ds acc ρ0 μ = .ok (acc ++ (ds.filter t).map f) ρ0 μ
  | [], acc, _, _ => by
    show O.ok acc ρ0 μ = _
    rw [List.filter_nil, List.map_nil, List.append_nil]
  | d :: ds, acc, hl, h => by
    rw [List.length_cons] at hl
    obtain ⟨ρ1, e1, ρ2, e2, h3⟩ := h d List.mem_cons_self
    have hr : ∀ d ∈ ds, _ := fun d hd => h d (List.mem_cons_of_mem _ hd)
    unfold lcGo
    simp only [e1, e2]
    cases ht : t d with
    | false =>
      rw [ht] at h3
      have h3 : wipD ρ2 own = ρ0 := h3
      simp only
      rw [h3, lcGo_map t f ρ0 μ ds acc (by omega) hr, List.filter_cons_of_neg (by rw [ht]; decide)]
    | true =>
      rw [ht] at h3
      obtain ⟨ρ3, e3, e4⟩ := h3
      simp only [e3]
      rw [if_pos (by omega), e4, lcGo_map t f ρ0 μ ds (acc ++ [f d]) (by rw [List.length_append, List.length_singleton]; omega) hr, List.filter_cons_of_pos (by rw [ht]), List.map_cons, List.append_assoc]
      rfl
end
end L2.DL

/-! PL2: the later combinators reckoned; operators on values. -/
namespace L2.DL
open PySem PySem.Spec
section
variable {α β : Type} {ρ : Env} {μ : Sto} {f g : Mo D} {fa fk : Mo (List D)} {d : D} {i n m : Nat}
theorem isiM_ap {T : KT} {cs : List Str} {Ts : List Ty} : isiM T cs Ts f ρ μ = bo (f ρ μ) fun d ρ μ => match tyI cs d μ with
  | some t => lift ((isAny T t Ts).map D.bl) ρ μ
  | none => .no := bnd_ap
theorem kwD_ap {ix : List Nat} {dds : List D} : kwD n m ix dds fa fk ρ μ = bo (fa ρ μ) fun ds => bnd fk fun es => if ds.length = n ∧ es.length = m then ret (pick ix (ds ++ (es ++ dds))) else no := bnd_ap
def ni (r : RI) (c : Str) (ρ : Env) : O D := match r with
  | .ok ns vs μ' => .ok (.ins c ns vs) ρ μ'
  | .ex c ns vs μ' => .ex c ns vs ρ μ'
  | .no => .no
theorem newM_ap {c : Str} {G : FnI} : newM c G fa ρ μ = bo (fa ρ μ) fun ds ρ μ => ni (G ds μ) c ρ := by
  unfold newM
  rw [bnd_ap]
  rfl
theorem ni_ok {ns : List Str} {vs : List D} {c : Str} : ni (.ok ns vs μ) c ρ = .ok (.ins c ns vs) ρ μ := rfl
theorem ni_ex {ns : List Str} {vs : List D} {c c' : Str} : ni (.ex c' ns vs μ) c ρ = .ex c' ns vs ρ μ := rfl
theorem mthM_ap {c m : Str} {G : Fn} : mthM c m G f fa ρ μ = bo (f ρ μ) fun d ρ μ => match insOf d μ with
  | some (c', ns, _) => if c' = c ∧ m ∉ ns then calM G (bnd fa fun ds => ret (d :: ds)) ρ μ else .no
  | none => .no := bnd_ap
theorem ownM_ap {T : ST} {out : R → Env → O D} {h : D → Option D} : ownM T out h f ρ μ = bo (f ρ μ) fun d ρ μ => match insOf d μ with
  | some (c, _, _) => (match T.lookup c with
    | some G => out (G [d] μ) ρ
    | none => .no)
  | none => lift (h d) ρ μ := bnd_ap
theorem fldM_ap {T : FT} {x : Str} : fldM T x g ρ μ = bo (g ρ μ) fun d ρ μ => match insOf d μ with
  | some (c, ns, vs) => lift (fldOf T x c ns vs) ρ μ
  | none => .no := bnd_ap
theorem fldV_ap {T : FT} {x : Str} : fldV T x i ρ μ = match ρ[i]? with
  | some (some (.bd c ns vs)) => lift (fldOf T x c ns vs) ρ μ
  | some (some (.sh d)) => (match insOf d μ with
    | some (c, ns, vs) => lift (fldOf T x c ns vs) ρ μ
    | none => .no)
  | _ => .no := rfl
theorem satM_ap {T : FT} {x : Str} : satM T x i g ρ μ = bo (g ρ μ) fun d ρ μ => match ρ[i]? with
  | some (some (.bd c ns vs)) => if setOk T c x ns = true then .ok .nx (ρ.set i (some (.bd c (putD x d ns vs).1 (putD x d ns vs).2))) μ else .no
  | some (some (.sh (.cell n))) => (match μ[n]? with
    | some (.ins c ns vs) => if setOk T c x ns = true then .ok .nx ρ (μ.set n (.ins c (putD x d ns vs).1 (putD x d ns vs).2)) else .no
    | _ => .no)
  | _ => .no := bnd_ap
theorem asgM_ap {gt : D → Mo Unit} : asgM f gt ρ μ = bo (f ρ μ) fun d => bnd (gt d) fun _ => ret .nx := bnd_ap
theorem tupR3_ap : tupR3 fa ρ μ = bo (fa ρ μ) fun ds => lift ((rg3 ds).map D.tup) := bnd_ap
theorem jM_nil {acc : Str} : jM [] acc ρ μ = .ok (.str acc) ρ μ := rfl
theorem jM_cons {fs : List (Mo D)} {acc : Str} : jM (f :: fs) acc ρ μ = bo (f ρ μ) fun d => match d with
    | .str s => if (acc ++ s).length ≤ lineN then jM fs (acc ++ s) else no
    | _ => no := bnd_ap
theorem tgT2 {gs : List D → Mo Unit} {x y : D} : tgT 2 gs (.tup [x, y]) = gs [x, y] := rfl
theorem tgT3 {gs : List D → Mo Unit} {x y z : D} : tgT 3 gs (.tup [x, y, z]) = gs [x, y, z] := rfl
theorem tgCons_ap {gt : D → Mo Unit} {gs : List D → Mo Unit} {ds : List D} : tgCons gt gs (d :: ds) ρ μ = bo (gt d ρ μ) fun _ => gs ds := bnd_ap
theorem tgNil_ap : tgNil [] ρ μ = .ok () ρ μ := rfl
/-- a def's answer, where it is known -/
theorem ri_d {d : D} {e : Env} : ri (.ok (.rt d) e μ) = .ok d μ := rfl
end
/-! ### what data is -/
theorem seqA_l (ds : List D) : (seqD (.lst ds)).or (chrs (.lst ds)) = some ds := rfl
theorem seqA_t (ds : List D) : (seqD (.tup ds)).or (chrs (.tup ds)) = some ds := rfl
theorem seqA_f (ds : List D) : (seqD (.frz ds)).or (chrs (.frz ds)) = some ds := rfl
theorem seqA_s (s : Str) : (seqD (.str s)).or (chrs (.str s)) = some (s.cps.toList.map fun c => D.str ⟨#[c]⟩) := rfl
theorem mkT_ok {ds : List D} (h : ds.length ≤ 60) : mkT ds = some (.tup ds) := if_pos (Nat.le_trans h (by decide))
theorem mkL_ok {ds : List D} (h : ds.length ≤ 60) : mkL ds = some (.lst ds) := if_pos (Nat.le_trans h (by decide))
theorem add_ll {s t : List D} (h : s.length + t.length ≤ 1000000) : addD (.lst s) (.lst t) = some (.lst (s ++ t)) := by
  rw [addD_lst, if_pos (Nat.le_trans h (by decide))]
theorem add_tt {s t : List D} (h : s.length + t.length ≤ 1000000) : addD (.tup s) (.tup t) = some (.tup (s ++ t)) := by
  rw [addD_tup, if_pos (Nat.le_trans h (by decide))]
theorem add_ss {s t : Str} (h : s.length + t.length ≤ 1000000) : addD (.str s) (.str t) = some (.str (s ++ t)) := by
  rw [addD_str, if_pos (Nat.le_trans h (by decide))]
theorem any_int (k : Int) : ∀ ns : List Int, ((ns.map D.int).any fun d => eqF d (.int k)) = decide (k ∈ ns)
  | [] => by simp
  | n :: ns => by
    have ih := any_int k ns
    rw [List.map_cons, List.any_cons, ih]
    by_cases h : n = k
    · subst h
      simp [eqF]
    · have e : eqF (D.int n) (D.int k) = false := by
        show (n == k) = false
        simpa using h
      rw [e, Bool.false_or]
      have : (k ∈ n :: ns) ↔ k ∈ ns := by
        rw [List.mem_cons]
        exact ⟨fun z => z.elim (fun z => (h z.symm).elim) id, .inr⟩
      simp only [this]
theorem flat_ints (ns : List Int) : (ns.map D.int).all flatD = true := by
  rw [List.all_map, List.all_eq_true]
  exact fun _ _ => rfl
theorem in_ints (k : Int) (ns : List Int) : inD (.int k) (.tup (ns.map D.int)) = some (.bl (decide (k ∈ ns))) := by
  show (inL false (.int k) (ns.map D.int)).or _ = _
  have e : inL false (.int k) (ns.map D.int) = some (.bl (decide (k ∈ ns))) := by
    unfold inL
    rw [if_pos (by rw [flat_ints] <;> rfl), any_int]
    rfl
  rw [e] <;> rfl
theorem nin_ints (k : Int) (ns : List Int) : ninD (.int k) (.tup (ns.map D.int)) = some (.bl (!decide (k ∈ ns))) := by
  show (inL true (.int k) (ns.map D.int)).or _ = _
  have e : inL true (.int k) (ns.map D.int) = some (.bl (!decide (k ∈ ns))) := by
    unfold inL
    rw [if_pos (by rw [flat_ints] <;> rfl), any_int]
    rfl
  rw [e] <;> rfl
theorem in_intsL (k : Int) (ns : List Int) : inD (.int k) (.lst (ns.map D.int)) = some (.bl (decide (k ∈ ns))) := in_ints k ns
theorem nin_intsL (k : Int) (ns : List Int) : ninD (.int k) (.lst (ns.map D.int)) = some (.bl (!decide (k ∈ ns))) := nin_ints k ns
/-! ### sorted -/
theorem srt_l (ns : List Int) : sortedD (.lst (ns.map D.int)) = some (.lst ((srtI ns).map D.int)) := by
  show (intsOf (ns.map D.int)).map _ = _
  rw [intsOf_map] <;> rfl
end L2.DL

/-! PL3: comprehensions of one name, item by item; signs of texts. -/
namespace L2.DL
open PySem PySem.Spec
section
variable {γ : Type} {ρ : Env} {μ : Sto} {i : Nat} {ft : Mo Bool} {fe : Mo D}
theorem lcGo_one (g : γ → D) (t : γ → Bool) (f : γ → D) (ρ0 : Env) : ∀ (xs : List γ) (acc : List D), acc.length + xs.length < lineN →
    (∀ x ∈ xs, ft (ρ0.set i (some (.sh (g x)))) μ = .ok (t x) (ρ0.set i (some (.sh (g x)))) μ ∧ (t x = true → fe (ρ0.set i (some (.sh (g x)))) μ = .ok (f x) (ρ0.set i (some (.sh (g x)))) μ)) →
    lcGo [i] (tgN i) ft fe (xs.map g) acc (ρ0.set i none) μ = .ok (acc ++ (xs.filter t).map f) (ρ0.set i none) μ
  | [], acc, _, _ => by
    show O.ok acc _ μ = _
    rw [List.filter_nil, List.map_nil, List.append_nil]
  | x :: xs, acc, hl, h => by
    rw [List.length_cons] at hl
    obtain ⟨e2, e3⟩ := h x List.mem_cons_self
    have hr : ∀ x ∈ xs, _ := fun x hx => h x (List.mem_cons_of_mem _ hx)
    rw [List.map_cons]
    unfold lcGo
    have e1 : tgN i (g x) (ρ0.set i none) μ = .ok () (ρ0.set i (some (.sh (g x)))) μ := by rw [tgN_ap, List.set_set]
    have e5 : wipD (ρ0.set i (some (.sh (g x)))) [i] = ρ0.set i none := by show (ρ0.set i _).set i none = _; rw [List.set_set]
    simp only [e1, e2]
    cases ht : t x with
    | false =>
      simp only
      rw [e5, lcGo_one g t f ρ0 xs acc (by omega) hr, List.filter_cons_of_neg (by rw [ht]; decide)]
    | true =>
      simp only [e3 ht]
      rw [if_pos (by omega), e5, lcGo_one g t f ρ0 xs (acc ++ [f x]) (by rw [List.length_append, List.length_singleton]; omega) hr, List.filter_cons_of_pos (by rw [ht]), List.map_cons, List.append_assoc]
      rfl
theorem lc1 (g : γ → D) (t : γ → Bool) (f : γ → D) (xs : List γ) (hl : xs.length < lineN)
    (h : ∀ x ∈ xs, ft (ρ.set i (some (.sh (g x)))) μ = .ok (t x) (ρ.set i (some (.sh (g x)))) μ ∧ (t x = true → fe (ρ.set i (some (.sh (g x)))) μ = .ok (f x) (ρ.set i (some (.sh (g x)))) μ)) :
    lcAll [i] (tgN i) ft fe (xs.map g) ρ μ = .ok (.lst ((xs.filter t).map f)) (ρ.set i (shO ρ[i]?)) μ := by
  unfold lcAll
  have e0 : wipD ρ [i] = ρ.set i none := rfl
  rw [e0, lcGo_one g t f ρ xs [] (by rw [List.length_nil]; omega) h]
  show O.ok (D.lst ([] ++ _)) ((ρ.set i none).set i _) μ = _
  rw [List.set_set, List.nil_append]
/-- all items kept -/
theorem lcT (g : γ → D) (f : γ → D) (xs : List γ) (hl : xs.length < lineN) (h : ∀ x ∈ xs, fe (ρ.set i (some (.sh (g x)))) μ = .ok (f x) (ρ.set i (some (.sh (g x)))) μ) :
    lcAll [i] (tgN i) (ret true) fe (xs.map g) ρ μ = .ok (.lst (xs.map f)) (ρ.set i (shO ρ[i]?)) μ := by
  have e := lc1 (ρ := ρ) (μ := μ) (i := i) (ft := ret true) (fe := fe) g (fun _ => true) f xs hl (fun x hx => ⟨rfl, fun _ => h x hx⟩)
  rw [e, List.filter_eq_self.mpr (fun _ _ => rfl)]
end
/-! signs -/
theorem leA_c (a b : Nat) : leA (.str ⟨#[a]⟩) (.str ⟨#[b]⟩) = some (.bl (decide (a ≤ b))) := by
  show some (D.bl (!decide ([b] < [a]))) = _
  congr 2
  by_cases h : a ≤ b
  · rw [decide_eq_true h, decide_eq_false (by rw [List.cons_lt_cons_iff]; rintro (z | ⟨_, z⟩); omega; cases z)] <;> rfl
  · rw [decide_eq_false h, decide_eq_true (by rw [List.cons_lt_cons_iff]; exact .inl (by omega))] <;> rfl
theorem in_c (c : Nat) (z : Str) : inD (.str ⟨#[c]⟩) (.str z) = some (.bl (decide (c ∈ z.cps.toList))) := congrArg (fun b => some (D.bl b)) (PySem.StrLaws.found_one z c)
theorem nin_c (c : Nat) (z : Str) : ninD (.str ⟨#[c]⟩) (.str z) = some (.bl (!decide (c ∈ z.cps.toList))) := congrArg (fun b => some (D.bl (!b))) (PySem.StrLaws.found_one z c)
theorem all_bls {γ : Type} (f : γ → Bool) (xs : List γ) : allD (.lst (xs.map fun x => .bl (f x))) = some (.bl (xs.all f)) := by
  have h : ∀ xs : List γ, blsOf (xs.map fun x => D.bl (f x)) = some (xs.map f) := fun xs => by
    induction xs with
    | nil => rfl
    | cons x xs ih =>
      show (blsOf (xs.map fun x => D.bl (f x))).map (f x :: ·) = _
      rw [ih] <;> rfl
  show (blsOf _).map _ = _
  rw [h]
  show some (D.bl _) = _
  rw [List.all_map] <;> rfl
theorem len_s {s : Str} (h : s.length ≤ lineN) : lenD (.str s) = some (.int s.length) := if_pos h
theorem ix_s {s : Str} {c : Nat} {cs : List Nat} (h : s.length ≤ lineN) (e : s.cps.toList = c :: cs) : ixD (.str s) (.int 0) = some (.str ⟨#[c]⟩) := by
  show (if s.length ≤ lineN then (L2.atI s.cps.toList 0).map _ else none) = _
  rw [if_pos h, e]
  have q : L2.atI (c :: cs) 0 = some c := by
    unfold L2.atI L2.ixN
    rw [if_pos (Int.le_refl 0), if_pos (by rw [List.length_cons]; omega)]
    rfl
  rw [q] <;> rfl
theorem len_cps (s : Str) : s.cps.toList.length = s.length := by rw [Array.length_toList]; rfl
theorem eq_empty (s : Str) : eqQ (.str s) (.str "") = some (.bl (decide (s = ""))) := rfl
theorem str_nil {s : Str} : s = "" ↔ s.cps.toList = [] := by
  constructor
  · intro h; rw [h] <;> rfl
  · intro h
    obtain ⟨⟨l⟩⟩ := s
    have h : l = [] := h
    subst h
    rfl
end L2.DL

/-! PL4: == of flat lists and tuples with empty ones. -/
namespace L2.DL
open PySem PySem.Spec
def flatOk : D → Bool
  | .non | .bl _ | .int _ => true
  | .str s => PyData.strOk s
  | _ => false
theorem flat_dat : ∀ ds : List D, ds.all flatOk = true → areData ds = true ∧ PyData.canLayAll0 (toPs ds) = true ∧ PyData.depthAll (toPs ds) = 0
  | [], _ => ⟨rfl, rfl, rfl⟩
  | d :: ds, h => by
    rw [List.all_cons, Bool.and_eq_true] at h
    obtain ⟨h1, h2, h3⟩ := flat_dat ds h.2
    have e1 : areData (d :: ds) = (isData d && areData ds) := rfl
    have e2 : PyData.canLayAll0 (toPs (d :: ds)) = (PyData.canLay0 (toP d) && PyData.canLayAll0 (toPs ds)) := rfl
    have e3 : PyData.depthAll (toPs (d :: ds)) = max (PyData.depth (toP d)) (PyData.depthAll (toPs ds)) := rfl
    rw [e1, e2, e3, h1, h2, h3]
    cases d with
    | non => exact ⟨rfl, rfl, rfl⟩
    | bl b => exact ⟨rfl, rfl, rfl⟩
    | int i => exact ⟨rfl, rfl, rfl⟩
    | str s => exact ⟨rfl, by rw [Bool.and_true]; exact h.1, rfl⟩
    | _ => cases h.1
theorem shaped_l {ds : List D} (h : ds.all flatOk = true) : SeqAt.shaped (toP (.lst ds)) = true := by
  obtain ⟨_, h2, h3⟩ := flat_dat ds h
  show (PyData.canLayAll0 (toPs ds) && decide (PyData.depthAll (toPs ds) + 1 ≤ 64)) = true
  rw [h2, h3] <;> rfl
theorem shaped_t {ds : List D} (h : ds.all flatOk = true) : SeqAt.shaped (toP (.tup ds)) = true := by
  obtain ⟨_, h2, h3⟩ := flat_dat ds h
  show (PyData.canLayAll0 (toPs ds) && decide (PyData.depthAll (toPs ds) + 1 ≤ 64)) = true
  rw [h2, h3] <;> rfl
theorem dataEq_ln {ds : List D} (h : ds.all flatOk = true) : dataEq (.lst ds) (.lst []) = some ds.isEmpty := by
  have h1 : isData (.lst ds) = true := (flat_dat ds h).1
  unfold dataEq
  rw [h1, shaped_l h, show isData (.lst []) = true from rfl, show SeqAt.shaped (toP (.lst [])) = true from rfl]
  show some (PyData.eqvAll (toPs ds) []) = _
  cases ds <;> rfl
theorem dataEq_tn {ds : List D} (h : ds.all flatOk = true) : dataEq (.tup ds) (.tup []) = some ds.isEmpty := by
  have h1 : isData (.tup ds) = true := (flat_dat ds h).1
  unfold dataEq
  rw [h1, shaped_t h, show isData (.tup []) = true from rfl, show SeqAt.shaped (toP (.tup [])) = true from rfl]
  show some (PyData.eqvAll (toPs ds) []) = _
  cases ds <;> rfl
theorem eq_ln {ds : List D} (h : ds.all flatOk = true) : eqQ (.lst ds) (.lst []) = some (.bl ds.isEmpty) := by
  show ((none : Option D).or ((dataEq _ _).map D.bl)).or _ = _
  rw [dataEq_ln h] <;> rfl
theorem eq_tn {ds : List D} (h : ds.all flatOk = true) : eqQ (.tup ds) (.tup []) = some (.bl ds.isEmpty) := by
  show ((none : Option D).or ((dataEq _ _).map D.bl)).or _ = _
  rw [dataEq_tn h] <;> rfl
theorem ne_ln {ds : List D} (h : ds.all flatOk = true) : neD (.lst ds) (.lst []) = some (.bl (!ds.isEmpty)) := by
  show ((none : Option D).or ((dataEq _ _).map fun b => D.bl (!b))) = _
  rw [dataEq_ln h] <;> rfl
theorem ne_tn {ds : List D} (h : ds.all flatOk = true) : neD (.tup ds) (.tup []) = some (.bl (!ds.isEmpty)) := by
  show ((none : Option D).or ((dataEq _ _).map fun b => D.bl (!b))) = _
  rw [dataEq_tn h] <;> rfl
theorem flat_int (ns : List Int) : (ns.map D.int).all flatOk = true := by
  rw [List.all_map, List.all_eq_true]
  exact fun _ _ => rfl
theorem flat_sgn {cs : List Nat} (h : ∀ c ∈ cs, c < 0x110000) : (cs.map fun c => D.str ⟨#[c]⟩).all flatOk = true := by
  rw [List.all_map, List.all_eq_true]
  intro c hc
  show PyData.strOk ⟨#[c]⟩ = true
  have := h c hc
  simp [PyData.strOk, this]
theorem strOk_mem {s : Str} (h : PyData.strOk s = true) : ∀ c ∈ s.cps.toList, c < 0x110000 := by
  intro c hc
  unfold PyData.strOk at h
  rw [Array.all_eq_true_iff_forall_mem] at h
  simpa using h c (Array.mem_toList_iff.mp hc)
end L2.DL

/-! PL5: an own __init__, reckoned. -/
namespace L2.DL
open PySem PySem.Spec
def rin (c : Str) (o : O Fl) : RI := match o with
  | .ok .nx ρ' μ' => (match (ρ'[0]? : Option (Option Ent)) with
    | some (some (.bd c' ns vs)) => if c' = c then .ok ns vs μ' else .no
    | _ => .no)
  | .ok _ _ _ => .no
  | .ex c ns vs _ μ' => .ex c ns vs μ'
  | .no => .no
theorem runI_ap {c : Str} {p n : Nat} {g : Mo Fl} {ds : List D} {μ : Sto} (hl : ds.length + 1 = p) : runI c p n g ds μ = rin c (g (some (Ent.bd c [] []) :: (ds.map (fun d => some (Ent.sh d)) ++ List.replicate (n - (ds.length + 1)) none)) μ) := by
  unfold runI
  rw [if_pos hl]
  rfl
theorem rin_nx {c : Str} {ns : List Str} {vs : List D} {ρ : Env} {μ : Sto} : rin c (.ok .nx (some (.bd c ns vs) :: ρ) μ) = .ok ns vs μ := if_pos rfl
theorem rin_ex {c c' : Str} {ns : List Str} {vs : List D} {ρ : Env} {μ : Sto} : rin c (.ex c' ns vs ρ μ) = .ex c' ns vs μ := rfl
end L2.DL

namespace L2.DL.K02
open PySem PySem.Spec PyProof.Rows
def st (i : Nat) : Stmt := PySem.Challenge.pw_shapebetween_k02_keys_lots_and_names.main.body.getD i (.Pass ⟨0, 0, 0, 0⟩)
def L_UnknownKey : List (Str × Src) := [("code", .txt "UnknownKey"), ("key", .par 1)]
def L_InvalidLot : List (Str × Src) := [("code", .txt "InvalidLot"), ("value", .par 1)]
def L_InvalidMark : List (Str × Src) := [("code", .txt "InvalidMark"), ("value", .par 1)]
def subT : Sub := [(("UnknownKey", "UnknownKey"), true), (("InvalidLot", "UnknownKey"), false), (("InvalidMark", "UnknownKey"), false)]
def csT : List Str := ["UnknownKey", "InvalidLot", "InvalidMark"]
def fsT : List Str := ["code", "key"]
def ftT : FT := [("Row", ["lot", "coming", "going"])]
def ocT : List Str := ["Row"]
def ktT : KT := [((.o "Row", .b "bool"), false), ((.o "Row", .b "int"), false), ((.o "Row", .b "list"), false), ((.o "Row", .b "str"), false), ((.o "Row", .b "tuple"), false)]
abbrev N_lbag : List Str := ["_law_script", "_law_mixed", "_law_cell"]
def s_lbag : Stmt := st 19
def g_lbag : Mo Fl :=
    (seqM (setM 1 (cst (.int 12039)))
    (seqM (forM (walkA (slM (lett 0) noP (prt (cst (.int 63))))) (tgN 2) (setM 1 (op2 modD (op1 intD (op2 addD (op2 addD (op2 mulD (lett 1) (cst (.int 48271))) (op2 mulD (op2 modD (op1 intD (pek 2)) (cst (.int 1000639))) (cst (.int 883)))) (cst (.int 59)))) (cst (.int 2147483579)))))
    (rtF (lstM (acons (op1 listD (slM (lett 0) noP (prt (cst (.int 63))))) (acons (cst (.int 0)) (acons (cst (.int 0)) (acons (lett 1) (acons (cst (.int 0)) anil)))))))))
def G_lbag : Fn := runD 1 3 g_lbag
abbrev N_ldraw : List Str := ["_law_bag_here", "_law_top", "_law_seed", "_law_cell", "_law_digit"]
def s_ldraw : Stmt := st 20
def g_ldraw : Mo Fl :=
    (seqM (stiM 0 (op2 addD (op2v ixD 0 (cst (.int 4))) (cst (.int 1))) (cst (.int 4)))
    (seqM (ifS (andM (tst (op2 eqQ (op2v ixD 0 (cst (.int 2))) (cst (.int 0)))) (tst (op2 ltA (op2v ixD 0 (cst (.int 1))) (op1 lenD (op2v ixD 0 (cst (.int 0))))))) (seqM (setM 3 (op1 intD (op2 ixD (op2v ixD 0 (cst (.int 0))) (op2v ixD 0 (cst (.int 1))))))
    (seqM (stiM 0 (op2 addD (op2v ixD 0 (cst (.int 1))) (cst (.int 1))) (cst (.int 1)))
    (ifS (tst (op2 geD (op1 absD (pek 3)) (op2 powD (cst (.int 10)) (cst (.int 18))))) (stiM 0 (op1 absD (pek 3)) (cst (.int 2))) (stiM 0 (op2 modD (op1 intD (op2 addD (op2 addD (op2 mulD (op2v ixD 0 (cst (.int 3))) (cst (.int 43889))) (op2 mulD (op2 modD (op1 intD (pek 3)) (cst (.int 1000639))) (cst (.int 773)))) (cst (.int 31)))) (cst (.int 2147483587))) (cst (.int 3)))))) skp)
    (seqM (ifS (tst (op2 gtD (op2v ixD 0 (cst (.int 2))) (cst (.int 0)))) (seqM (setM 4 (op2 modD (op1 intD (op2v ixD 0 (cst (.int 2)))) (pek 1)))
    (seqM (stiM 0 (op2 fdivD (op2v ixD 0 (cst (.int 2))) (pek 1)) (cst (.int 2)))
    (rtM (lett 4)))) skp)
    (seqM (setM 2 (op1 intD (op2v ixD 0 (cst (.int 3)))))
    (seqM (stiM 0 (op2 modD (op1 intD (op2 addD (op2 addD (op2 addD (op2 powD (lett 2) (cst (.int 3))) (op2 mulD (lett 2) (cst (.int 47111)))) (op2 mulD (op2v ixD 0 (cst (.int 4))) (cst (.int 110323)))) (cst (.int 60089)))) (cst (.int 2147483549))) (cst (.int 3)))
    (rtM (op2 modD (op1 intD (op2 addD (op2 fdivD (op2v ixD 0 (cst (.int 3))) (cst (.int 71))) (op2 mulD (op2 modD (op1 intD (op2v ixD 0 (cst (.int 3)))) (cst (.int 8017))) (cst (.int 59))))) (pek 1))))))))
def G_ldraw : Fn := runD 2 5 g_ldraw
abbrev N_lof : List Str := ["_law_bag_here", "_law_some"]
def s_lof : Stmt := st 21
def g_lof : Mo Fl :=
    (rtM (op2v ixD 1 (calM G_ldraw (acons (lett 0) (acons (op1 lenD (pek 1)) anil)))))
def G_lof : Fn := runD 2 2 g_lof
abbrev N_lkeys : List Str := ["_law_bag_here", "_law_many", "_law_wide", "_law_low", "_law_found", "_law_n", "_law_d", "_law_turn"]
def s_lkeys : Stmt := st 23
def g_lkeys : Mo Fl :=
    (seqM (setM 2 (opN max2D (acons (cst (.int 1)) (acons (calM G_lof (acons (lett 0) (acons (lstM (acons (lett 1) (acons (op2 addD (lett 1) (cst (.int 2))) (acons (op2 addD (lett 1) (cst (.int 10))) (acons (cst (.int 1000)) (acons (cst (.int 1000)) anil)))))) anil))) anil))))
    (seqM (setM 3 (calM G_lof (acons (lett 0) (acons (lstM (acons (cst (.int 0)) (acons (op2 subD (cst (.int 1000)) (pek 2)) (acons (calM G_ldraw (acons (lett 0) (acons (op2 subD (cst (.int 1001)) (pek 2)) anil))) anil)))) anil))))
    (seqM (setF 4 (lstM anil))
    (seqM (forM (rngM1 (acons (lett 1) anil)) (tgN 5) (seqM (setM 6 (calM G_ldraw (acons (lett 0) (acons (lett 2) anil))))
    (seqM (forM (rngM1 (acons (lett 1) anil)) (tgN 7) (seqM (ifS (tst (op2 ninD (op2 addD (lett 3) (pek 6)) (pek 4))) (ret .bk) skp)
    (setM 6 (op2 modD (op1 intD (op2 addD (lett 6) (cst (.int 1)))) (pek 2)))))
    (apnM 4 (op2 addD (lett 3) (pek 6))))))
    (rtM (op1 tupleD (op1 sortedD (pek 4))))))))
def G_lkeys : Fn := runD 2 8 g_lkeys
abbrev N_lnumber : List Str := ["_law_bag_here"]
def s_lnumber : Stmt := st 30
def g_lnumber : Mo Fl :=
    (rtM (calM G_lof (acons (lett 0) (acons (lstM (acons (cst (.int 0)) (acons (cst (.int 1)) (acons (cst (.int 999)) (acons (cst (.int 1000)) (acons (op1 negD (cst (.int 1))) (acons (op1 negD (cst (.int 999))) (acons (op2 powD (cst (.int 10)) (cst (.int 39))) (acons (cst (.int 1001)) (acons (calM G_ldraw (acons (lett 0) (acons (cst (.int 1000)) anil))) (acons (op2 subD (calM G_ldraw (acons (lett 0) (acons (cst (.int 2000)) anil))) (cst (.int 500))) (acons (cst (.bl true)) (acons (cst (.bl false)) (acons (cst .non) (acons (cst (.str "7")) (acons (tupM (acons (cst (.int 7)) anil)) (acons (lstM (acons (cst (.int 7)) anil)) (acons newD (acons (tupM anil) anil))))))))))))))))))) anil))))
def G_lnumber : Fn := runD 1 1 g_lnumber
abbrev N_lword : List Str := ["_law_bag_here", "_law_signs", "_law_found", "_law_c", "_law_n"]
def s_lword : Stmt := st 29
def g_lword : Mo Fl :=
    (seqM (setM 1 (calM G_lof (acons (lett 0) (acons (lstM (acons (cst (.str "ab")) (acons (cst (.str "abz019")) (acons (cst (.str "self")) (acons (cst (.str "m0")) (acons (cst (.str "p0x12")) (acons (cst (.str "none9")) anil))))))) anil))))
    (seqM (setM 2 (op2 addD (calM G_lof (acons (lett 0) (acons (cst (.str "azmqx")) anil))) (met1 joinD (cst (.str "")) (lcM [4] (rngM1 (acons (calM G_lof (acons (lett 0) (acons (lstM (acons (cst (.int 0)) (acons (cst (.int 1)) (acons (cst (.int 2)) (acons (cst (.int 5)) (acons (cst (.int 10)) (acons (cst (.int 11)) (acons (cst (.int 12)) (acons (cst (.int 13)) anil))))))))) anil))) anil)) (tgN 4) (ret true) (calM G_lof (acons (lett 0) (acons (lett 1) anil)))))))
    (seqM (ifS (tst (op2 eqQ (calM G_ldraw (acons (lett 0) (acons (cst (.int 2)) anil))) (cst (.int 0)))) (seqM (parM 3 4 (acons (calM G_lof (acons (lett 0) (acons (lstM (acons (cst (.str "A")) (acons (cst (.str "Z")) (acons (cst (.str "_")) (acons (cst (.str " ")) (acons (cst (.str "-")) (acons (cst (.str "\n")) (acons (cst (.str ".")) (acons (cst (.str "{")) (acons (cst (.str "@")) (acons (cst (.str "[")) (acons (cst (.str "/")) (acons (cst (.str ":")) (acons (cst (.str "0")) (acons (cst (.str "")) (acons (cst (.str "9")) anil)))))))))))))))) anil))) (acons (calM G_ldraw (acons (lett 0) (acons (op1 lenD (pek 2)) anil))) anil)))
    (setM 2 (op2 addD (op2 addD (slM (lett 2) noP (prt (lett 4))) (pek 3)) (slM (lett 2) (prt (op2 addD (lett 4) (calM G_ldraw (acons (lett 0) (acons (cst (.int 2)) anil))))) noP)))) skp)
    (rtM (calM G_lof (acons (lett 0) (acons (lstM (acons (lett 2) (acons (lett 2) (acons (lett 2) (acons (cst (.str "")) (acons (slM (lett 2) (prt (cst (.int 1))) noP) (acons (tupM (acons (lett 2) anil)) (acons (lstM (acons (lett 2) anil)) (acons (cst (.str "self")) (acons (cst (.str "true")) (acons (cst (.str "1a")) anil))))))))))) anil)))))))
def G_lword : Fn := runD 1 5 g_lword
abbrev N_is_key : List Str := ["value"]
def s_is_key : Stmt := st 9
def g_is_key : Mo Fl :=
    (rtM (andV (isiM ktT ocT [.b "int"] (lett 0)) (andV (notV (isiM ktT ocT [.b "bool"] (lett 0))) (chn leA leA (cst (.int 0)) (lett 0) (cst (.int 999))))))
def G_is_key : Fn := runD 1 1 g_is_key
abbrev N_is_key_set : List Str := ["value", "before", "key"]
def s_is_key_set : Stmt := st 10
def g_is_key_set : Mo Fl :=
    (seqM (ifS (notM (tru (isiM ktT ocT [.b "tuple"] (lett 0)))) (rtM (cst (.bl false))) skp)
    (seqM (setM 1 (op1 negD (cst (.int 1))))
    (seqM (forM (walkA (lett 0)) (tgN 2) (seqM (ifS (orM (notM (tru (calM G_is_key (acons (lett 2) anil)))) (tst (op2 leA (lett 2) (pek 1)))) (rtM (cst (.bl false))) skp)
    (setM 1 (lett 2))))
    (rtM (cst (.bl true))))))
def G_is_key_set : Fn := runD 1 3 g_is_key_set
abbrev N_is_lot : List Str := ["value"]
def s_is_lot : Stmt := st 11
def g_is_lot : Mo Fl :=
    (rtM (andV (calM G_is_key_set (acons (lett 0) anil)) (op2 gtD (op1 lenD (pek 0)) (cst (.int 0)))))
def G_is_lot : Fn := runD 1 1 g_is_lot
abbrev N_Row_init : List Str := ["self", "lot", "coming", "going"]
def s_Row_init : Stmt := inClass (st 16) 0
def g_Row_init : Mo Fl :=
    (seqM (ifS (notM (tru (calM G_is_lot (acons (lett 1) anil)))) (raiM "InvalidLot" L_InvalidLot 1 (acons (lett 1) anil)) skp)
    (seqM (ifS (andM (tst (op2 (isND true) (lett 2) (cst .non))) (notM (andM (tru (calM G_is_key (acons (lett 2) anil))) (tst (op2 inD (lett 2) (pek 1)))))) (raiM "InvalidMark" L_InvalidMark 1 (acons (lett 2) anil)) skp)
    (seqM (ifS (andM (tst (op2 (isND true) (lett 3) (cst .non))) (notM (andM (tst (op2 (isND false) (lett 2) (cst .non))) (andM (tru (calM G_is_key (acons (lett 3) anil))) (tst (op2 inD (lett 3) (pek 1))))))) (raiM "InvalidMark" L_InvalidMark 1 (acons (lett 3) anil)) skp)
    (seqM (satM ftT "lot" 0 (lett 1))
    (seqM (satM ftT "coming" 0 (lett 2))
    (satM ftT "going" 0 (lett 3)))))))
def G_Row_init : FnI := runI "Row" 4 4 g_Row_init
abbrev N_ltuple : List Str := ["_law_bag_here", "_law_ks", "_law_odd_here", "_law_menu", "_law_n", "_law_p"]
def s_ltuple : Stmt := st 31
def g_ltuple : Mo Fl :=
    (seqM (setM 2 (calM G_lnumber (acons (lett 0) anil)))
    (seqM (ifS (tst (op2 eqQ (lett 1) (tupM anil))) (rtM (calM G_lof (acons (lett 0) (acons (lstM (acons (tupM anil) (acons (lstM anil) (acons (tupM (acons (lett 2) anil)) (acons (lstM (acons (lett 2) anil)) (acons (lett 2) (acons newD (acons (tupM (acons (tupM anil) anil)) anil)))))))) anil)))) skp)
    (seqM (parM 4 5 (acons (calM G_ldraw (acons (lett 0) (acons (op1 lenD (pek 1)) anil))) (acons (calM G_lof (acons (lett 0) (acons (lett 1) anil))) anil)))
    (seqM (setM 3 (lstM (acons (lett 1) (acons (lett 1) (acons (op2 addD (op2 addD (slM (lett 1) noP (prt (lett 4))) (tupM (acons (lett 2) anil))) (slM (lett 1) (prt (op2 addD (lett 4) (cst (.int 1)))) noP)) (acons (op2 addD (op2 addD (slM (lett 1) noP (prt (lett 4))) (tupM (acons (lett 2) anil))) (slM (lett 1) (prt (lett 4)) noP)) (acons (op2 addD (lett 1) (tupM (acons (lett 2) anil))) (acons (op2 addD (op2 addD (slM (lett 1) noP (prt (lett 4))) (tupM (acons (lett 5) anil))) (slM (lett 1) (prt (lett 4)) noP)) (acons (op2 addD (slM (lett 1) noP (prt (lett 4))) (slM (lett 1) (prt (op2 addD (lett 4) (cst (.int 1)))) noP)) anil)))))))))
    (seqM (setM 3 (op2 addD (lett 3) (lstM (acons (op1 revA (lett 1)) (acons (op1 listD (pek 1)) (acons (op2 addD (slM (lett 1) (prt (lett 4)) noP) (slM (lett 1) noP (prt (lett 4)))) (acons (op2 addD (lett 1) (pek 1)) (acons (tupM (acons (lett 1) anil)) (acons (op2 addD (op2 addD (slM (lett 1) noP (prt (lett 4))) (tupM (acons (op1 strD (pek 5)) anil))) (slM (lett 1) (prt (op2 addD (lett 4) (cst (.int 1)))) noP)) (acons (op2 addD (op2 addD (slM (lett 1) noP (prt (lett 4))) (tupM (acons (lstM (acons (lett 5) anil)) anil))) (slM (lett 1) (prt (op2 addD (lett 4) (cst (.int 1)))) noP)) (acons (dspM (((lett 5), (cst (.int 1))) :: [])) anil)))))))))))
    (rtM (calM G_lof (acons (lett 0) (acons (op2 addD (lett 3) (lstM (acons (op2 addD (op2 addD (slM (lett 1) noP (prt (lett 4))) (tupM (acons (cst (.bl true)) anil))) (slM (lett 1) (prt (op2 addD (lett 4) (cst (.int 1)))) noP)) (acons (op2 addD (op2 addD (slM (lett 1) noP (prt (lett 4))) (tupM (acons (cst .non) anil))) (slM (lett 1) (prt (op2 addD (lett 4) (cst (.int 1)))) noP)) (acons (newM "Row" G_Row_init (kwD 1 0 [0, 1, 2] [.non, .non] (acons (lett 1) anil) anil)) (acons (op1 strD (pek 5)) anil)))))) anil)))))))))
def G_ltuple : Fn := runD 2 6 g_ltuple
abbrev N_lis_name : List Str := ["_law_v", "_law_low", "_law_c"]
def s_lis_name : Stmt := st 28
def g_lis_name : Mo Fl :=
    (seqM (ifS (orM (notM (tru (isiM ktT ocT [.b "str"] (lett 0)))) (orM (tst (op2 eqQ (lett 0) (cst (.str "")))) (tst (op2 gtD (op1 lenD (pek 0)) (cst (.int 12)))))) (rtM (cst (.bl false))) skp)
    (seqM (setM 1 (cst (.str "abcdefghijklmnopqrstuvwxyz")))
    (rtM (andV (op2 inD (op2v ixD 0 (cst (.int 0))) (pek 1)) (op2 eqQ (lcM [2] (walkA (lett 0)) (tgN 2) (andM (tst (op2 ninD (lett 2) (pek 1))) (tst (op2 ninD (lett 2) (cst (.str "0123456789"))))) (lett 2)) (lstM anil))))))
def G_lis_name : Fn := runD 1 3 g_lis_name
abbrev N_lis_key : List Str := ["_law_v"]
def s_lis_key : Stmt := st 25
def g_lis_key : Mo Fl :=
    (rtM (andV (isiM ktT ocT [.b "int"] (lett 0)) (andV (notV (isiM ktT ocT [.b "bool"] (lett 0))) (chn leA leA (cst (.int 0)) (lett 0) (cst (.int 999))))))
def G_lis_key : Fn := runD 1 1 g_lis_key
abbrev N_lis_set : List Str := ["_law_v", "_law_n", "_law_p"]
def s_lis_set : Stmt := st 26
def g_lis_set : Mo Fl :=
    (seqM (ifS (orM (notM (tru (isiM ktT ocT [.b "tuple"] (lett 0)))) (notM (tru (op1 allD (lcM [2] (walkA (lett 0)) (tgN 2) (ret true) (calM G_lis_key (acons (lett 2) anil))))))) (rtM (cst (.bl false))) skp)
    (rtM (op1 allD (lcM [1] (rngM1 (acons (op2 subD (op1 lenD (pek 0)) (cst (.int 1))) anil)) (tgN 1) (ret true) (op2 ltA (op2v ixD 0 (lett 1)) (op2v ixD 0 (op2 addD (lett 1) (cst (.int 1)))))))))
def G_lis_set : Fn := runD 1 3 g_lis_set
abbrev N_Row_text : List Str := ["self", "words", "key"]
def s_Row_text : Stmt := inClass (st 16) 4
def g_Row_text : Mo Fl :=
    (seqM (setF 1 (lstM anil))
    (seqM (forM (walkA (fldV ftT "lot" 0)) (tgN 2) (ifS (tst (op2 eqQ (lett 2) (fldV ftT "coming" 0))) (apnM 1 (jM ((cst (.str "+")) :: ((op1 fmtD (lett 2)) :: [])) Str.empty)) (ifS (tst (op2 eqQ (lett 2) (fldV ftT "going" 0))) (apnM 1 (jM ((cst (.str "-")) :: ((op1 fmtD (lett 2)) :: [])) Str.empty)) (apnM 1 (op1 strD (pek 2))))))
    (rtM (met1 joinD (cst (.str " ")) (lett 1)))))
def G_Row_text : Fn := runD 1 3 g_Row_text
abbrev N_Row_repr : List Str := ["self"]
def s_Row_repr : Stmt := inClass (st 16) 11
def g_Row_repr : Mo Fl :=
    (rtM (jM ((cst (.str "Row(")) :: ((op1 fmtD (mthM "Row" "text" G_Row_text (lett 0) (kwD 0 0 [] [] anil anil))) :: ((cst (.str ")")) :: []))) Str.empty))
def G_Row_repr : Fn := runD 1 1 g_Row_repr
abbrev N_lsame : List Str := ["_law_found", "_law_due", "_law_p", "_law_q"]
def s_lsame : Stmt := st 22
def g_lsame (G : Fn) : Mo Fl :=
    (seqM (ifS (tru (isiM ktT ocT [.b "list", .b "tuple"] (lett 1))) (seqM (ifS (orM (tst (op2 neD (isiM ktT ocT [.b "list"] (lett 0)) (isiM ktT ocT [.b "list"] (lett 1)))) (tst (op2 neD (isiM ktT ocT [.b "tuple"] (lett 0)) (isiM ktT ocT [.b "tuple"] (lett 1))))) (rtM (cst (.bl false))) skp)
    (rtM (andV (op2 eqQ (op1 lenD (pek 0)) (op1 lenD (pek 1))) (op1 allD (lcM [2, 3] (zipM (acons (lett 0) (acons (lett 1) anil))) (tgT 2 (tgCons (tgN 2) (tgCons (tgN 3) tgNil))) (ret true) (calM G (acons (lett 2) (acons (lett 3) anil)))))))) skp)
    (seqM (ifS (tru (isiM ktT ocT [.b "list", .b "tuple"] (lett 0))) (rtM (cst (.bl false))) skp)
    (seqM (ifS (orM (tst (op2 (isND false) (lett 1) (cst .non))) (tst (op2 (isND false) (lett 0) (cst .non)))) (rtM (andV (op2 (isND false) (lett 1) (cst .non)) (op2 (isND false) (lett 0) (cst .non)))) skp)
    (seqM (ifS (orM (tru (isiM ktT ocT [.b "bool"] (lett 1))) (tru (isiM ktT ocT [.b "bool"] (lett 0)))) (rtM (andV (isiM ktT ocT [.b "bool"] (lett 1)) (andV (isiM ktT ocT [.b "bool"] (lett 0)) (op2 eqQ (lett 0) (pek 1))))) skp)
    (seqM (ifS (orM (tru (isiM ktT ocT [.b "int"] (lett 1))) (tru (isiM ktT ocT [.b "int"] (lett 0)))) (rtM (andV (isiM ktT ocT [.b "int"] (lett 1)) (andV (isiM ktT ocT [.b "int"] (lett 0)) (op2 eqQ (lett 0) (pek 1))))) skp)
    (seqM (ifS (orM (tru (isiM ktT ocT [.b "str"] (lett 1))) (tru (isiM ktT ocT [.b "str"] (lett 0)))) (rtM (andV (isiM ktT ocT [.b "str"] (lett 1)) (andV (isiM ktT ocT [.b "str"] (lett 0)) (op2 eqQ (lett 0) (pek 1))))) skp)
    (rtM (op2 eqQ (lett 0) (pek 1)))))))))
def GN_lsame : Nat → Fn
  | 0 => fun _ _ => .no
  | n + 1 => runD 2 4 (g_lsame (GN_lsame n))
abbrev G_lsame : Fn := GN_lsame 5
abbrev N_is_name : List Str := ["value", "sign"]
def s_is_name : Stmt := st 12
def g_is_name : Mo Fl :=
    (seqM (ifS (orM (notM (tru (isiM ktT ocT [.b "str"] (lett 0)))) (notM (tst (chn leA leA (cst (.int 1)) (op1 lenD (pek 0)) (cst (.int 12)))))) (rtM (cst (.bl false))) skp)
    (seqM (ifS (notM (tst (chn leA leA (cst (.str "a")) (op2v ixD 0 (cst (.int 0))) (cst (.str "z"))))) (rtM (cst (.bl false))) skp)
    (rtM (op1 allD (lcM [1] (walkA (lett 0)) (tgN 1) (ret true) (orV (chn leA leA (cst (.str "a")) (lett 1) (cst (.str "z"))) (chn leA leA (cst (.str "0")) (lett 1) (cst (.str "9")))))))))
def G_is_name : Fn := runD 1 2 g_is_name
abbrev N_ljudged : List Str := ["_law_v", "_law_named"]
def s_ljudged : Stmt := st 35
def g_ljudged : Mo Fl :=
    (seqM (ifS (tru (pek 1)) (rtM (lstM (acons (calM G_is_key (kwA 0 1 [0] anil (acons (lett 0) anil))) (acons (calM G_is_key_set (kwA 0 1 [0] anil (acons (lett 0) anil))) (acons (calM G_is_lot (kwA 0 1 [0] anil (acons (lett 0) anil))) (acons (calM G_is_name (kwA 0 1 [0] anil (acons (lett 0) anil))) anil)))))) skp)
    (rtM (lstM (acons (calM G_is_key (acons (lett 0) anil)) (acons (calM G_is_key_set (acons (lett 0) anil)) (acons (calM G_is_lot (acons (lett 0) anil)) (acons (calM G_is_name (acons (lett 0) anil)) anil)))))))
def G_ljudged : Fn := runD 2 2 g_ljudged
abbrev N_lstranger : List Str := ["_law_bag_here", "_law_ks", "_law_found", "_law_turn"]
def s_lstranger : Stmt := st 24
def g_lstranger : Mo Fl :=
    (seqM (setM 2 (calM G_lof (acons (lett 0) (acons (op2 addD (op1 listD (pek 1)) (lstM (acons (cst (.int 0)) (acons (cst (.int 999)) (acons (calM G_ldraw (acons (lett 0) (acons (cst (.int 1000)) anil))) anil))))) anil))))
    (seqM (forM (rngM1 (acons (op2 addD (op1 lenD (pek 1)) (cst (.int 1))) anil)) (tgN 3) (seqM (ifS (tst (op2 ninD (lett 2) (pek 1))) (ret .bk) skp)
    (setM 2 (op2 modD (op1 intD (op2 addD (lett 2) (cst (.int 1)))) (cst (.int 1000))))))
    (rtM (lett 2))))
def G_lstranger : Fn := runD 2 4 g_lstranger
abbrev N_lodd : List Str := ["_law_bag_here", "_law_ks", "_law_more", "_law_fresh", "_law_menu", "_law_near_here"]
def s_lodd : Stmt := st 27
def g_lodd : Mo Fl :=
    (seqM (setM 3 (calM G_lstranger (acons (lett 0) (acons (lett 1) anil))))
    (seqM (setM 4 (lstM (acons (cst .non) (acons (cst (.bl true)) (acons (cst (.bl false)) (acons (op1 negD (cst (.int 1))) (acons (cst (.int 1000)) (acons (op2 powD (cst (.int 10)) (cst (.int 39))) (acons (cst (.str "")) (acons (cst (.str "1")) (acons (op1 strD (pek 3)) (acons (lett 3) (acons (lett 3) (acons (tupM (acons (lett 3) anil)) (acons (lstM (acons (lett 3) anil)) (acons (tupM anil) (acons newD (acons (dspM (((lett 3), (cst (.int 1))) :: [])) anil))))))))))))))))))
    (seqM (ifS (tst (op2 neD (lett 1) (tupM anil))) (seqM (setM 5 (calM G_lof (acons (lett 0) (acons (lett 1) anil))))
    (setM 4 (op2 addD (lett 4) (lstM (acons (op1 strD (pek 5)) (acons (tupM (acons (lett 5) anil)) (acons (lstM (acons (lett 5) anil)) (acons (op2 subD (op1 negD (cst (.int 1))) (pek 5)) (acons (op2 addD (lett 5) (cst (.int 1000))) (acons (lstM (acons (lett 1) anil)) (acons (lett 1) anil))))))))))) skp)
    (rtM (calM G_lof (acons (lett 0) (acons (op2 addD (lett 4) (pek 2)) anil)))))))
def G_lodd : Fn := runD 3 6 g_lodd
abbrev N_lstretch_due : List Str := ["_law_ks", "_law_p", "_law_q", "_law_v", "_law_k"]
def s_lstretch_due : Stmt := st 33
def g_lstretch_due : Mo Fl :=
    (seqM (forM (walkA (lstM (acons (lett 1) (acons (lett 2) anil)))) (tgN 3) (ifS (orM (notM (tru (calM G_lis_key (acons (lett 3) anil)))) (tst (op2 ninD (lett 3) (pek 0)))) (rtM (tupM (acons (cst (.str "UnknownKey")) (acons (lett 3) anil)))) skp))
    (rtM (tupM (acons (cst (.str "told")) (acons (op1 tupleD (lcM [4] (walkA (lett 0)) (tgN 4) (orM (andM (tst (op2 leA (lett 1) (pek 4))) (tst (op2 leA (lett 4) (pek 2)))) (andM (tst (op2 leA (lett 2) (pek 4))) (tst (op2 leA (lett 4) (pek 1))))) (lett 4))) anil)))))
def G_lstretch_due : Fn := runD 3 5 g_lstretch_due
abbrev N_stretch_between : List Str := ["living", "one", "other", "key", "least", "greatest"]
def s_stretch_between : Stmt := st 13
def g_stretch_between : Mo Fl :=
    (seqM (forM (walkA (tupM (acons (lett 1) (acons (lett 2) anil)))) (tgN 3) (ifS (orM (notM (tru (calM G_is_key (acons (lett 3) anil)))) (tst (op2 ninD (lett 3) (pek 0)))) (raiM "UnknownKey" L_UnknownKey 1 (acons (lett 3) anil)) skp))
    (seqM (setM 4 (opN min2D (acons (lett 1) (acons (lett 2) anil))))
    (seqM (setM 5 (opN max2D (acons (lett 1) (acons (lett 2) anil))))
    (rtM (op1 tupleD (lcM [3] (walkA (lett 0)) (tgN 3) (tst (chn leA leA (lett 4) (lett 3) (lett 5))) (lett 3)))))))
def G_stretch_between : Fn := runD 3 6 g_stretch_between
abbrev N_lstretch : List Str := ["_law_ks", "_law_p", "_law_q", "_law_named", "e"]
def s_lstretch : Stmt := st 32
def g_lstretch : Mo Fl :=
    (tryM subT (rtM (tupM (acons (cst (.str "told")) (acons (ifM (tru (pek 3)) (calM G_stretch_between (kwA 0 3 [2, 1, 0] anil (acons (lett 2) (acons (lett 1) (acons (lett 0) anil))))) (calM G_stretch_between (acons (lett 0) (acons (lett 1) (acons (lett 2) anil))))) anil)))) (⟨"UnknownKey", some 4, (rtM (tupM (acons (exAt csT fsT 4 "code") (acons (exAt csT fsT 4 "key") anil))))⟩ :: []))
def G_lstretch : Fn := runD 4 5 g_lstretch
abbrev N_neighbours_of : List Str := ["living", "key", "lesser", "greater", "other"]
def s_neighbours_of : Stmt := st 14
def g_neighbours_of : Mo Fl :=
    (seqM (setM 2 (cst .non))
    (seqM (setM 3 (cst .non))
    (seqM (forM (walkA (lett 0)) (tgN 4) (ifS (tst (op2 ltA (lett 4) (pek 1))) (setM 2 (lett 4)) (ifS (andM (tst (op2 gtD (lett 4) (pek 1))) (tst (op2 (isND false) (lett 3) (cst .non)))) (setM 3 (lett 4)) skp)))
    (rtM (tupM (acons (lett 2) (acons (lett 3) anil)))))))
def G_neighbours_of : Fn := runD 2 5 g_neighbours_of
abbrev N_lnear : List Str := ["_law_ks", "_law_p", "_law_lower_y", "_law_upper_y", "_law_k"]
def s_lnear : Stmt := st 34
def g_lnear : Mo Fl :=
    (seqM (parM 2 3 (acons (lcM [4] (walkA (lett 0)) (tgN 4) (tst (op2 ltA (lett 4) (pek 1))) (lett 4)) (acons (lcM [4] (walkA (lett 0)) (tgN 4) (tst (op2 gtD (lett 4) (pek 1))) (lett 4)) anil)))
    (rtM (tupM (acons (ifM (tst (op2 neD (lett 2) (lstM anil))) (op2v ixD 2 (op1 negD (cst (.int 1)))) (cst .non)) (acons (ifM (tst (op2 neD (lett 3) (lstM anil))) (op2v ixD 3 (cst (.int 0))) (cst .non)) anil)))))
def G_lnear : Fn := runD 2 5 g_lnear
abbrev N_law : List Str := ["_law_script", "_law_bag_here", "_law_turn", "_law_long_y", "_law_bent", "_law_v", "_law_told", "_law_ks", "_law_n", "_law_p", "_law_due", "_law_kept", "_law_s", "_law_q", "_law_k", "_law_odd_here", "_law_worse", "_law_t"]
def s_law : Stmt := st 36
def g_law : Mo Fl :=
    (seqM (setF 1 (cawM G_lbag (acons (lett 0) anil)))
    (celM 1 (seqM (forM (rngM1 (acons (cst (.int 6)) anil)) (tgN 2) (seqM (setM 7 (calM G_lkeys (acons (lett 1) (acons (calM G_lof (acons (lett 1) (acons (lstM (acons (cst (.int 0)) (acons (cst (.int 1)) (acons (cst (.int 2)) (acons (cst (.int 3)) (acons (cst (.int 5)) (acons (cst (.int 8)) (acons (cst (.int 12)) (acons (cst (.int 13)) (acons (cst (.int 30)) (acons (cst (.int 60)) anil))))))))))) anil))) anil))))
    (seqM (forM (rngM1 (acons (cst (.int 3)) anil)) (tgN 8) (seqM (setM 5 (calM G_lof (acons (lett 1) (acons (lstM (acons (calM G_ltuple (acons (lett 1) (acons (lett 7) anil))) (acons (calM G_ltuple (acons (lett 1) (acons (lett 7) anil))) (acons (calM G_lword (acons (lett 1) anil)) (acons (calM G_lnumber (acons (lett 1) anil)) anil))))) anil))))
    (seqM (setM 10 (lstM (acons (calM G_lis_key (acons (lett 5) anil)) (acons (calM G_lis_set (acons (lett 5) anil)) (acons (andV (calM G_lis_set (acons (lett 5) anil)) (op2 gtD (op1 lenD (pek 5)) (cst (.int 0)))) (acons (calM G_lis_name (acons (lett 5) anil)) anil))))))
    (seqM (setM 11 (ownM [("Row", G_Row_repr)] strR reprN (lett 5)))
    (ifS (orM (notM (tru (calM G_lsame (acons (lstM (acons (calM G_ljudged (acons (lett 5) (acons (cst (.bl false)) anil))) (acons (calM G_ljudged (acons (lett 5) (acons (cst (.bl true)) anil))) anil))) (acons (lstM (acons (lett 10) (acons (lett 10) anil))) anil))))) (tst (op2 neD (ownM [("Row", G_Row_repr)] strR reprN (lett 5)) (pek 11)))) (rtM (cst (.bl false))) skp)))))
    (forM (rngM1 (acons (cst (.int 3)) anil)) (tgN 8) (seqM (parM3 9 13 14 (acons (calM G_lof (acons (lett 1) (acons (op2 addD (op1 listD (pek 7)) (lstM (acons (cst (.int 7)) anil))) anil))) (acons (calM G_lof (acons (lett 1) (acons (op2 addD (op1 listD (pek 7)) (lstM (acons (cst (.int 0)) anil))) anil))) (acons (calM G_lstranger (acons (lett 1) (acons (lett 7) anil))) anil))))
    (seqM (parM 15 16 (acons (calM G_lodd (acons (lett 1) (acons (lett 7) (acons (lstM (acons (lett 14) anil)) anil)))) (acons (calM G_lodd (acons (lett 1) (acons (slM (lett 7) noP (prt (cst (.int 1)))) (acons (lstM (acons (lstM (acons (lett 9) anil)) (acons (tupM (acons (lett 13) anil)) anil))) anil)))) anil)))
    (seqM (forM (walkA (lstM (acons (tupM (acons (lett 9) (acons (lett 13) anil))) (acons (tupM (acons (lett 13) (acons (lett 9) anil))) (acons (tupM (acons (lett 9) (acons (lett 9) anil))) (acons (tupM (acons (lett 9) (acons (lett 15) anil))) (acons (tupM (acons (lett 15) (acons (lett 13) anil))) (acons (tupM (acons (lett 15) (acons (lett 16) anil))) (acons (tupM (acons (lett 16) (acons (lett 15) anil))) (acons (tupM (acons (cst (.bl true)) (acons (lett 9) anil))) (acons (tupM (acons (lett 13) (acons (cst (.bl false)) anil))) anil))))))))))) (tgT 2 (tgCons (tgN 12) (tgCons (tgN 17) tgNil))) (ifS (notM (tru (calM G_lsame (acons (calM G_lstretch (acons (lett 7) (acons (lett 12) (acons (lett 17) (acons (op2 eqQ (lett 8) (cst (.int 1))) anil))))) (acons (calM G_lstretch_due (acons (lett 7) (acons (lett 12) (acons (lett 17) anil)))) anil))))) (rtM (cst (.bl false))) skp))
    (forM (walkA (lstM (acons (lett 9) (acons (lett 13) (acons (lett 14) (acons (calM G_ldraw (acons (lett 1) (acons (cst (.int 1000)) anil))) (acons (cst (.int 0)) (acons (cst (.int 999)) anil)))))))) (tgN 12) (seqM (setM 6 (ifM (tst (op2 eqQ (lett 8) (cst (.int 2)))) (calM G_neighbours_of (kwA 0 2 [1, 0] anil (acons (lett 12) (acons (lett 7) anil)))) (calM G_neighbours_of (acons (lett 7) (acons (lett 12) anil)))))
    (ifS (notM (tru (calM G_lsame (acons (lett 6) (acons (calM G_lnear (acons (lett 7) (acons (lett 12) anil))) anil))))) (rtM (cst (.bl false))) skp))))))))))
    (seqM (setM 3 (slM (tupR3 (acons (calM G_ldraw (acons (lett 1) (acons (cst (.int 600)) anil))) (acons (cst (.int 1000)) (acons (op2 addD (cst (.int 1)) (calM G_ldraw (acons (lett 1) (acons (cst (.int 3)) anil)))) anil)))) noP (prt (calM G_lof (acons (lett 1) (acons (lstM (acons (cst (.int 400)) (acons (cst (.int 399)) (acons (cst (.int 399)) (acons (cst (.int 400)) (acons (cst (.int 13)) anil)))))) anil))))))
    (seqM (parM 9 8 (acons (calM G_lof (acons (lett 1) (acons (lett 3) anil))) (acons (calM G_ldraw (acons (lett 1) (acons (op1 lenD (pek 3)) anil))) anil)))
    (seqM (setM 4 (op2 addD (op2 addD (slM (lett 3) noP (prt (lett 8))) (tupM (acons (calM G_lof (acons (lett 1) (acons (lstM (acons (cst (.bl true)) (acons (lett 9) (acons (cst (.int 1000)) (acons (op1 negD (cst (.int 1))) (acons (cst .non) (acons (cst (.str "3")) anil))))))) anil))) anil))) (slM (lett 3) (prt (op2 addD (lett 8) (cst (.int 1)))) noP)))
    (seqM (forM (walkA (lstM (acons (lett 3) (acons (lett 4) anil)))) (tgN 5) (ifS (notM (tru (calM G_lsame (acons (calM G_ljudged (acons (lett 5) (acons (cst (.bl false)) anil))) (acons (lstM (acons (cst (.bl false)) (acons (calM G_lis_set (acons (lett 5) anil)) (acons (calM G_lis_set (acons (lett 5) anil)) (acons (cst (.bl false)) anil))))) anil))))) (rtM (cst (.bl false))) skp))
    (seqM (setM 6 (lstM (acons (calM G_lstretch (acons (lett 3) (acons (lett 9) (acons (op2v ixD 3 (lett 8)) (acons (cst (.bl false)) anil))))) (acons (calM G_neighbours_of (acons (lett 3) (acons (lett 9) anil))) anil))))
    (rtM (calM G_lsame (acons (lett 6) (acons (lstM (acons (calM G_lstretch_due (acons (lett 3) (acons (lett 9) (acons (op2v ixD 3 (lett 8)) anil)))) (acons (calM G_lnear (acons (lett 3) (acons (lett 9) anil))) anil))) anil))))))))))))
def G_law : Fn := runD 1 18 g_law
/-- what the texts of the defs lean on -/
structure Tx (K : PySem.W.Frag) (mg : Str → Option Value) : Prop where
  b_abs : mg "abs" = none
  b_all : mg "all" = none
  b_bool : mg "bool" = none
  b_int : mg "int" = none
  b_isinstance : mg "isinstance" = none
  b_len : mg "len" = none
  b_list : mg "list" = none
  b_max : mg "max" = none
  b_min : mg "min" = none
  b_range : mg "range" = none
  b_repr : mg "repr" = none
  b_sorted : mg "sorted" = none
  b_str : mg "str" = none
  b_tuple : mg "tuple" = none
  b_zip : mg "zip" = none
  e_UnknownKey : ∃ C, mg "UnknownKey" = some (.ref C)
  ft : FtOk K mg ftT
  oc : OcOk K mg ocT
  kt : KtOk K mg ktT
  sub : SubOk K mg subT
  xft : XfT K mg csT fsT
variable {P : Program} {w : World} {K : PySem.W.Frag} {mg : Str → Option Value} {base : Heap}
def s_UnknownKey : Stmt := inClass (st 4) 0
theorem r_UnknownKey {C fI : Addr} {fd : FuncData} {B nw ini : String} {bm0 : List Value} (E : ErrG K mg "UnknownKey" "UnknownKey.__init__" s_UnknownKey C fI fd B nw ini bm0) (hno : ∀ p ∈ L_UnknownKey, PySem.W.findIn K (.ref C) p.1 = some none) : Erx P w K mg base "UnknownKey" 1 1 L_UnknownKey :=
  E.erx (N := ["self", "key"]) (ps := ["self", "key"]) ⟨rfl, rfl, rfl, by decide +kernel, rfl, by decide +kernel, by decide +kernel⟩ hno rfl (fun cdv A outer s H E => by exact (pssx_all (ps_x1 (src_txt)) (pssx_cons (ps_x1 (src_par 1)) pssx_nil))) (E.fn.binds fun _ _ _ _ _ _ us hl => match us, hl with | [_, _], _ => rfl)
def s_InvalidLot : Stmt := inClass (st 5) 0
theorem r_InvalidLot {C fI : Addr} {fd : FuncData} {B nw ini : String} {bm0 : List Value} (E : ErrG K mg "InvalidLot" "InvalidLot.__init__" s_InvalidLot C fI fd B nw ini bm0) (hno : ∀ p ∈ L_InvalidLot, PySem.W.findIn K (.ref C) p.1 = some none) : Erx P w K mg base "InvalidLot" 1 1 L_InvalidLot :=
  E.erx (N := ["self", "value"]) (ps := ["self", "value"]) ⟨rfl, rfl, rfl, by decide +kernel, rfl, by decide +kernel, by decide +kernel⟩ hno rfl (fun cdv A outer s H E => by exact (pssx_all (ps_x1 (src_txt)) (pssx_cons (ps_x1 (src_par 1)) pssx_nil))) (E.fn.binds fun _ _ _ _ _ _ us hl => match us, hl with | [_, _], _ => rfl)
def s_InvalidMark : Stmt := inClass (st 6) 0
theorem r_InvalidMark {C fI : Addr} {fd : FuncData} {B nw ini : String} {bm0 : List Value} (E : ErrG K mg "InvalidMark" "InvalidMark.__init__" s_InvalidMark C fI fd B nw ini bm0) (hno : ∀ p ∈ L_InvalidMark, PySem.W.findIn K (.ref C) p.1 = some none) : Erx P w K mg base "InvalidMark" 1 1 L_InvalidMark :=
  E.erx (N := ["self", "value"]) (ps := ["self", "value"]) ⟨rfl, rfl, rfl, by decide +kernel, rfl, by decide +kernel, by decide +kernel⟩ hno rfl (fun cdv A outer s H E => by exact (pssx_all (ps_x1 (src_txt)) (pssx_cons (ps_x1 (src_par 1)) pssx_nil))) (E.fn.binds fun _ _ _ _ _ _ us hl => match us, hl with | [_, _], _ => rfl)
end L2.DL.K02

namespace L2.DL.K02
open PySem PySem.Spec PyProof.Rows
variable {P : Program} {w : World} {K : PySem.W.Frag} {mg : Str → Option Value} {base : Heap}
theorem sc_lbag : FnScope N_lbag ["_law_script"] (defScope s_lbag) := ⟨rfl, rfl, rfl, by decide +kernel, rfl, by decide +kernel, by decide +kernel⟩
theorem ok_lbag {f : Addr} {fd : FuncData} (T : Tx K mg) (F : Fun K "_law_bag" "_law_bag" s_lbag f fd) : FnOk P w K mg base (L2.CX P w) 1 f fd ["_law_script"] (spD K mg G_lbag) :=
  Fun.okD (k := 0) F sc_lbag fun Φ cdv A outer s H E cn nM => by
    exact (dss_cons (ds_set (i := 1) cn.nd de_int)
    (dss_cons (ds_for cn (di_any (de_sl (de_var (i := 0)) do_none (do_some de_int))) (dg_name (i := 2) cn.nd) nx_name (dss_one (ds_set (i := 1) cn.nd (de_mod (de_int1 T.b_int (DE.wk (de_add (de_add (de_mul (de_var (i := 1)) (DE.wk de_int)) (DE.wk (de_mul (de_mod (de_int1 T.b_int (db_var (i := 2))) (DE.wk de_int)) (DE.wk de_int)))) (DE.wk de_int)))) (DE.wk de_int)))))
    (dss_one (ds_retF (i := 3) (df_lst (da_cons (de_list T.b_list (DE.wk (de_sl (de_var (i := 0)) do_none (do_some de_int)))) (da_cons de_int (da_cons de_int (da_cons (de_var (i := 1)) (da_cons de_int da_nil))))))))))
theorem sc_is_key_set : FnScope N_is_key_set ["value"] (defScope s_is_key_set) := ⟨rfl, rfl, rfl, by decide +kernel, rfl, by decide +kernel, by decide +kernel⟩
theorem ok_is_key_set {f : Addr} {fd : FuncData} (T : Tx K mg) (F : Fun K "is_key_set" "is_key_set" s_is_key_set f fd) (D_is_key : Dfn P w K mg base "is_key" 1 G_is_key) (D_is_key_k0 : DfK P w K mg base "is_key" 1 G_is_key 0 ["value"] [0]) : FnOk P w K mg base (L2.CX P w) 2 f fd ["value"] (spD K mg G_is_key_set) :=
  Fun.okD (k := 1) F sc_is_key_set fun Φ cdv A outer s H E cn nM => by
    exact (dss_cons (ds_if (dt_not (dt_truth (DE.wk (de_isI T.kt T.oc T.b_isinstance (de_var (i := 0)) (tye_b (s := "tuple") T.b_tuple))))) (dss_one (ds_ret de_bl)) dss_nil)
    (dss_cons (ds_set (i := 1) cn.nd (de_neg (DE.wk de_int)))
    (dss_cons (ds_for cn (di_any (de_var (i := 0))) (dg_name (i := 2) cn.nd) nx_name (dss_cons (ds_if (DW.dt (dw_or (dt_not (dt_truth (DE.wk (de_cal D_is_key cn.cc (da_cons (de_var (i := 2)) da_nil) (by rfl))))) (dw_or1 (dt_leA (de_var (i := 2)) (db_var (i := 1)))))) (dss_one (ds_ret de_bl)) dss_nil)
    (dss_one (ds_set (i := 1) cn.nd (de_var (i := 2))))))
    (dss_one (ds_ret de_bl)))))
theorem sc_lis_key : FnScope N_lis_key ["_law_v"] (defScope s_lis_key) := ⟨rfl, rfl, rfl, by decide +kernel, rfl, by decide +kernel, by decide +kernel⟩
theorem ok_lis_key {f : Addr} {fd : FuncData} (T : Tx K mg) (F : Fun K "_law_is_key" "_law_is_key" s_lis_key f fd) : FnOk P w K mg base (L2.CX P w) 1 f fd ["_law_v"] (spD K mg G_lis_key) :=
  Fun.okD (k := 0) F sc_lis_key fun Φ cdv A outer s H E cn nM => by
    exact (dss_one (ds_ret (de_and (de_isI T.kt T.oc T.b_isinstance (de_var (i := 0)) (tye_b (s := "int") T.b_int)) (de_and (de_not (de_isI T.kt T.oc T.b_isinstance (de_var (i := 0)) (tye_b (s := "bool") T.b_bool))) (de_one (de_chLL de_int (de_var (i := 0)) de_int))))))
theorem sc_Row_repr : FnScope N_Row_repr ["self"] (defScope s_Row_repr) := ⟨rfl, rfl, rfl, by decide +kernel, rfl, by decide +kernel, by decide +kernel⟩
theorem ok_Row_repr {f : Addr} {fd : FuncData} (T : Tx K mg) (F : Fun K "__repr__" "Row.__repr__" s_Row_repr f fd) (M_Row_text_0 : Mtd P w K mg base "Row" "text" 1 G_Row_text 0 [] [] []) : FnOk P w K mg base (L2.CX P w) 2 f fd ["self"] (spD K mg G_Row_repr) :=
  Fun.okD (k := 1) F sc_Row_repr fun Φ cdv A outer s H E cn nM => by
    exact (dss_one (ds_ret (de_js (dj_cons de_str (dj_cons (de_fmt (de_mtd M_Row_text_0 cn.cc (de_var (i := 0)) da_nil dk_nil)) (dj_cons de_str dj_nil))))))
theorem sc_ljudged : FnScope N_ljudged ["_law_v", "_law_named"] (defScope s_ljudged) := ⟨rfl, rfl, rfl, by decide +kernel, rfl, by decide +kernel, by decide +kernel⟩
theorem ok_ljudged {f : Addr} {fd : FuncData} (T : Tx K mg) (F : Fun K "_law_judged" "_law_judged" s_ljudged f fd) (D_is_name : Dfn P w K mg base "is_name" 1 G_is_name) (D_is_name_k0 : DfK P w K mg base "is_name" 1 G_is_name 0 ["value"] [0]) (D_is_lot : Dfn P w K mg base "is_lot" 3 G_is_lot) (D_is_lot_k0 : DfK P w K mg base "is_lot" 3 G_is_lot 0 ["value"] [0]) (D_is_key_set : Dfn P w K mg base "is_key_set" 2 G_is_key_set) (D_is_key_set_k0 : DfK P w K mg base "is_key_set" 2 G_is_key_set 0 ["value"] [0]) (D_is_key : Dfn P w K mg base "is_key" 1 G_is_key) (D_is_key_k0 : DfK P w K mg base "is_key" 1 G_is_key 0 ["value"] [0]) : FnOk P w K mg base (L2.CX P w) 4 f fd ["_law_v", "_law_named"] (spD K mg G_ljudged) :=
  Fun.okD (k := 3) F sc_ljudged fun Φ cdv A outer s H E cn nM => by
    exact (dss_cons (ds_if (dt_truth (db_var (i := 1))) (dss_one (ds_ret (de_lst (da_cons (de_callK D_is_key_k0 cn.cc da_nil (dk_cons (de_var (i := 0)) dk_nil) (by rfl)) (da_cons (de_callK D_is_key_set_k0 cn.cc da_nil (dk_cons (de_var (i := 0)) dk_nil) (by rfl)) (da_cons (de_callK D_is_lot_k0 cn.cc da_nil (dk_cons (de_var (i := 0)) dk_nil) (by rfl)) (da_cons (de_callK D_is_name_k0 cn.cc da_nil (dk_cons (de_var (i := 0)) dk_nil) (by rfl)) da_nil))))))) dss_nil)
    (dss_one (ds_ret (de_lst (da_cons (de_cal D_is_key cn.cc (da_cons (de_var (i := 0)) da_nil) (by rfl)) (da_cons (de_cal D_is_key_set cn.cc (da_cons (de_var (i := 0)) da_nil) (by rfl)) (da_cons (de_cal D_is_lot cn.cc (da_cons (de_var (i := 0)) da_nil) (by rfl)) (da_cons (de_cal D_is_name cn.cc (da_cons (de_var (i := 0)) da_nil) (by rfl)) da_nil))))))))
theorem sc_lstretch : FnScope N_lstretch ["_law_ks", "_law_p", "_law_q", "_law_named"] (defScope s_lstretch) := ⟨rfl, rfl, rfl, by decide +kernel, rfl, by decide +kernel, by decide +kernel⟩
theorem ok_lstretch {f : Addr} {fd : FuncData} (T : Tx K mg) (F : Fun K "_law_stretch" "_law_stretch" s_lstretch f fd) (D_stretch_between : Dfn P w K mg base "stretch_between" 3 G_stretch_between) (D_stretch_between_k0 : DfK P w K mg base "stretch_between" 3 G_stretch_between 0 ["other", "one", "living"] [2, 1, 0]) : FnOk P w K mg base (L2.CX P w) 4 f fd ["_law_ks", "_law_p", "_law_q", "_law_named"] (spD K mg G_lstretch) :=
  Fun.okD (k := 3) F sc_lstretch fun Φ cdv A outer s H E cn nM => by
    exact (dss_one (ds_try cn T.sub (fun W pn xe cn' => (dss_one (ds_ret (de_tup (da_cons de_str (da_cons (de_if (dt_truth (db_var (i := 3))) (de_callK D_stretch_between_k0 cn'.cc da_nil (dk_cons (de_var (i := 2)) (dk_cons (de_var (i := 1)) (dk_cons (de_var (i := 0)) dk_nil))) (by rfl)) (de_cal D_stretch_between cn'.cc (da_cons (de_var (i := 0)) (da_cons (de_var (i := 1)) (da_cons (de_var (i := 2)) da_nil))) (by rfl))) da_nil)))))) (.as (i := 4) (by rfl) T.e_UnknownKey (by decide) (by rfl) (by rfl) (fun a dx c o pn EH => (dss_one (ds_ret (de_tup (da_cons (de_exat (i := 4) EH T.xft) (da_cons (de_exat (i := 4) EH T.xft) da_nil)))))) .nil)))
end L2.DL.K02

namespace L2.DL.K02
open PySem PySem.Spec PyProof.Rows
variable {P : Program} {w : World} {K : PySem.W.Frag} {mg : Str → Option Value} {base : Heap}
theorem sc_ldraw : FnScope N_ldraw ["_law_bag_here", "_law_top"] (defScope s_ldraw) := ⟨rfl, rfl, rfl, by decide +kernel, rfl, by decide +kernel, by decide +kernel⟩
theorem ok_ldraw {f : Addr} {fd : FuncData} (T : Tx K mg) (F : Fun K "_law_draw" "_law_draw" s_ldraw f fd) : FnOk P w K mg base (L2.CX P w) 1 f fd ["_law_bag_here", "_law_top"] (spD K mg G_ldraw) :=
  Fun.okD (k := 0) F sc_ldraw fun Φ cdv A outer s H E cn nM => by
    exact (dss_cons (ds_sti (i := 0) (de_add (de_atv (i := 0) de_int) (DE.wk de_int)) de_int)
    (dss_cons (ds_if (DW.dt (dw_and (dt_eqQ cn.hu (de_atv (i := 0) de_int) (DE.wk de_int)) (dw_and1 (dt_lt (de_atv (i := 0) de_int) (DE.wk (de_len T.b_len (DE.wk (de_atv (i := 0) de_int)))))))) (dss_cons (ds_set (i := 3) cn.nd (de_int1 T.b_int (DE.wk (de_at (de_atv (i := 0) de_int) (de_atv (i := 0) de_int)))))
    (dss_cons (ds_sti (i := 0) (de_add (de_atv (i := 0) de_int) (DE.wk de_int)) de_int)
    (dss_one (ds_if (dt_ge (de_abs T.b_abs (db_var (i := 3))) (DE.wk (de_pow de_int (DE.wk de_int)))) (dss_one (ds_sti (i := 0) (de_abs T.b_abs (db_var (i := 3))) de_int)) (dss_one (ds_sti (i := 0) (de_mod (de_int1 T.b_int (DE.wk (de_add (de_add (de_mul (de_atv (i := 0) de_int) (DE.wk de_int)) (DE.wk (de_mul (de_mod (de_int1 T.b_int (db_var (i := 3))) (DE.wk de_int)) (DE.wk de_int)))) (DE.wk de_int)))) (DE.wk de_int)) de_int)))))) dss_nil)
    (dss_cons (ds_if (dt_gt (de_atv (i := 0) de_int) (DE.wk de_int)) (dss_cons (ds_set (i := 4) cn.nd (de_mod (de_int1 T.b_int (DE.wk (de_atv (i := 0) de_int))) (db_var (i := 1))))
    (dss_cons (ds_sti (i := 0) (de_fdiv (de_atv (i := 0) de_int) (db_var (i := 1))) de_int)
    (dss_one (ds_ret (de_var (i := 4)))))) dss_nil)
    (dss_cons (ds_set (i := 2) cn.nd (de_int1 T.b_int (DE.wk (de_atv (i := 0) de_int))))
    (dss_cons (ds_sti (i := 0) (de_mod (de_int1 T.b_int (DE.wk (de_add (de_add (de_add (de_pow (de_var (i := 2)) (DE.wk de_int)) (DE.wk (de_mul (de_var (i := 2)) (DE.wk de_int)))) (DE.wk (de_mul (de_atv (i := 0) de_int) (DE.wk de_int)))) (DE.wk de_int)))) (DE.wk de_int)) de_int)
    (dss_one (ds_ret (de_mod (de_int1 T.b_int (DE.wk (de_add (de_fdiv (de_atv (i := 0) de_int) (DE.wk de_int)) (DE.wk (de_mul (de_mod (de_int1 T.b_int (DE.wk (de_atv (i := 0) de_int))) (DE.wk de_int)) (DE.wk de_int)))))) (db_var (i := 1))))))))))
theorem sc_lis_set : FnScope N_lis_set ["_law_v"] (defScope s_lis_set) := ⟨rfl, rfl, rfl, by decide +kernel, rfl, by decide +kernel, by decide +kernel⟩
theorem ok_lis_set {f : Addr} {fd : FuncData} (T : Tx K mg) (F : Fun K "_law_is_set" "_law_is_set" s_lis_set f fd) (D_lis_key : Dfn P w K mg base "_law_is_key" 1 G_lis_key) : FnOk P w K mg base (L2.CX P w) 2 f fd ["_law_v"] (spD K mg G_lis_set) :=
  Fun.okD (k := 1) F sc_lis_set fun Φ cdv A outer s H E cn nM => by
    exact (dss_cons (ds_if (DW.dt (dw_or (dt_not (dt_truth (DE.wk (de_isI T.kt T.oc T.b_isinstance (de_var (i := 0)) (tye_b (s := "tuple") T.b_tuple))))) (dw_or1 (dt_not (dt_truth (DE.wk (de_all cn.calm T.b_all (DE.wk (de_lc (own := [("_law_p", 2)]) cn (blk_ok (N := N_lis_set) (sc := defScope s_lis_set) (by decide +kernel)) rfl (di_any (de_var (i := 0))) (fun _ _ _ _ _ => (dgp_name (i := 2) cn.nd)) (fun _ _ _ _ _ => dts_nil) (fun _ _ _ _ _ => (de_cal D_lis_key cn.blk (da_cons (de_var (i := 2)) da_nil) (by rfl)))))))))))) (dss_one (ds_ret de_bl)) dss_nil)
    (dss_one (ds_ret (de_all cn.calm T.b_all (DE.wk (de_lc (own := [("_law_n", 1)]) cn (blk_ok (N := N_lis_set) (sc := defScope s_lis_set) (by decide +kernel)) rfl (di_rng1 T.b_range (da_cons (de_sub (de_len T.b_len (db_var (i := 0))) (DE.wk de_int)) da_nil)) (fun _ _ _ _ _ => (dgp_name (i := 1) cn.nd)) (fun _ _ _ _ _ => dts_nil) (fun _ _ _ _ _ => (de_lt (de_atv (i := 0) (de_var (i := 1))) (DE.wk (de_atv (i := 0) (de_add (de_var (i := 1)) (DE.wk de_int))))))))))))
theorem sc_lstranger : FnScope N_lstranger ["_law_bag_here", "_law_ks"] (defScope s_lstranger) := ⟨rfl, rfl, rfl, by decide +kernel, rfl, by decide +kernel, by decide +kernel⟩
theorem ok_lstranger {f : Addr} {fd : FuncData} (T : Tx K mg) (F : Fun K "_law_stranger" "_law_stranger" s_lstranger f fd) (D_lof : Dfn P w K mg base "_law_of" 2 G_lof) (D_ldraw : Dfn P w K mg base "_law_draw" 1 G_ldraw) : FnOk P w K mg base (L2.CX P w) 3 f fd ["_law_bag_here", "_law_ks"] (spD K mg G_lstranger) :=
  Fun.okD (k := 2) F sc_lstranger fun Φ cdv A outer s H E cn nM => by
    exact (dss_cons (ds_set (i := 2) cn.nd (de_cal D_lof cn.cc (da_cons (de_var (i := 0)) (da_cons (de_add (de_list T.b_list (db_var (i := 1))) (DE.wk (de_lst (da_cons de_int (da_cons de_int (da_cons (de_cal D_ldraw cn.cc (da_cons (de_var (i := 0)) (da_cons de_int da_nil)) (by rfl)) da_nil)))))) da_nil)) (by rfl)))
    (dss_cons (ds_for cn (di_rng1 T.b_range (da_cons (de_add (de_len T.b_len (db_var (i := 1))) (DE.wk de_int)) da_nil)) (dg_name (i := 3) cn.nd) nx_name (dss_cons (ds_if (dt_nin (de_var (i := 2)) (db_var (i := 1))) (dss_one ds_break) dss_nil)
    (dss_one (ds_set (i := 2) cn.nd (de_mod (de_int1 T.b_int (DE.wk (de_add (de_var (i := 2)) (DE.wk de_int)))) (DE.wk de_int))))))
    (dss_one (ds_ret (de_var (i := 2))))))
theorem sc_stretch_between : FnScope N_stretch_between ["living", "one", "other"] (defScope s_stretch_between) := ⟨rfl, rfl, rfl, by decide +kernel, rfl, by decide +kernel, by decide +kernel⟩
theorem ok_stretch_between {f : Addr} {fd : FuncData} (T : Tx K mg) (F : Fun K "stretch_between" "stretch_between" s_stretch_between f fd) (D_is_key : Dfn P w K mg base "is_key" 1 G_is_key) (D_is_key_k0 : DfK P w K mg base "is_key" 1 G_is_key 0 ["value"] [0]) (R_UnknownKey : Erx P w K mg base "UnknownKey" 1 1 L_UnknownKey) : FnOk P w K mg base (L2.CX P w) 3 f fd ["living", "one", "other"] (spD K mg G_stretch_between) :=
  Fun.okD (k := 2) F sc_stretch_between fun Φ cdv A outer s H E cn nM => by
    exact (dss_cons (ds_for cn (di_any (de_tup (da_cons (de_var (i := 1)) (da_cons (de_var (i := 2)) da_nil)))) (dg_name (i := 3) cn.nd) nx_name (dss_one (ds_if (DW.dt (dw_or (dt_not (dt_truth (DE.wk (de_cal D_is_key cn.cc (da_cons (de_var (i := 3)) da_nil) (by rfl))))) (dw_or1 (dt_nin (de_var (i := 3)) (db_var (i := 0)))))) (dss_one (ds_raise (L := L_UnknownKey) (n := 1) R_UnknownKey cn (da_cons (de_var (i := 3)) da_nil) (by rfl))) dss_nil)))
    (dss_cons (ds_set (i := 4) cn.nd (de_min2 cn.calm T.b_min (da_cons (de_var (i := 1)) (da_cons (de_var (i := 2)) da_nil))))
    (dss_cons (ds_set (i := 5) cn.nd (de_max2 cn.calm T.b_max (da_cons (de_var (i := 1)) (da_cons (de_var (i := 2)) da_nil))))
    (dss_one (ds_ret (de_tuple T.b_tuple (DE.wk (de_lc (own := [("key", 3)]) cn (blk_ok (N := N_stretch_between) (sc := defScope s_stretch_between) (by decide +kernel)) rfl (di_any (de_var (i := 0))) (fun _ _ _ _ _ => (dgp_name (i := 3) cn.nd)) (fun _ _ _ _ _ => (dts_one (dt_chLL (de_var (i := 4)) (de_var (i := 3)) (de_var (i := 5))))) (fun _ _ _ _ _ => (de_var (i := 3)))))))))))
end L2.DL.K02

namespace L2.DL.K02
open PySem PySem.Spec PyProof.Rows
variable {P : Program} {w : World} {K : PySem.W.Frag} {mg : Str → Option Value} {base : Heap}
theorem sc_lof : FnScope N_lof ["_law_bag_here", "_law_some"] (defScope s_lof) := ⟨rfl, rfl, rfl, by decide +kernel, rfl, by decide +kernel, by decide +kernel⟩
theorem ok_lof {f : Addr} {fd : FuncData} (T : Tx K mg) (F : Fun K "_law_of" "_law_of" s_lof f fd) (D_ldraw : Dfn P w K mg base "_law_draw" 1 G_ldraw) : FnOk P w K mg base (L2.CX P w) 2 f fd ["_law_bag_here", "_law_some"] (spD K mg G_lof) :=
  Fun.okD (k := 1) F sc_lof fun Φ cdv A outer s H E cn nM => by
    exact (dss_one (ds_ret (de_atv (i := 1) (de_cal D_ldraw cn.cc (da_cons (de_var (i := 0)) (da_cons (de_len T.b_len (db_var (i := 1))) da_nil)) (by rfl)))))
theorem sc_is_key : FnScope N_is_key ["value"] (defScope s_is_key) := ⟨rfl, rfl, rfl, by decide +kernel, rfl, by decide +kernel, by decide +kernel⟩
theorem ok_is_key {f : Addr} {fd : FuncData} (T : Tx K mg) (F : Fun K "is_key" "is_key" s_is_key f fd) : FnOk P w K mg base (L2.CX P w) 1 f fd ["value"] (spD K mg G_is_key) :=
  Fun.okD (k := 0) F sc_is_key fun Φ cdv A outer s H E cn nM => by
    exact (dss_one (ds_ret (de_and (de_isI T.kt T.oc T.b_isinstance (de_var (i := 0)) (tye_b (s := "int") T.b_int)) (de_and (de_not (de_isI T.kt T.oc T.b_isinstance (de_var (i := 0)) (tye_b (s := "bool") T.b_bool))) (de_one (de_chLL de_int (de_var (i := 0)) de_int))))))
theorem sc_Row_init : FnScope N_Row_init ["self", "lot", "coming", "going"] (defScope s_Row_init) := ⟨rfl, rfl, rfl, by decide +kernel, rfl, by decide +kernel, by decide +kernel⟩
theorem ok_Row_init {f : Addr} {fd : FuncData} (T : Tx K mg) (F : Fun K "__init__" "Row.__init__" s_Row_init f fd) (D_is_lot : Dfn P w K mg base "is_lot" 3 G_is_lot) (D_is_lot_k0 : DfK P w K mg base "is_lot" 3 G_is_lot 0 ["value"] [0]) (D_is_key : Dfn P w K mg base "is_key" 1 G_is_key) (D_is_key_k0 : DfK P w K mg base "is_key" 1 G_is_key 0 ["value"] [0]) (R_InvalidLot : Erx P w K mg base "InvalidLot" 1 1 L_InvalidLot) (R_InvalidMark : Erx P w K mg base "InvalidMark" 1 1 L_InvalidMark) : FnOk P w K mg base (L2.CX P w) 4 f fd ["self", "lot", "coming", "going"] (spN K mg "Row" G_Row_init) :=
  Fun.okN (k := 3) F sc_Row_init fun Φ cdv A outer s H E cn => by
    exact (dss_cons (ds_if (dt_not (dt_truth (DE.wk (de_cal D_is_lot cn.cc (da_cons (de_var (i := 1)) da_nil) (by rfl))))) (dss_one (ds_raise (L := L_InvalidLot) (n := 1) R_InvalidLot cn (da_cons (de_var (i := 1)) da_nil) (by rfl))) dss_nil)
    (dss_cons (ds_if (DW.dt (dw_and (dt_notN (de_var (i := 2)) (DE.wk de_non)) (dw_and1 (dt_not (DW.dt (dw_and (dt_truth (DE.wk (de_cal D_is_key cn.cc (da_cons (de_var (i := 2)) da_nil) (by rfl)))) (dw_and1 (dt_in (de_var (i := 2)) (db_var (i := 1)))))))))) (dss_one (ds_raise (L := L_InvalidMark) (n := 1) R_InvalidMark cn (da_cons (de_var (i := 2)) da_nil) (by rfl))) dss_nil)
    (dss_cons (ds_if (DW.dt (dw_and (dt_notN (de_var (i := 3)) (DE.wk de_non)) (dw_and1 (dt_not (DW.dt (dw_and (dt_isN (de_var (i := 2)) (DE.wk de_non)) (dw_and (dt_truth (DE.wk (de_cal D_is_key cn.cc (da_cons (de_var (i := 3)) da_nil) (by rfl)))) (dw_and1 (dt_in (de_var (i := 3)) (db_var (i := 1))))))))))) (dss_one (ds_raise (L := L_InvalidMark) (n := 1) R_InvalidMark cn (da_cons (de_var (i := 3)) da_nil) (by rfl))) dss_nil)
    (dss_cons (ds_sat (i := 0) T.ft (de_var (i := 1)))
    (dss_cons (ds_sat (i := 0) T.ft (de_var (i := 2)))
    (dss_one (ds_sat (i := 0) T.ft (de_var (i := 3)))))))))
theorem sc_is_name : FnScope N_is_name ["value"] (defScope s_is_name) := ⟨rfl, rfl, rfl, by decide +kernel, rfl, by decide +kernel, by decide +kernel⟩
theorem ok_is_name {f : Addr} {fd : FuncData} (T : Tx K mg) (F : Fun K "is_name" "is_name" s_is_name f fd) : FnOk P w K mg base (L2.CX P w) 1 f fd ["value"] (spD K mg G_is_name) :=
  Fun.okD (k := 0) F sc_is_name fun Φ cdv A outer s H E cn nM => by
    exact (dss_cons (ds_if (DW.dt (dw_or (dt_not (dt_truth (DE.wk (de_isI T.kt T.oc T.b_isinstance (de_var (i := 0)) (tye_b (s := "str") T.b_str))))) (dw_or1 (dt_not (dt_chLL de_int (de_len T.b_len (db_var (i := 0))) de_int))))) (dss_one (ds_ret de_bl)) dss_nil)
    (dss_cons (ds_if (dt_not (dt_chLL de_str (de_atv (i := 0) de_int) de_str)) (dss_one (ds_ret de_bl)) dss_nil)
    (dss_one (ds_ret (de_all cn.calm T.b_all (DE.wk (de_lc (own := [("sign", 1)]) cn (blk_ok (N := N_is_name) (sc := defScope s_is_name) (by decide +kernel)) rfl (di_any (de_var (i := 0))) (fun _ _ _ _ _ => (dgp_name (i := 1) cn.nd)) (fun _ _ _ _ _ => dts_nil) (fun _ _ _ _ _ => (de_or (de_chLL de_str (de_var (i := 1)) de_str) (de_one (de_chLL de_str (de_var (i := 1)) de_str)))))))))))
theorem sc_lstretch_due : FnScope N_lstretch_due ["_law_ks", "_law_p", "_law_q"] (defScope s_lstretch_due) := ⟨rfl, rfl, rfl, by decide +kernel, rfl, by decide +kernel, by decide +kernel⟩
theorem ok_lstretch_due {f : Addr} {fd : FuncData} (T : Tx K mg) (F : Fun K "_law_stretch_due" "_law_stretch_due" s_lstretch_due f fd) (D_lis_key : Dfn P w K mg base "_law_is_key" 1 G_lis_key) : FnOk P w K mg base (L2.CX P w) 2 f fd ["_law_ks", "_law_p", "_law_q"] (spD K mg G_lstretch_due) :=
  Fun.okD (k := 1) F sc_lstretch_due fun Φ cdv A outer s H E cn nM => by
    exact (dss_cons (ds_for cn (di_any (de_lst (da_cons (de_var (i := 1)) (da_cons (de_var (i := 2)) da_nil)))) (dg_name (i := 3) cn.nd) nx_name (dss_one (ds_if (DW.dt (dw_or (dt_not (dt_truth (DE.wk (de_cal D_lis_key cn.cc (da_cons (de_var (i := 3)) da_nil) (by rfl))))) (dw_or1 (dt_nin (de_var (i := 3)) (db_var (i := 0)))))) (dss_one (ds_ret (de_tup (da_cons de_str (da_cons (de_var (i := 3)) da_nil))))) dss_nil)))
    (dss_one (ds_ret (de_tup (da_cons de_str (da_cons (de_tuple T.b_tuple (DE.wk (de_lc (own := [("_law_k", 4)]) cn (blk_ok (N := N_lstretch_due) (sc := defScope s_lstretch_due) (by decide +kernel)) rfl (di_any (de_var (i := 0))) (fun _ _ _ _ _ => (dgp_name (i := 4) cn.nd)) (fun _ _ _ _ _ => (dts_one (DW.dt (dw_or (DW.dt (dw_and (dt_leA (de_var (i := 1)) (db_var (i := 4))) (dw_and1 (dt_leA (de_var (i := 4)) (db_var (i := 2)))))) (dw_or1 (DW.dt (dw_and (dt_leA (de_var (i := 2)) (db_var (i := 4))) (dw_and1 (dt_leA (de_var (i := 4)) (db_var (i := 1))))))))))) (fun _ _ _ _ _ => (de_var (i := 4)))))) da_nil))))))
theorem sc_lnear : FnScope N_lnear ["_law_ks", "_law_p"] (defScope s_lnear) := ⟨rfl, rfl, rfl, by decide +kernel, rfl, by decide +kernel, by decide +kernel⟩
theorem ok_lnear {f : Addr} {fd : FuncData} (T : Tx K mg) (F : Fun K "_law_near" "_law_near" s_lnear f fd) : FnOk P w K mg base (L2.CX P w) 1 f fd ["_law_ks", "_law_p"] (spD K mg G_lnear) :=
  Fun.okD (k := 0) F sc_lnear fun Φ cdv A outer s H E cn nM => by
    exact (dss_cons (ds_par (i := 2) (j := 3) cn (da_cons (de_lc (own := [("_law_k", 4)]) cn (blk_ok (N := N_lnear) (sc := defScope s_lnear) (by decide +kernel)) rfl (di_any (de_var (i := 0))) (fun _ _ _ _ _ => (dgp_name (i := 4) cn.nd)) (fun _ _ _ _ _ => (dts_one (dt_lt (de_var (i := 4)) (db_var (i := 1))))) (fun _ _ _ _ _ => (de_var (i := 4)))) (da_cons (de_lc (own := [("_law_k", 4)]) cn (blk_ok (N := N_lnear) (sc := defScope s_lnear) (by decide +kernel)) rfl (di_any (de_var (i := 0))) (fun _ _ _ _ _ => (dgp_name (i := 4) cn.nd)) (fun _ _ _ _ _ => (dts_one (dt_gt (de_var (i := 4)) (db_var (i := 1))))) (fun _ _ _ _ _ => (de_var (i := 4)))) da_nil)))
    (dss_one (ds_ret (de_tup (da_cons (de_if (dt_ne cn.hu (de_var (i := 2)) (DE.wk (de_lst da_nil))) (de_atv (i := 2) (de_neg (DE.wk de_int))) de_non) (da_cons (de_if (dt_ne cn.hu (de_var (i := 3)) (DE.wk (de_lst da_nil))) (de_atv (i := 3) de_int) de_non) da_nil))))))
end L2.DL.K02

namespace L2.DL.K02
open PySem PySem.Spec PyProof.Rows
variable {P : Program} {w : World} {K : PySem.W.Frag} {mg : Str → Option Value} {base : Heap}
theorem sc_lkeys : FnScope N_lkeys ["_law_bag_here", "_law_many"] (defScope s_lkeys) := ⟨rfl, rfl, rfl, by decide +kernel, rfl, by decide +kernel, by decide +kernel⟩
theorem ok_lkeys {f : Addr} {fd : FuncData} (T : Tx K mg) (F : Fun K "_law_keys" "_law_keys" s_lkeys f fd) (D_lof : Dfn P w K mg base "_law_of" 2 G_lof) (D_ldraw : Dfn P w K mg base "_law_draw" 1 G_ldraw) : FnOk P w K mg base (L2.CX P w) 3 f fd ["_law_bag_here", "_law_many"] (spD K mg G_lkeys) :=
  Fun.okD (k := 2) F sc_lkeys fun Φ cdv A outer s H E cn nM => by
    exact (dss_cons (ds_set (i := 2) cn.nd (de_max2 cn.calm T.b_max (da_cons de_int (da_cons (de_cal D_lof cn.cc (da_cons (de_var (i := 0)) (da_cons (de_lst (da_cons (de_var (i := 1)) (da_cons (de_add (de_var (i := 1)) (DE.wk de_int)) (da_cons (de_add (de_var (i := 1)) (DE.wk de_int)) (da_cons de_int (da_cons de_int da_nil)))))) da_nil)) (by rfl)) da_nil))))
    (dss_cons (ds_set (i := 3) cn.nd (de_cal D_lof cn.cc (da_cons (de_var (i := 0)) (da_cons (de_lst (da_cons de_int (da_cons (de_sub de_int (db_var (i := 2))) (da_cons (de_cal D_ldraw cn.cc (da_cons (de_var (i := 0)) (da_cons (de_sub de_int (db_var (i := 2))) da_nil)) (by rfl)) da_nil)))) da_nil)) (by rfl)))
    (dss_cons (ds_setF (i := 4) cn.nd (df_lst da_nil))
    (dss_cons (ds_for cn (di_rng1 T.b_range (da_cons (de_var (i := 1)) da_nil)) (dg_name (i := 5) cn.nd) nx_name (dss_cons (ds_set (i := 6) cn.nd (de_cal D_ldraw cn.cc (da_cons (de_var (i := 0)) (da_cons (de_var (i := 2)) da_nil)) (by rfl)))
    (dss_cons (ds_for cn (di_rng1 T.b_range (da_cons (de_var (i := 1)) da_nil)) (dg_name (i := 7) cn.nd) nx_name (dss_cons (ds_if (dt_nin (de_add (de_var (i := 3)) (db_var (i := 6))) (db_var (i := 4))) (dss_one ds_break) dss_nil)
    (dss_one (ds_set (i := 6) cn.nd (de_mod (de_int1 T.b_int (DE.wk (de_add (de_var (i := 6)) (DE.wk de_int)))) (db_var (i := 2)))))))
    (dss_one (ds_apn (i := 4) (de_add (de_var (i := 3)) (db_var (i := 6))))))))
    (dss_one (ds_ret (de_tuple T.b_tuple (DE.wk (de_sorted T.b_sorted (db_var (i := 4)))))))))))
theorem sc_lis_name : FnScope N_lis_name ["_law_v"] (defScope s_lis_name) := ⟨rfl, rfl, rfl, by decide +kernel, rfl, by decide +kernel, by decide +kernel⟩
theorem ok_lis_name {f : Addr} {fd : FuncData} (T : Tx K mg) (F : Fun K "_law_is_name" "_law_is_name" s_lis_name f fd) : FnOk P w K mg base (L2.CX P w) 1 f fd ["_law_v"] (spD K mg G_lis_name) :=
  Fun.okD (k := 0) F sc_lis_name fun Φ cdv A outer s H E cn nM => by
    exact (dss_cons (ds_if (DW.dt (dw_or (dt_not (dt_truth (DE.wk (de_isI T.kt T.oc T.b_isinstance (de_var (i := 0)) (tye_b (s := "str") T.b_str))))) (dw_or (dt_eqQ cn.hu (de_var (i := 0)) (DE.wk de_str)) (dw_or1 (dt_gt (de_len T.b_len (db_var (i := 0))) (DE.wk de_int)))))) (dss_one (ds_ret de_bl)) dss_nil)
    (dss_cons (ds_set (i := 1) cn.nd de_str)
    (dss_one (ds_ret (de_and (de_in (de_atv (i := 0) de_int) (db_var (i := 1))) (de_one (de_eqQ cn.hu (de_lc (own := [("_law_c", 2)]) cn (blk_ok (N := N_lis_name) (sc := defScope s_lis_name) (by decide +kernel)) rfl (di_any (de_var (i := 0))) (fun _ _ _ _ _ => (dgp_name (i := 2) cn.nd)) (fun _ _ _ _ _ => (dts_one (DW.dt (dw_and (dt_nin (de_var (i := 2)) (db_var (i := 1))) (dw_and1 (dt_nin (de_var (i := 2)) (DE.wk de_str))))))) (fun _ _ _ _ _ => (de_var (i := 2)))) (DE.wk (de_lst da_nil)))))))))
theorem sc_lsame : FnScope N_lsame ["_law_found", "_law_due"] (defScope s_lsame) := ⟨rfl, rfl, rfl, by decide +kernel, rfl, by decide +kernel, by decide +kernel⟩
theorem ok_lsame {f : Addr} {fd : FuncData} (T : Tx K mg) (F : FunG K mg "_law_same" s_lsame f fd) (hb : Binds K fd ["_law_found", "_law_due"] []) : ∀ n : Nat, FnOk P w K mg base (L2.CX P w) (0 + n) f fd ["_law_found", "_law_due"] (spD K mg (GN_lsame n))
  | 0 => fn_never
  | n + 1 => by
    have D_lsame : Dfn P w K mg base "_law_same" (0 + n) (GN_lsame n) := F.dfn (ok_lsame T F hb n) hb
    exact Fun.okD (k := 0 + n) F.fn sc_lsame fun Φ cdv A outer s H E cn nM => by
      exact (dss_cons (ds_if (dt_truth (DE.wk (de_isI2 T.kt T.oc T.b_isinstance (de_var (i := 1)) (tye_b (s := "list") T.b_list) (tye_b (s := "tuple") T.b_tuple)))) (dss_cons (ds_if (DW.dt (dw_or (dt_ne cn.hu (de_isI T.kt T.oc T.b_isinstance (de_var (i := 0)) (tye_b (s := "list") T.b_list)) (DE.wk (de_isI T.kt T.oc T.b_isinstance (de_var (i := 1)) (tye_b (s := "list") T.b_list)))) (dw_or1 (dt_ne cn.hu (de_isI T.kt T.oc T.b_isinstance (de_var (i := 0)) (tye_b (s := "tuple") T.b_tuple)) (DE.wk (de_isI T.kt T.oc T.b_isinstance (de_var (i := 1)) (tye_b (s := "tuple") T.b_tuple))))))) (dss_one (ds_ret de_bl)) dss_nil)
    (dss_one (ds_ret (de_and (de_eqQ cn.hu (de_len T.b_len (db_var (i := 0))) (DE.wk (de_len T.b_len (db_var (i := 1))))) (de_one (de_all cn.calm T.b_all (DE.wk (de_lc (own := [("_law_p", 2), ("_law_q", 3)]) cn (blk_ok (N := N_lsame) (sc := defScope s_lsame) (by decide +kernel)) rfl (di_zip T.b_zip (da_cons (de_var (i := 0)) (da_cons (de_var (i := 1)) da_nil))) (fun _ _ _ _ _ => (dgp_tup cn.calm (dgsp_cons (dgp_name (i := 2) cn.nd) (dgsp_cons (dgp_name (i := 3) cn.nd) dgsp_nil)))) (fun _ _ _ _ _ => dts_nil) (fun _ _ _ _ _ => (de_cal (hj := Nat.le_refl _) D_lsame cn.blk (da_cons (de_var (i := 2)) (da_cons (de_var (i := 3)) da_nil)) (by rfl))))))))))) dss_nil)
    (dss_cons (ds_if (dt_truth (DE.wk (de_isI2 T.kt T.oc T.b_isinstance (de_var (i := 0)) (tye_b (s := "list") T.b_list) (tye_b (s := "tuple") T.b_tuple)))) (dss_one (ds_ret de_bl)) dss_nil)
    (dss_cons (ds_if (DW.dt (dw_or (dt_isN (de_var (i := 1)) (DE.wk de_non)) (dw_or1 (dt_isN (de_var (i := 0)) (DE.wk de_non))))) (dss_one (ds_ret (de_and (de_isN (de_var (i := 1)) (DE.wk de_non)) (de_one (de_isN (de_var (i := 0)) (DE.wk de_non)))))) dss_nil)
    (dss_cons (ds_if (DW.dt (dw_or (dt_truth (DE.wk (de_isI T.kt T.oc T.b_isinstance (de_var (i := 1)) (tye_b (s := "bool") T.b_bool)))) (dw_or1 (dt_truth (DE.wk (de_isI T.kt T.oc T.b_isinstance (de_var (i := 0)) (tye_b (s := "bool") T.b_bool))))))) (dss_one (ds_ret (de_and (de_isI T.kt T.oc T.b_isinstance (de_var (i := 1)) (tye_b (s := "bool") T.b_bool)) (de_and (de_isI T.kt T.oc T.b_isinstance (de_var (i := 0)) (tye_b (s := "bool") T.b_bool)) (de_one (de_eqQ cn.hu (de_var (i := 0)) (db_var (i := 1)))))))) dss_nil)
    (dss_cons (ds_if (DW.dt (dw_or (dt_truth (DE.wk (de_isI T.kt T.oc T.b_isinstance (de_var (i := 1)) (tye_b (s := "int") T.b_int)))) (dw_or1 (dt_truth (DE.wk (de_isI T.kt T.oc T.b_isinstance (de_var (i := 0)) (tye_b (s := "int") T.b_int))))))) (dss_one (ds_ret (de_and (de_isI T.kt T.oc T.b_isinstance (de_var (i := 1)) (tye_b (s := "int") T.b_int)) (de_and (de_isI T.kt T.oc T.b_isinstance (de_var (i := 0)) (tye_b (s := "int") T.b_int)) (de_one (de_eqQ cn.hu (de_var (i := 0)) (db_var (i := 1)))))))) dss_nil)
    (dss_cons (ds_if (DW.dt (dw_or (dt_truth (DE.wk (de_isI T.kt T.oc T.b_isinstance (de_var (i := 1)) (tye_b (s := "str") T.b_str)))) (dw_or1 (dt_truth (DE.wk (de_isI T.kt T.oc T.b_isinstance (de_var (i := 0)) (tye_b (s := "str") T.b_str))))))) (dss_one (ds_ret (de_and (de_isI T.kt T.oc T.b_isinstance (de_var (i := 1)) (tye_b (s := "str") T.b_str)) (de_and (de_isI T.kt T.oc T.b_isinstance (de_var (i := 0)) (tye_b (s := "str") T.b_str)) (de_one (de_eqQ cn.hu (de_var (i := 0)) (db_var (i := 1)))))))) dss_nil)
    (dss_one (ds_ret (de_eqQ cn.hu (de_var (i := 0)) (db_var (i := 1)))))))))))
end L2.DL.K02

namespace L2.DL.K02
open PySem PySem.Spec PyProof.Rows
variable {P : Program} {w : World} {K : PySem.W.Frag} {mg : Str → Option Value} {base : Heap}
theorem sc_lnumber : FnScope N_lnumber ["_law_bag_here"] (defScope s_lnumber) := ⟨rfl, rfl, rfl, by decide +kernel, rfl, by decide +kernel, by decide +kernel⟩
theorem ok_lnumber {f : Addr} {fd : FuncData} (T : Tx K mg) (F : Fun K "_law_number" "_law_number" s_lnumber f fd) (D_lof : Dfn P w K mg base "_law_of" 2 G_lof) (D_ldraw : Dfn P w K mg base "_law_draw" 1 G_ldraw) : FnOk P w K mg base (L2.CX P w) 3 f fd ["_law_bag_here"] (spD K mg G_lnumber) :=
  Fun.okD (k := 2) F sc_lnumber fun Φ cdv A outer s H E cn nM => by
    exact (dss_one (ds_ret (de_cal D_lof cn.cc (da_cons (de_var (i := 0)) (da_cons (de_lst (da_cons de_int (da_cons de_int (da_cons de_int (da_cons de_int (da_cons (de_neg (DE.wk de_int)) (da_cons (de_neg (DE.wk de_int)) (da_cons (de_pow de_int (DE.wk de_int)) (da_cons de_int (da_cons (de_cal D_ldraw cn.cc (da_cons (de_var (i := 0)) (da_cons de_int da_nil)) (by rfl)) (da_cons (de_sub (de_cal D_ldraw cn.cc (da_cons (de_var (i := 0)) (da_cons de_int da_nil)) (by rfl)) (DE.wk de_int)) (da_cons de_bl (da_cons de_bl (da_cons de_non (da_cons de_str (da_cons (de_tup (da_cons de_int da_nil)) (da_cons (de_lst (da_cons de_int da_nil)) (da_cons de_new (da_cons (de_tup da_nil) da_nil))))))))))))))))))) da_nil)) (by rfl))))
theorem sc_is_lot : FnScope N_is_lot ["value"] (defScope s_is_lot) := ⟨rfl, rfl, rfl, by decide +kernel, rfl, by decide +kernel, by decide +kernel⟩
theorem ok_is_lot {f : Addr} {fd : FuncData} (T : Tx K mg) (F : Fun K "is_lot" "is_lot" s_is_lot f fd) (D_is_key_set : Dfn P w K mg base "is_key_set" 2 G_is_key_set) (D_is_key_set_k0 : DfK P w K mg base "is_key_set" 2 G_is_key_set 0 ["value"] [0]) : FnOk P w K mg base (L2.CX P w) 3 f fd ["value"] (spD K mg G_is_lot) :=
  Fun.okD (k := 2) F sc_is_lot fun Φ cdv A outer s H E cn nM => by
    exact (dss_one (ds_ret (de_and (de_cal D_is_key_set cn.cc (da_cons (de_var (i := 0)) da_nil) (by rfl)) (de_one (de_gt (de_len T.b_len (db_var (i := 0))) (DE.wk de_int))))))
theorem sc_ltuple : FnScope N_ltuple ["_law_bag_here", "_law_ks"] (defScope s_ltuple) := ⟨rfl, rfl, rfl, by decide +kernel, rfl, by decide +kernel, by decide +kernel⟩
theorem ok_ltuple {f : Addr} {fd : FuncData} (T : Tx K mg) (F : Fun K "_law_tuple" "_law_tuple" s_ltuple f fd) (D_lnumber : Dfn P w K mg base "_law_number" 3 G_lnumber) (D_lof : Dfn P w K mg base "_law_of" 2 G_lof) (D_ldraw : Dfn P w K mg base "_law_draw" 1 G_ldraw) (C_Row_0 : Cln P w K mg base "Row" 4 G_Row_init 1 [] [0, 1, 2] [.non, .non]) : FnOk P w K mg base (L2.CX P w) 6 f fd ["_law_bag_here", "_law_ks"] (spD K mg G_ltuple) :=
  Fun.okD (k := 5) F sc_ltuple fun Φ cdv A outer s H E cn nM => by
    exact (dss_cons (ds_set (i := 2) cn.nd (de_cal D_lnumber cn.cc (da_cons (de_var (i := 0)) da_nil) (by rfl)))
    (dss_cons (ds_if (dt_eqQ cn.hu (de_var (i := 1)) (DE.wk (de_tup da_nil))) (dss_one (ds_ret (de_cal D_lof cn.cc (da_cons (de_var (i := 0)) (da_cons (de_lst (da_cons (de_tup da_nil) (da_cons (de_lst da_nil) (da_cons (de_tup (da_cons (de_var (i := 2)) da_nil)) (da_cons (de_lst (da_cons (de_var (i := 2)) da_nil)) (da_cons (de_var (i := 2)) (da_cons de_new (da_cons (de_tup (da_cons (de_tup da_nil) da_nil)) da_nil)))))))) da_nil)) (by rfl)))) dss_nil)
    (dss_cons (ds_par (i := 4) (j := 5) cn (da_cons (de_cal D_ldraw cn.cc (da_cons (de_var (i := 0)) (da_cons (de_len T.b_len (db_var (i := 1))) da_nil)) (by rfl)) (da_cons (de_cal D_lof cn.cc (da_cons (de_var (i := 0)) (da_cons (de_var (i := 1)) da_nil)) (by rfl)) da_nil)))
    (dss_cons (ds_set (i := 3) cn.nd (de_lst (da_cons (de_var (i := 1)) (da_cons (de_var (i := 1)) (da_cons (de_add (de_add (de_sl (de_var (i := 1)) do_none (do_some (de_var (i := 4)))) (DE.wk (de_tup (da_cons (de_var (i := 2)) da_nil)))) (DE.wk (de_sl (de_var (i := 1)) (do_some (de_add (de_var (i := 4)) (DE.wk de_int))) do_none))) (da_cons (de_add (de_add (de_sl (de_var (i := 1)) do_none (do_some (de_var (i := 4)))) (DE.wk (de_tup (da_cons (de_var (i := 2)) da_nil)))) (DE.wk (de_sl (de_var (i := 1)) (do_some (de_var (i := 4))) do_none))) (da_cons (de_add (de_var (i := 1)) (DE.wk (de_tup (da_cons (de_var (i := 2)) da_nil)))) (da_cons (de_add (de_add (de_sl (de_var (i := 1)) do_none (do_some (de_var (i := 4)))) (DE.wk (de_tup (da_cons (de_var (i := 5)) da_nil)))) (DE.wk (de_sl (de_var (i := 1)) (do_some (de_var (i := 4))) do_none))) (da_cons (de_add (de_sl (de_var (i := 1)) do_none (do_some (de_var (i := 4)))) (DE.wk (de_sl (de_var (i := 1)) (do_some (de_add (de_var (i := 4)) (DE.wk de_int))) do_none))) da_nil)))))))))
    (dss_cons (ds_set (i := 3) cn.nd (de_add (de_var (i := 3)) (DE.wk (de_lst (da_cons (de_revA (de_var (i := 1))) (da_cons (de_list T.b_list (db_var (i := 1))) (da_cons (de_add (de_sl (de_var (i := 1)) (do_some (de_var (i := 4))) do_none) (DE.wk (de_sl (de_var (i := 1)) do_none (do_some (de_var (i := 4)))))) (da_cons (de_add (de_var (i := 1)) (db_var (i := 1))) (da_cons (de_tup (da_cons (de_var (i := 1)) da_nil)) (da_cons (de_add (de_add (de_sl (de_var (i := 1)) do_none (do_some (de_var (i := 4)))) (DE.wk (de_tup (da_cons (de_strI T.b_str (db_var (i := 5))) da_nil)))) (DE.wk (de_sl (de_var (i := 1)) (do_some (de_add (de_var (i := 4)) (DE.wk de_int))) do_none))) (da_cons (de_add (de_add (de_sl (de_var (i := 1)) do_none (do_some (de_var (i := 4)))) (DE.wk (de_tup (da_cons (de_lst (da_cons (de_var (i := 5)) da_nil)) da_nil)))) (DE.wk (de_sl (de_var (i := 1)) (do_some (de_add (de_var (i := 4)) (DE.wk de_int))) do_none))) (da_cons (de_disp (dps_cons (de_var (i := 5)) de_int dps_nil)) da_nil))))))))))))
    (dss_one (ds_ret (de_cal D_lof cn.cc (da_cons (de_var (i := 0)) (da_cons (de_add (de_var (i := 3)) (DE.wk (de_lst (da_cons (de_add (de_add (de_sl (de_var (i := 1)) do_none (do_some (de_var (i := 4)))) (DE.wk (de_tup (da_cons de_bl da_nil)))) (DE.wk (de_sl (de_var (i := 1)) (do_some (de_add (de_var (i := 4)) (DE.wk de_int))) do_none))) (da_cons (de_add (de_add (de_sl (de_var (i := 1)) do_none (do_some (de_var (i := 4)))) (DE.wk (de_tup (da_cons de_non da_nil)))) (DE.wk (de_sl (de_var (i := 1)) (do_some (de_add (de_var (i := 4)) (DE.wk de_int))) do_none))) (da_cons (de_new1 C_Row_0 cn.cc (da_cons (de_var (i := 1)) da_nil) dk_nil) (da_cons (de_strI T.b_str (db_var (i := 5))) da_nil))))))) da_nil)) (by rfl)))))))))
theorem sc_law : FnScope N_law ["_law_script"] (defScope s_law) := ⟨rfl, rfl, rfl, by decide +kernel, rfl, by decide +kernel, by decide +kernel⟩
theorem ok_law {f : Addr} {fd : FuncData} (T : Tx K mg) (F : Fun K "law" "law" s_law f fd) (D_lbag : Dfn P w K mg base "_law_bag" 1 G_lbag) (D_lkeys : Dfn P w K mg base "_law_keys" 3 G_lkeys) (D_lof : Dfn P w K mg base "_law_of" 2 G_lof) (D_lnumber : Dfn P w K mg base "_law_number" 3 G_lnumber) (D_lword : Dfn P w K mg base "_law_word" 3 G_lword) (D_ltuple : Dfn P w K mg base "_law_tuple" 6 G_ltuple) (D_lis_name : Dfn P w K mg base "_law_is_name" 1 G_lis_name) (D_lis_set : Dfn P w K mg base "_law_is_set" 2 G_lis_set) (D_lis_key : Dfn P w K mg base "_law_is_key" 1 G_lis_key) (D_lsame : Dfn P w K mg base "_law_same" 5 G_lsame) (D_ljudged : Dfn P w K mg base "_law_judged" 4 G_ljudged) (D_lstranger : Dfn P w K mg base "_law_stranger" 3 G_lstranger) (D_lodd : Dfn P w K mg base "_law_odd" 4 G_lodd) (D_lstretch_due : Dfn P w K mg base "_law_stretch_due" 2 G_lstretch_due) (D_lstretch : Dfn P w K mg base "_law_stretch" 4 G_lstretch) (D_ldraw : Dfn P w K mg base "_law_draw" 1 G_ldraw) (D_neighbours_of : Dfn P w K mg base "neighbours_of" 1 G_neighbours_of) (D_neighbours_of_k0 : DfK P w K mg base "neighbours_of" 1 G_neighbours_of 0 ["key", "living"] [1, 0]) (D_lnear : Dfn P w K mg base "_law_near" 1 G_lnear) (S_repr_Row : SpcT P w K mg base "__repr__" 2 [("Row", G_Row_repr)]) (SM : SysM base) : RunAt P w K mg base callerA f fd ["_law_script"] (spD K mg G_law) :=
  run_at (k := 6) F sc_law ⟨rfl, by decide, by decide⟩ fun Φ cdv outer s H E cn nM => by
    exact (dss_cons (ds_setF (i := 1) cn.nd (df_cal (i := 1) D_lbag cn.cc (da_cons (de_var (i := 0)) da_nil) (by rfl)))
    (dss_cel (i := 1) (dss_cons (ds_for cn (di_rng1 T.b_range (da_cons de_int da_nil)) (dg_name (i := 2) cn.nd) nx_name (dss_cons (ds_set (i := 7) cn.nd (de_cal D_lkeys cn.cc (da_cons (de_var (i := 1)) (da_cons (de_cal D_lof cn.cc (da_cons (de_var (i := 1)) (da_cons (de_lst (da_cons de_int (da_cons de_int (da_cons de_int (da_cons de_int (da_cons de_int (da_cons de_int (da_cons de_int (da_cons de_int (da_cons de_int (da_cons de_int da_nil))))))))))) da_nil)) (by rfl)) da_nil)) (by rfl)))
    (dss_cons (ds_for cn (di_rng1 T.b_range (da_cons de_int da_nil)) (dg_name (i := 8) cn.nd) nx_name (dss_cons (ds_set (i := 5) cn.nd (de_cal D_lof cn.cc (da_cons (de_var (i := 1)) (da_cons (de_lst (da_cons (de_cal D_ltuple cn.cc (da_cons (de_var (i := 1)) (da_cons (de_var (i := 7)) da_nil)) (by rfl)) (da_cons (de_cal D_ltuple cn.cc (da_cons (de_var (i := 1)) (da_cons (de_var (i := 7)) da_nil)) (by rfl)) (da_cons (de_cal D_lword cn.cc (da_cons (de_var (i := 1)) da_nil) (by rfl)) (da_cons (de_cal D_lnumber cn.cc (da_cons (de_var (i := 1)) da_nil) (by rfl)) da_nil))))) da_nil)) (by rfl)))
    (dss_cons (ds_set (i := 10) cn.nd (de_lst (da_cons (de_cal D_lis_key cn.cc (da_cons (de_var (i := 5)) da_nil) (by rfl)) (da_cons (de_cal D_lis_set cn.cc (da_cons (de_var (i := 5)) da_nil) (by rfl)) (da_cons (de_and (de_cal D_lis_set cn.cc (da_cons (de_var (i := 5)) da_nil) (by rfl)) (de_one (de_gt (de_len T.b_len (db_var (i := 5))) (DE.wk de_int)))) (da_cons (de_cal D_lis_name cn.cc (da_cons (de_var (i := 5)) da_nil) (by rfl)) da_nil))))))
    (dss_cons (ds_set (i := 11) cn.nd (de_reprN S_repr_Row SM rfl cn.cc T.b_repr (de_var (i := 5))))
    (dss_one (ds_if (DW.dt (dw_or (dt_not (dt_truth (DE.wk (de_cal D_lsame cn.cc (da_cons (de_lst (da_cons (de_cal D_ljudged cn.cc (da_cons (de_var (i := 5)) (da_cons de_bl da_nil)) (by rfl)) (da_cons (de_cal D_ljudged cn.cc (da_cons (de_var (i := 5)) (da_cons de_bl da_nil)) (by rfl)) da_nil))) (da_cons (de_lst (da_cons (de_var (i := 10)) (da_cons (de_var (i := 10)) da_nil))) da_nil)) (by rfl))))) (dw_or1 (dt_ne cn.hu (de_reprN S_repr_Row SM rfl cn.cc T.b_repr (de_var (i := 5))) (db_var (i := 11)))))) (dss_one (ds_ret de_bl)) dss_nil))))))
    (dss_one (ds_for cn (di_rng1 T.b_range (da_cons de_int da_nil)) (dg_name (i := 8) cn.nd) nx_name (dss_cons (ds_par3 (i := 9) (j := 13) (l := 14) cn (da_cons (de_cal D_lof cn.cc (da_cons (de_var (i := 1)) (da_cons (de_add (de_list T.b_list (db_var (i := 7))) (DE.wk (de_lst (da_cons de_int da_nil)))) da_nil)) (by rfl)) (da_cons (de_cal D_lof cn.cc (da_cons (de_var (i := 1)) (da_cons (de_add (de_list T.b_list (db_var (i := 7))) (DE.wk (de_lst (da_cons de_int da_nil)))) da_nil)) (by rfl)) (da_cons (de_cal D_lstranger cn.cc (da_cons (de_var (i := 1)) (da_cons (de_var (i := 7)) da_nil)) (by rfl)) da_nil))))
    (dss_cons (ds_par (i := 15) (j := 16) cn (da_cons (de_cal D_lodd cn.cc (da_cons (de_var (i := 1)) (da_cons (de_var (i := 7)) (da_cons (de_lst (da_cons (de_var (i := 14)) da_nil)) da_nil))) (by rfl)) (da_cons (de_cal D_lodd cn.cc (da_cons (de_var (i := 1)) (da_cons (de_sl (de_var (i := 7)) do_none (do_some de_int)) (da_cons (de_lst (da_cons (de_lst (da_cons (de_var (i := 9)) da_nil)) (da_cons (de_tup (da_cons (de_var (i := 13)) da_nil)) da_nil))) da_nil))) (by rfl)) da_nil)))
    (dss_cons (ds_for cn (di_any (de_lst (da_cons (de_tup (da_cons (de_var (i := 9)) (da_cons (de_var (i := 13)) da_nil))) (da_cons (de_tup (da_cons (de_var (i := 13)) (da_cons (de_var (i := 9)) da_nil))) (da_cons (de_tup (da_cons (de_var (i := 9)) (da_cons (de_var (i := 9)) da_nil))) (da_cons (de_tup (da_cons (de_var (i := 9)) (da_cons (de_var (i := 15)) da_nil))) (da_cons (de_tup (da_cons (de_var (i := 15)) (da_cons (de_var (i := 13)) da_nil))) (da_cons (de_tup (da_cons (de_var (i := 15)) (da_cons (de_var (i := 16)) da_nil))) (da_cons (de_tup (da_cons (de_var (i := 16)) (da_cons (de_var (i := 15)) da_nil))) (da_cons (de_tup (da_cons de_bl (da_cons (de_var (i := 9)) da_nil))) (da_cons (de_tup (da_cons (de_var (i := 13)) (da_cons de_bl da_nil))) da_nil))))))))))) ((dg_tup cn.calm (dgs_cons (dg_name (i := 12) cn.nd) (dgs_cons (dg_name (i := 17) cn.nd) dgs_nil)))).rep (nx_tup (nxs_cons nx_name (nxs_cons nx_name nxs_nil))) (dss_one (ds_if (dt_not (dt_truth (DE.wk (de_cal D_lsame cn.cc (da_cons (de_cal D_lstretch cn.cc (da_cons (de_var (i := 7)) (da_cons (de_var (i := 12)) (da_cons (de_var (i := 17)) (da_cons (de_eqQ cn.hu (de_var (i := 8)) (DE.wk de_int)) da_nil)))) (by rfl)) (da_cons (de_cal D_lstretch_due cn.cc (da_cons (de_var (i := 7)) (da_cons (de_var (i := 12)) (da_cons (de_var (i := 17)) da_nil))) (by rfl)) da_nil)) (by rfl))))) (dss_one (ds_ret de_bl)) dss_nil)))
    (dss_one (ds_for cn (di_any (de_lst (da_cons (de_var (i := 9)) (da_cons (de_var (i := 13)) (da_cons (de_var (i := 14)) (da_cons (de_cal D_ldraw cn.cc (da_cons (de_var (i := 1)) (da_cons de_int da_nil)) (by rfl)) (da_cons de_int (da_cons de_int da_nil)))))))) (dg_name (i := 12) cn.nd) nx_name (dss_cons (ds_set (i := 6) cn.nd (de_if (dt_eqQ cn.hu (de_var (i := 8)) (DE.wk de_int)) (de_callK D_neighbours_of_k0 cn.cc da_nil (dk_cons (de_var (i := 12)) (dk_cons (de_var (i := 7)) dk_nil)) (by rfl)) (de_cal D_neighbours_of cn.cc (da_cons (de_var (i := 7)) (da_cons (de_var (i := 12)) da_nil)) (by rfl))))
    (dss_one (ds_if (dt_not (dt_truth (DE.wk (de_cal D_lsame cn.cc (da_cons (de_var (i := 6)) (da_cons (de_cal D_lnear cn.cc (da_cons (de_var (i := 7)) (da_cons (de_var (i := 12)) da_nil)) (by rfl)) da_nil)) (by rfl))))) (dss_one (ds_ret de_bl)) dss_nil)))))))))))))
    (dss_cons (ds_set (i := 3) cn.nd (de_sl (de_tR3 cn.calm T.b_tuple T.b_range (da_cons (de_cal D_ldraw cn.cc (da_cons (de_var (i := 1)) (da_cons de_int da_nil)) (by rfl)) (da_cons de_int (da_cons (de_add de_int (DE.wk (de_cal D_ldraw cn.cc (da_cons (de_var (i := 1)) (da_cons de_int da_nil)) (by rfl)))) da_nil)))) do_none (do_some (de_cal D_lof cn.cc (da_cons (de_var (i := 1)) (da_cons (de_lst (da_cons de_int (da_cons de_int (da_cons de_int (da_cons de_int (da_cons de_int da_nil)))))) da_nil)) (by rfl)))))
    (dss_cons (ds_par (i := 9) (j := 8) cn (da_cons (de_cal D_lof cn.cc (da_cons (de_var (i := 1)) (da_cons (de_var (i := 3)) da_nil)) (by rfl)) (da_cons (de_cal D_ldraw cn.cc (da_cons (de_var (i := 1)) (da_cons (de_len T.b_len (db_var (i := 3))) da_nil)) (by rfl)) da_nil)))
    (dss_cons (ds_set (i := 4) cn.nd (de_add (de_add (de_sl (de_var (i := 3)) do_none (do_some (de_var (i := 8)))) (DE.wk (de_tup (da_cons (de_cal D_lof cn.cc (da_cons (de_var (i := 1)) (da_cons (de_lst (da_cons de_bl (da_cons (de_var (i := 9)) (da_cons de_int (da_cons (de_neg (DE.wk de_int)) (da_cons de_non (da_cons de_str da_nil))))))) da_nil)) (by rfl)) da_nil)))) (DE.wk (de_sl (de_var (i := 3)) (do_some (de_add (de_var (i := 8)) (DE.wk de_int))) do_none))))
    (dss_cons (ds_for cn (di_any (de_lst (da_cons (de_var (i := 3)) (da_cons (de_var (i := 4)) da_nil)))) (dg_name (i := 5) cn.nd) nx_name (dss_one (ds_if (dt_not (dt_truth (DE.wk (de_cal D_lsame cn.cc (da_cons (de_cal D_ljudged cn.cc (da_cons (de_var (i := 5)) (da_cons de_bl da_nil)) (by rfl)) (da_cons (de_lst (da_cons de_bl (da_cons (de_cal D_lis_set cn.cc (da_cons (de_var (i := 5)) da_nil) (by rfl)) (da_cons (de_cal D_lis_set cn.cc (da_cons (de_var (i := 5)) da_nil) (by rfl)) (da_cons de_bl da_nil))))) da_nil)) (by rfl))))) (dss_one (ds_ret de_bl)) dss_nil)))
    (dss_cons (ds_set (i := 6) cn.nd (de_lst (da_cons (de_cal D_lstretch cn.cc (da_cons (de_var (i := 3)) (da_cons (de_var (i := 9)) (da_cons (de_atv (i := 3) (de_var (i := 8))) (da_cons de_bl da_nil)))) (by rfl)) (da_cons (de_cal D_neighbours_of cn.cc (da_cons (de_var (i := 3)) (da_cons (de_var (i := 9)) da_nil)) (by rfl)) da_nil))))
    (dss_one (ds_ret (de_cal D_lsame cn.cc (da_cons (de_var (i := 6)) (da_cons (de_lst (da_cons (de_cal D_lstretch_due cn.cc (da_cons (de_var (i := 3)) (da_cons (de_var (i := 9)) (da_cons (de_atv (i := 3) (de_var (i := 8))) da_nil))) (by rfl)) (da_cons (de_cal D_lnear cn.cc (da_cons (de_var (i := 3)) (da_cons (de_var (i := 9)) da_nil)) (by rfl)) da_nil))) da_nil)) (by rfl)))))))))) nM))
end L2.DL.K02

namespace L2.DL.K02
open PySem PySem.Spec PyProof.Rows
variable {P : Program} {w : World} {K : PySem.W.Frag} {mg : Str → Option Value} {base : Heap}
theorem sc_lword : FnScope N_lword ["_law_bag_here"] (defScope s_lword) := ⟨rfl, rfl, rfl, by decide +kernel, rfl, by decide +kernel, by decide +kernel⟩
theorem ok_lword {f : Addr} {fd : FuncData} (T : Tx K mg) (F : Fun K "_law_word" "_law_word" s_lword f fd) (D_lof : Dfn P w K mg base "_law_of" 2 G_lof) (D_ldraw : Dfn P w K mg base "_law_draw" 1 G_ldraw) : FnOk P w K mg base (L2.CX P w) 3 f fd ["_law_bag_here"] (spD K mg G_lword) :=
  Fun.okD (k := 2) F sc_lword fun Φ cdv A outer s H E cn nM => by
    exact (dss_cons (ds_set (i := 1) cn.nd (de_cal D_lof cn.cc (da_cons (de_var (i := 0)) (da_cons (de_lst (da_cons de_str (da_cons de_str (da_cons de_str (da_cons de_str (da_cons de_str (da_cons de_str da_nil))))))) da_nil)) (by rfl)))
    (dss_cons (ds_set (i := 2) cn.nd (de_add (de_cal D_lof cn.cc (da_cons (de_var (i := 0)) (da_cons de_str da_nil)) (by rfl)) (DE.wk (de_join de_str (de_lc (own := [("_law_n", 4)]) cn (blk_ok (N := N_lword) (sc := defScope s_lword) (by decide +kernel)) rfl (di_rng1 T.b_range (da_cons (de_cal D_lof cn.cc (da_cons (de_var (i := 0)) (da_cons (de_lst (da_cons de_int (da_cons de_int (da_cons de_int (da_cons de_int (da_cons de_int (da_cons de_int (da_cons de_int (da_cons de_int da_nil))))))))) da_nil)) (by rfl)) da_nil)) (fun _ _ _ _ _ => (dgp_name (i := 4) cn.nd)) (fun _ _ _ _ _ => dts_nil) (fun _ _ _ _ _ => (de_cal D_lof cn.blk (da_cons (de_var (i := 0)) (da_cons (de_var (i := 1)) da_nil)) (by rfl))))))))
    (dss_cons (ds_if (dt_eqQ cn.hu (de_cal D_ldraw cn.cc (da_cons (de_var (i := 0)) (da_cons de_int da_nil)) (by rfl)) (DE.wk de_int)) (dss_cons (ds_par (i := 3) (j := 4) cn (da_cons (de_cal D_lof cn.cc (da_cons (de_var (i := 0)) (da_cons (de_lst (da_cons de_str (da_cons de_str (da_cons de_str (da_cons de_str (da_cons de_str (da_cons de_str (da_cons de_str (da_cons de_str (da_cons de_str (da_cons de_str (da_cons de_str (da_cons de_str (da_cons de_str (da_cons de_str (da_cons de_str da_nil)))))))))))))))) da_nil)) (by rfl)) (da_cons (de_cal D_ldraw cn.cc (da_cons (de_var (i := 0)) (da_cons (de_len T.b_len (db_var (i := 2))) da_nil)) (by rfl)) da_nil)))
    (dss_one (ds_set (i := 2) cn.nd (de_add (de_add (de_sl (de_var (i := 2)) do_none (do_some (de_var (i := 4)))) (db_var (i := 3))) (DE.wk (de_sl (de_var (i := 2)) (do_some (de_add (de_var (i := 4)) (DE.wk (de_cal D_ldraw cn.cc (da_cons (de_var (i := 0)) (da_cons de_int da_nil)) (by rfl))))) do_none)))))) dss_nil)
    (dss_one (ds_ret (de_cal D_lof cn.cc (da_cons (de_var (i := 0)) (da_cons (de_lst (da_cons (de_var (i := 2)) (da_cons (de_var (i := 2)) (da_cons (de_var (i := 2)) (da_cons de_str (da_cons (de_sl (de_var (i := 2)) (do_some de_int) do_none) (da_cons (de_tup (da_cons (de_var (i := 2)) da_nil)) (da_cons (de_lst (da_cons (de_var (i := 2)) da_nil)) (da_cons de_str (da_cons de_str (da_cons de_str da_nil))))))))))) da_nil)) (by rfl)))))))
theorem sc_Row_text : FnScope N_Row_text ["self"] (defScope s_Row_text) := ⟨rfl, rfl, rfl, by decide +kernel, rfl, by decide +kernel, by decide +kernel⟩
theorem ok_Row_text {f : Addr} {fd : FuncData} (T : Tx K mg) (F : Fun K "text" "Row.text" s_Row_text f fd) : FnOk P w K mg base (L2.CX P w) 1 f fd ["self"] (spD K mg G_Row_text) :=
  Fun.okD (k := 0) F sc_Row_text fun Φ cdv A outer s H E cn nM => by
    exact (dss_cons (ds_setF (i := 1) cn.nd (df_lst da_nil))
    (dss_cons (ds_for cn (di_any (de_fldv (i := 0) T.ft)) (dg_name (i := 2) cn.nd) nx_name (dss_one (ds_if (dt_eqQ cn.hu (de_var (i := 2)) (DE.wk (de_fldv (i := 0) T.ft))) (dss_one (ds_apn (i := 1) (de_js (dj_cons de_str (dj_cons (de_fmt (de_var (i := 2))) dj_nil))))) (dss_one (ds_if (dt_eqQ cn.hu (de_var (i := 2)) (DE.wk (de_fldv (i := 0) T.ft))) (dss_one (ds_apn (i := 1) (de_js (dj_cons de_str (dj_cons (de_fmt (de_var (i := 2))) dj_nil))))) (dss_one (ds_apn (i := 1) (de_strI T.b_str (db_var (i := 2))))))))))
    (dss_one (ds_ret (de_join de_str (de_var (i := 1)))))))
theorem sc_lodd : FnScope N_lodd ["_law_bag_here", "_law_ks", "_law_more"] (defScope s_lodd) := ⟨rfl, rfl, rfl, by decide +kernel, rfl, by decide +kernel, by decide +kernel⟩
theorem ok_lodd {f : Addr} {fd : FuncData} (T : Tx K mg) (F : Fun K "_law_odd" "_law_odd" s_lodd f fd) (D_lstranger : Dfn P w K mg base "_law_stranger" 3 G_lstranger) (D_lof : Dfn P w K mg base "_law_of" 2 G_lof) : FnOk P w K mg base (L2.CX P w) 4 f fd ["_law_bag_here", "_law_ks", "_law_more"] (spD K mg G_lodd) :=
  Fun.okD (k := 3) F sc_lodd fun Φ cdv A outer s H E cn nM => by
    exact (dss_cons (ds_set (i := 3) cn.nd (de_cal D_lstranger cn.cc (da_cons (de_var (i := 0)) (da_cons (de_var (i := 1)) da_nil)) (by rfl)))
    (dss_cons (ds_set (i := 4) cn.nd (de_lst (da_cons de_non (da_cons de_bl (da_cons de_bl (da_cons (de_neg (DE.wk de_int)) (da_cons de_int (da_cons (de_pow de_int (DE.wk de_int)) (da_cons de_str (da_cons de_str (da_cons (de_strI T.b_str (db_var (i := 3))) (da_cons (de_var (i := 3)) (da_cons (de_var (i := 3)) (da_cons (de_tup (da_cons (de_var (i := 3)) da_nil)) (da_cons (de_lst (da_cons (de_var (i := 3)) da_nil)) (da_cons (de_tup da_nil) (da_cons de_new (da_cons (de_disp (dps_cons (de_var (i := 3)) de_int dps_nil)) da_nil))))))))))))))))))
    (dss_cons (ds_if (dt_ne cn.hu (de_var (i := 1)) (DE.wk (de_tup da_nil))) (dss_cons (ds_set (i := 5) cn.nd (de_cal D_lof cn.cc (da_cons (de_var (i := 0)) (da_cons (de_var (i := 1)) da_nil)) (by rfl)))
    (dss_one (ds_set (i := 4) cn.nd (de_add (de_var (i := 4)) (DE.wk (de_lst (da_cons (de_strI T.b_str (db_var (i := 5))) (da_cons (de_tup (da_cons (de_var (i := 5)) da_nil)) (da_cons (de_lst (da_cons (de_var (i := 5)) da_nil)) (da_cons (de_sub (de_neg (DE.wk de_int)) (db_var (i := 5))) (da_cons (de_add (de_var (i := 5)) (DE.wk de_int)) (da_cons (de_lst (da_cons (de_var (i := 1)) da_nil)) (da_cons (de_var (i := 1)) da_nil))))))))))))) dss_nil)
    (dss_one (ds_ret (de_cal D_lof cn.cc (da_cons (de_var (i := 0)) (da_cons (de_add (de_var (i := 4)) (db_var (i := 2))) da_nil)) (by rfl)))))))
theorem sc_neighbours_of : FnScope N_neighbours_of ["living", "key"] (defScope s_neighbours_of) := ⟨rfl, rfl, rfl, by decide +kernel, rfl, by decide +kernel, by decide +kernel⟩
theorem ok_neighbours_of {f : Addr} {fd : FuncData} (T : Tx K mg) (F : Fun K "neighbours_of" "neighbours_of" s_neighbours_of f fd) : FnOk P w K mg base (L2.CX P w) 1 f fd ["living", "key"] (spD K mg G_neighbours_of) :=
  Fun.okD (k := 0) F sc_neighbours_of fun Φ cdv A outer s H E cn nM => by
    exact (dss_cons (ds_set (i := 2) cn.nd de_non)
    (dss_cons (ds_set (i := 3) cn.nd de_non)
    (dss_cons (ds_for cn (di_any (de_var (i := 0))) (dg_name (i := 4) cn.nd) nx_name (dss_one (ds_if (dt_lt (de_var (i := 4)) (db_var (i := 1))) (dss_one (ds_set (i := 2) cn.nd (de_var (i := 4)))) (dss_one (ds_if (DW.dt (dw_and (dt_gt (de_var (i := 4)) (db_var (i := 1))) (dw_and1 (dt_isN (de_var (i := 3)) (DE.wk de_non))))) (dss_one (ds_set (i := 3) cn.nd (de_var (i := 4)))) dss_nil)))))
    (dss_one (ds_ret (de_tup (da_cons (de_var (i := 2)) (da_cons (de_var (i := 3)) da_nil))))))))
end L2.DL.K02

namespace L2.DL.K02
open PySem PySem.Spec PyProof.Rows
variable {P : Program} {w : World} {K : PySem.W.Frag} {mg : Str → Option Value} {base : Heap}
/-- all defs together, from what the top has written -/
theorem all_mk {h : Heap} (X : K.In h) (G : h.Ns mainGlobals mg) {fa : Addr}
    {C_UnknownKey : Addr}
    {C_InvalidLot : Addr}
    {C_InvalidMark : Addr}
    {C_Row : Addr}
    {i_UnknownKey N_UnknownKey : Addr} {nm_UnknownKey q_UnknownKey : Str} {bs_UnknownKey bm_UnknownKey : List Value} {sn_UnknownKey : List Str} {sub_UnknownKey : List Value} {ab_UnknownKey : Bool} {col_UnknownKey : Option Bool} {dd_UnknownKey od_UnknownKey an_UnknownKey : Option Addr} {k0_UnknownKey k1_UnknownKey k2_UnknownKey k3_UnknownKey k5_UnknownKey : Option Value} {so_UnknownKey : Array (Option Value)} {oc_UnknownKey kV_UnknownKey dc_UnknownKey pm_UnknownKey cd_UnknownKey ct_UnknownKey : Value}
    {i_InvalidLot N_InvalidLot : Addr} {nm_InvalidLot q_InvalidLot : Str} {bs_InvalidLot bm_InvalidLot : List Value} {sn_InvalidLot : List Str} {sub_InvalidLot : List Value} {ab_InvalidLot : Bool} {col_InvalidLot : Option Bool} {dd_InvalidLot od_InvalidLot an_InvalidLot : Option Addr} {k0_InvalidLot k1_InvalidLot k2_InvalidLot k3_InvalidLot k5_InvalidLot : Option Value} {so_InvalidLot : Array (Option Value)} {oc_InvalidLot kV_InvalidLot dc_InvalidLot pm_InvalidLot cd_InvalidLot ct_InvalidLot : Value}
    {i_InvalidMark N_InvalidMark : Addr} {nm_InvalidMark q_InvalidMark : Str} {bs_InvalidMark bm_InvalidMark : List Value} {sn_InvalidMark : List Str} {sub_InvalidMark : List Value} {ab_InvalidMark : Bool} {col_InvalidMark : Option Bool} {dd_InvalidMark od_InvalidMark an_InvalidMark : Option Addr} {k0_InvalidMark k1_InvalidMark k2_InvalidMark k3_InvalidMark k5_InvalidMark : Option Value} {so_InvalidMark : Array (Option Value)} {oc_InvalidMark kV_InvalidMark dc_InvalidMark pm_InvalidMark cd_InvalidMark ct_InvalidMark : Value}
    {f_fRow_init : Addr} {od_fRow_init an_fRow_init : Option Addr} {sl_fRow_init : Array (Option Value)} {oc_fRow_init dc_fRow_init pm_fRow_init cd_fRow_init ct_fRow_init : Value} {kw_fRow_init : Addr}
    {f_fRow_text : Addr} {od_fRow_text an_fRow_text : Option Addr} {sl_fRow_text : Array (Option Value)} {oc_fRow_text dc_fRow_text pm_fRow_text cd_fRow_text ct_fRow_text : Value} {kV_fRow_text : Value}
    {f_fRow_repr : Addr} {od_fRow_repr an_fRow_repr : Option Addr} {sl_fRow_repr : Array (Option Value)} {oc_fRow_repr dc_fRow_repr pm_fRow_repr cd_fRow_repr ct_fRow_repr : Value} {kV_fRow_repr : Value}
    {f_flbag : Addr} {od_flbag an_flbag : Option Addr} {sl_flbag : Array (Option Value)} {oc_flbag kV_flbag dc_flbag pm_flbag cd_flbag ct_flbag : Value}
    {f_fldraw : Addr} {od_fldraw an_fldraw : Option Addr} {sl_fldraw : Array (Option Value)} {oc_fldraw kV_fldraw dc_fldraw pm_fldraw cd_fldraw ct_fldraw : Value}
    {f_flof : Addr} {od_flof an_flof : Option Addr} {sl_flof : Array (Option Value)} {oc_flof kV_flof dc_flof pm_flof cd_flof ct_flof : Value}
    {f_flkeys : Addr} {od_flkeys an_flkeys : Option Addr} {sl_flkeys : Array (Option Value)} {oc_flkeys kV_flkeys dc_flkeys pm_flkeys cd_flkeys ct_flkeys : Value}
    {f_flnumber : Addr} {od_flnumber an_flnumber : Option Addr} {sl_flnumber : Array (Option Value)} {oc_flnumber kV_flnumber dc_flnumber pm_flnumber cd_flnumber ct_flnumber : Value}
    {f_flword : Addr} {od_flword an_flword : Option Addr} {sl_flword : Array (Option Value)} {oc_flword kV_flword dc_flword pm_flword cd_flword ct_flword : Value}
    {f_fis_key : Addr} {od_fis_key an_fis_key : Option Addr} {sl_fis_key : Array (Option Value)} {oc_fis_key kV_fis_key dc_fis_key pm_fis_key cd_fis_key ct_fis_key : Value}
    {f_fis_key_set : Addr} {od_fis_key_set an_fis_key_set : Option Addr} {sl_fis_key_set : Array (Option Value)} {oc_fis_key_set kV_fis_key_set dc_fis_key_set pm_fis_key_set cd_fis_key_set ct_fis_key_set : Value}
    {f_fis_lot : Addr} {od_fis_lot an_fis_lot : Option Addr} {sl_fis_lot : Array (Option Value)} {oc_fis_lot kV_fis_lot dc_fis_lot pm_fis_lot cd_fis_lot ct_fis_lot : Value}
    {f_fltuple : Addr} {od_fltuple an_fltuple : Option Addr} {sl_fltuple : Array (Option Value)} {oc_fltuple kV_fltuple dc_fltuple pm_fltuple cd_fltuple ct_fltuple : Value}
    {f_flis_name : Addr} {od_flis_name an_flis_name : Option Addr} {sl_flis_name : Array (Option Value)} {oc_flis_name kV_flis_name dc_flis_name pm_flis_name cd_flis_name ct_flis_name : Value}
    {f_flis_key : Addr} {od_flis_key an_flis_key : Option Addr} {sl_flis_key : Array (Option Value)} {oc_flis_key kV_flis_key dc_flis_key pm_flis_key cd_flis_key ct_flis_key : Value}
    {f_flis_set : Addr} {od_flis_set an_flis_set : Option Addr} {sl_flis_set : Array (Option Value)} {oc_flis_set kV_flis_set dc_flis_set pm_flis_set cd_flis_set ct_flis_set : Value}
    {f_flsame : Addr} {od_flsame an_flsame : Option Addr} {sl_flsame : Array (Option Value)} {oc_flsame kV_flsame dc_flsame pm_flsame cd_flsame ct_flsame : Value}
    {f_fis_name : Addr} {od_fis_name an_fis_name : Option Addr} {sl_fis_name : Array (Option Value)} {oc_fis_name kV_fis_name dc_fis_name pm_fis_name cd_fis_name ct_fis_name : Value}
    {f_fljudged : Addr} {od_fljudged an_fljudged : Option Addr} {sl_fljudged : Array (Option Value)} {oc_fljudged kV_fljudged dc_fljudged pm_fljudged cd_fljudged ct_fljudged : Value}
    {f_flstranger : Addr} {od_flstranger an_flstranger : Option Addr} {sl_flstranger : Array (Option Value)} {oc_flstranger kV_flstranger dc_flstranger pm_flstranger cd_flstranger ct_flstranger : Value}
    {f_flodd : Addr} {od_flodd an_flodd : Option Addr} {sl_flodd : Array (Option Value)} {oc_flodd kV_flodd dc_flodd pm_flodd cd_flodd ct_flodd : Value}
    {f_flstretch_due : Addr} {od_flstretch_due an_flstretch_due : Option Addr} {sl_flstretch_due : Array (Option Value)} {oc_flstretch_due kV_flstretch_due dc_flstretch_due pm_flstretch_due cd_flstretch_due ct_flstretch_due : Value}
    {f_fstretch_between : Addr} {od_fstretch_between an_fstretch_between : Option Addr} {sl_fstretch_between : Array (Option Value)} {oc_fstretch_between kV_fstretch_between dc_fstretch_between pm_fstretch_between cd_fstretch_between ct_fstretch_between : Value}
    {f_flstretch : Addr} {od_flstretch an_flstretch : Option Addr} {sl_flstretch : Array (Option Value)} {oc_flstretch kV_flstretch dc_flstretch pm_flstretch cd_flstretch ct_flstretch : Value}
    {f_fneighbours_of : Addr} {od_fneighbours_of an_fneighbours_of : Option Addr} {sl_fneighbours_of : Array (Option Value)} {oc_fneighbours_of kV_fneighbours_of dc_fneighbours_of pm_fneighbours_of cd_fneighbours_of ct_fneighbours_of : Value}
    {f_flnear : Addr} {od_flnear an_flnear : Option Addr} {sl_flnear : Array (Option Value)} {oc_flnear kV_flnear dc_flnear pm_flnear cd_flnear ct_flnear : Value}
    {f_flaw : Addr} {od_flaw an_flaw : Option Addr} {sl_flaw : Array (Option Value)} {oc_flaw kV_flaw dc_flaw pm_flaw cd_flaw ct_flaw : Value} (hfa : mg "law" = some (.ref fa))
    (g_UnknownKey : PySem.W.nsIn K mainGlobals "UnknownKey" = some (some (.ref C_UnknownKey)))
    (g_InvalidLot : PySem.W.nsIn K mainGlobals "InvalidLot" = some (some (.ref C_InvalidLot)))
    (g_InvalidMark : PySem.W.nsIn K mainGlobals "InvalidMark" = some (some (.ref C_InvalidMark)))
    (g_Row : PySem.W.nsIn K mainGlobals "Row" = some (some (.ref C_Row)))
    (xl_UnknownKey : K.lookup C_UnknownKey = some (excClassObj nm_UnknownKey q_UnknownKey C_UnknownKey N_UnknownKey bs_UnknownKey bm_UnknownKey true sn_UnknownKey sub_UnknownKey ab_UnknownKey col_UnknownKey dd_UnknownKey k0_UnknownKey k1_UnknownKey k2_UnknownKey k3_UnknownKey k5_UnknownKey "LookupError.__new__"))
    (xr_UnknownKey : refsB [.type "LookupError", .type "Exception", .type "BaseException", .type "object"] bm_UnknownKey = true)
    (xo_UnknownKey : bm_UnknownKey.contains (.type "object") = true)
    (xs_UnknownKey : PySem.W.findIn K (.ref C_UnknownKey) "__setattr__" = some (some (.builtin "object.__setattr__")))
    (xe_UnknownKey : PySem.W.subIn K (.ref C_UnknownKey) (.type "BaseException") = some true)
    (xt_UnknownKey : PySem.W.typeIn K (.ref C_UnknownKey) = some (.type "type"))
    (xk_UnknownKey : PySem.W.keepIn K (.ref C_UnknownKey) = true)
    (xi_UnknownKey : PySem.W.findIn K (.ref C_UnknownKey) "__init__" = some (some (.ref i_UnknownKey)))
    (xf_UnknownKey : PySem.W.typeIn K (.ref i_UnknownKey) = some (.type "function"))
    (xc_UnknownKey : K.lookup i_UnknownKey = some ⟨oc_UnknownKey, od_UnknownKey, .func (PySem.W.fnOf "__init__" "UnknownKey.__init__" (defArgs s_UnknownKey) (defBody s_UnknownKey) (defScope s_UnknownKey) .none kV_UnknownKey dc_UnknownKey pm_UnknownKey an_UnknownKey cd_UnknownKey ct_UnknownKey), so_UnknownKey⟩)
    (xd_UnknownKey : PySem.W.codeIn K cd_UnknownKey "UnknownKey.__init__" = true)
    (xp_UnknownKey : PySem.W.keepIn K (.ref i_UnknownKey) = true)
    (xg_UnknownKey : PySem.W.findIn K (.ref C_UnknownKey) "__getattribute__" = some (some (.builtin "BaseException.__getattribute__")))
    (xh_UnknownKey : PySem.W.findIn K (.ref C_UnknownKey) "__getattr__" = some none)
    (xj_UnknownKey : PySem.W.hasDictIn K C_UnknownKey = true)
    (xn_UnknownKey_code : PySem.W.findIn K (.ref C_UnknownKey) "code" = some none)
    (xn_UnknownKey_key : PySem.W.findIn K (.ref C_UnknownKey) "key" = some none)
    (xl_InvalidLot : K.lookup C_InvalidLot = some (excClassObj nm_InvalidLot q_InvalidLot C_InvalidLot N_InvalidLot bs_InvalidLot bm_InvalidLot true sn_InvalidLot sub_InvalidLot ab_InvalidLot col_InvalidLot dd_InvalidLot k0_InvalidLot k1_InvalidLot k2_InvalidLot k3_InvalidLot k5_InvalidLot "ValueError.__new__"))
    (xr_InvalidLot : refsB [.type "ValueError", .type "Exception", .type "BaseException", .type "object"] bm_InvalidLot = true)
    (xo_InvalidLot : bm_InvalidLot.contains (.type "object") = true)
    (xs_InvalidLot : PySem.W.findIn K (.ref C_InvalidLot) "__setattr__" = some (some (.builtin "object.__setattr__")))
    (xe_InvalidLot : PySem.W.subIn K (.ref C_InvalidLot) (.type "BaseException") = some true)
    (xt_InvalidLot : PySem.W.typeIn K (.ref C_InvalidLot) = some (.type "type"))
    (xk_InvalidLot : PySem.W.keepIn K (.ref C_InvalidLot) = true)
    (xi_InvalidLot : PySem.W.findIn K (.ref C_InvalidLot) "__init__" = some (some (.ref i_InvalidLot)))
    (xf_InvalidLot : PySem.W.typeIn K (.ref i_InvalidLot) = some (.type "function"))
    (xc_InvalidLot : K.lookup i_InvalidLot = some ⟨oc_InvalidLot, od_InvalidLot, .func (PySem.W.fnOf "__init__" "InvalidLot.__init__" (defArgs s_InvalidLot) (defBody s_InvalidLot) (defScope s_InvalidLot) .none kV_InvalidLot dc_InvalidLot pm_InvalidLot an_InvalidLot cd_InvalidLot ct_InvalidLot), so_InvalidLot⟩)
    (xd_InvalidLot : PySem.W.codeIn K cd_InvalidLot "InvalidLot.__init__" = true)
    (xp_InvalidLot : PySem.W.keepIn K (.ref i_InvalidLot) = true)
    (xg_InvalidLot : PySem.W.findIn K (.ref C_InvalidLot) "__getattribute__" = some (some (.builtin "BaseException.__getattribute__")))
    (xh_InvalidLot : PySem.W.findIn K (.ref C_InvalidLot) "__getattr__" = some none)
    (xj_InvalidLot : PySem.W.hasDictIn K C_InvalidLot = true)
    (xn_InvalidLot_code : PySem.W.findIn K (.ref C_InvalidLot) "code" = some none)
    (xn_InvalidLot_key : PySem.W.findIn K (.ref C_InvalidLot) "key" = some none)
    (xn_InvalidLot_value : PySem.W.findIn K (.ref C_InvalidLot) "value" = some none)
    (xl_InvalidMark : K.lookup C_InvalidMark = some (excClassObj nm_InvalidMark q_InvalidMark C_InvalidMark N_InvalidMark bs_InvalidMark bm_InvalidMark true sn_InvalidMark sub_InvalidMark ab_InvalidMark col_InvalidMark dd_InvalidMark k0_InvalidMark k1_InvalidMark k2_InvalidMark k3_InvalidMark k5_InvalidMark "ValueError.__new__"))
    (xr_InvalidMark : refsB [.type "ValueError", .type "Exception", .type "BaseException", .type "object"] bm_InvalidMark = true)
    (xo_InvalidMark : bm_InvalidMark.contains (.type "object") = true)
    (xs_InvalidMark : PySem.W.findIn K (.ref C_InvalidMark) "__setattr__" = some (some (.builtin "object.__setattr__")))
    (xe_InvalidMark : PySem.W.subIn K (.ref C_InvalidMark) (.type "BaseException") = some true)
    (xt_InvalidMark : PySem.W.typeIn K (.ref C_InvalidMark) = some (.type "type"))
    (xk_InvalidMark : PySem.W.keepIn K (.ref C_InvalidMark) = true)
    (xi_InvalidMark : PySem.W.findIn K (.ref C_InvalidMark) "__init__" = some (some (.ref i_InvalidMark)))
    (xf_InvalidMark : PySem.W.typeIn K (.ref i_InvalidMark) = some (.type "function"))
    (xc_InvalidMark : K.lookup i_InvalidMark = some ⟨oc_InvalidMark, od_InvalidMark, .func (PySem.W.fnOf "__init__" "InvalidMark.__init__" (defArgs s_InvalidMark) (defBody s_InvalidMark) (defScope s_InvalidMark) .none kV_InvalidMark dc_InvalidMark pm_InvalidMark an_InvalidMark cd_InvalidMark ct_InvalidMark), so_InvalidMark⟩)
    (xd_InvalidMark : PySem.W.codeIn K cd_InvalidMark "InvalidMark.__init__" = true)
    (xp_InvalidMark : PySem.W.keepIn K (.ref i_InvalidMark) = true)
    (xg_InvalidMark : PySem.W.findIn K (.ref C_InvalidMark) "__getattribute__" = some (some (.builtin "BaseException.__getattribute__")))
    (xh_InvalidMark : PySem.W.findIn K (.ref C_InvalidMark) "__getattr__" = some none)
    (xj_InvalidMark : PySem.W.hasDictIn K C_InvalidMark = true)
    (xn_InvalidMark_code : PySem.W.findIn K (.ref C_InvalidMark) "code" = some none)
    (xn_InvalidMark_key : PySem.W.findIn K (.ref C_InvalidMark) "key" = some none)
    (xn_InvalidMark_value : PySem.W.findIn K (.ref C_InvalidMark) "value" = some none)
    (ic_UnknownKey : PySem.W.isClsIn K C_UnknownKey = true)
    (sb_UnknownKey_UnknownKey : PySem.W.subIn K (.ref C_UnknownKey) (.ref C_UnknownKey) = some true)
    (sb_InvalidLot_UnknownKey : PySem.W.subIn K (.ref C_InvalidLot) (.ref C_UnknownKey) = some false)
    (sb_InvalidMark_UnknownKey : PySem.W.subIn K (.ref C_InvalidMark) (.ref C_UnknownKey) = some false)
    (cpg_Row : PySem.W.plainGet K C_Row Str.empty = true)
    (chd_Row : PySem.W.hasDictIn K C_Row = true)
    (cpo_Row : PySem.W.plainOver K C_Row = true)
    (csa_Row : PySem.W.findIn K (.ref C_Row) "__setattr__" = some (some (.builtin "object.__setattr__")))
    (nf_Row_lot : PySem.W.findIn K (.ref C_Row) "lot" = some none)
    (nf_Row_coming : PySem.W.findIn K (.ref C_Row) "coming" = some none)
    (nf_Row_going : PySem.W.findIn K (.ref C_Row) "going" = some none)
    (mk_Row : PySem.W.makesIn K C_Row = true)
    (kc_Row : PySem.W.keepIn K (.ref C_Row) = true)
    (at_fRow_init : PySem.W.findIn K (.ref C_Row) "__init__" = some (some (.ref f_fRow_init)))
    (fn_fRow_init : PySem.W.isFn K (.ref f_fRow_init) = true)
    (l_fRow_init : K.lookup f_fRow_init = some ⟨oc_fRow_init, od_fRow_init, .func (PySem.W.fnOf "__init__" "Row.__init__" (defArgs s_Row_init) (defBody s_Row_init) (defScope s_Row_init) .none (.ref kw_fRow_init) dc_fRow_init pm_fRow_init an_fRow_init cd_fRow_init ct_fRow_init), sl_fRow_init⟩)
    (c_fRow_init : PySem.W.codeIn K cd_fRow_init "Row.__init__" = true)
    (k_fRow_init : PySem.W.keepIn K (.ref f_fRow_init) = true)
    (kd_fRow_init_coming : PySem.W.nsIn K kw_fRow_init "coming" = some (some .none))
    (kd_fRow_init_going : PySem.W.nsIn K kw_fRow_init "going" = some (some .none))
    (at_fRow_text : PySem.W.findIn K (.ref C_Row) "text" = some (some (.ref f_fRow_text)))
    (fn_fRow_text : PySem.W.isFn K (.ref f_fRow_text) = true)
    (l_fRow_text : K.lookup f_fRow_text = some ⟨oc_fRow_text, od_fRow_text, .func (PySem.W.fnOf "text" "Row.text" (defArgs s_Row_text) (defBody s_Row_text) (defScope s_Row_text) .none kV_fRow_text dc_fRow_text pm_fRow_text an_fRow_text cd_fRow_text ct_fRow_text), sl_fRow_text⟩)
    (c_fRow_text : PySem.W.codeIn K cd_fRow_text "Row.text" = true)
    (k_fRow_text : PySem.W.keepIn K (.ref f_fRow_text) = true)
    (at_fRow_repr : PySem.W.findIn K (.ref C_Row) "__repr__" = some (some (.ref f_fRow_repr)))
    (fn_fRow_repr : PySem.W.isFn K (.ref f_fRow_repr) = true)
    (l_fRow_repr : K.lookup f_fRow_repr = some ⟨oc_fRow_repr, od_fRow_repr, .func (PySem.W.fnOf "__repr__" "Row.__repr__" (defArgs s_Row_repr) (defBody s_Row_repr) (defScope s_Row_repr) .none kV_fRow_repr dc_fRow_repr pm_fRow_repr an_fRow_repr cd_fRow_repr ct_fRow_repr), sl_fRow_repr⟩)
    (c_fRow_repr : PySem.W.codeIn K cd_fRow_repr "Row.__repr__" = true)
    (k_fRow_repr : PySem.W.keepIn K (.ref f_fRow_repr) = true)
    (og : PySem.W.specialIn K (.builtin "object.__class__") "__get__" = some (some (.builtin "getset_descriptor.__get__")))
    (otk : PySem.W.takesIn K (.builtin "object.__class__") = some true)
    (oh_Row : PySem.W.findIn K (.ref C_Row) "__class__" = some (some (.builtin "object.__class__")))
    (om_Row : PySem.W.mroIn K C_Row (.type "object") = some true)
    (kk_4 : PySem.W.subIn K (.ref C_Row) (.type "tuple") = some false)
    (kk_3 : PySem.W.subIn K (.ref C_Row) (.type "str") = some false)
    (kk_2 : PySem.W.subIn K (.ref C_Row) (.type "list") = some false)
    (kk_1 : PySem.W.subIn K (.ref C_Row) (.type "int") = some false)
    (kk_0 : PySem.W.subIn K (.ref C_Row) (.type "bool") = some false)
    (bz_abs : PySem.W.nsIn K mainGlobals "abs" = some none)
    (bz_all : PySem.W.nsIn K mainGlobals "all" = some none)
    (bz_bool : PySem.W.nsIn K mainGlobals "bool" = some none)
    (bz_int : PySem.W.nsIn K mainGlobals "int" = some none)
    (bz_isinstance : PySem.W.nsIn K mainGlobals "isinstance" = some none)
    (bz_len : PySem.W.nsIn K mainGlobals "len" = some none)
    (bz_list : PySem.W.nsIn K mainGlobals "list" = some none)
    (bz_max : PySem.W.nsIn K mainGlobals "max" = some none)
    (bz_min : PySem.W.nsIn K mainGlobals "min" = some none)
    (bz_range : PySem.W.nsIn K mainGlobals "range" = some none)
    (bz_repr : PySem.W.nsIn K mainGlobals "repr" = some none)
    (bz_sorted : PySem.W.nsIn K mainGlobals "sorted" = some none)
    (bz_str : PySem.W.nsIn K mainGlobals "str" = some none)
    (bz_tuple : PySem.W.nsIn K mainGlobals "tuple" = some none)
    (bz_zip : PySem.W.nsIn K mainGlobals "zip" = some none)
    (a_flbag : PySem.W.nsIn K mainGlobals "_law_bag" = some (some (.ref f_flbag)))
    (l_flbag : K.lookup f_flbag = some ⟨oc_flbag, od_flbag, .func (PySem.W.fnOf "_law_bag" "_law_bag" (defArgs s_lbag) (defBody s_lbag) (defScope s_lbag) .none kV_flbag dc_flbag pm_flbag an_flbag cd_flbag ct_flbag), sl_flbag⟩)
    (c_flbag : PySem.W.codeIn K cd_flbag "_law_bag" = true)
    (k_flbag : PySem.W.keepIn K (.ref f_flbag) = true)
    (a_fldraw : PySem.W.nsIn K mainGlobals "_law_draw" = some (some (.ref f_fldraw)))
    (l_fldraw : K.lookup f_fldraw = some ⟨oc_fldraw, od_fldraw, .func (PySem.W.fnOf "_law_draw" "_law_draw" (defArgs s_ldraw) (defBody s_ldraw) (defScope s_ldraw) .none kV_fldraw dc_fldraw pm_fldraw an_fldraw cd_fldraw ct_fldraw), sl_fldraw⟩)
    (c_fldraw : PySem.W.codeIn K cd_fldraw "_law_draw" = true)
    (k_fldraw : PySem.W.keepIn K (.ref f_fldraw) = true)
    (a_flof : PySem.W.nsIn K mainGlobals "_law_of" = some (some (.ref f_flof)))
    (l_flof : K.lookup f_flof = some ⟨oc_flof, od_flof, .func (PySem.W.fnOf "_law_of" "_law_of" (defArgs s_lof) (defBody s_lof) (defScope s_lof) .none kV_flof dc_flof pm_flof an_flof cd_flof ct_flof), sl_flof⟩)
    (c_flof : PySem.W.codeIn K cd_flof "_law_of" = true)
    (k_flof : PySem.W.keepIn K (.ref f_flof) = true)
    (a_flkeys : PySem.W.nsIn K mainGlobals "_law_keys" = some (some (.ref f_flkeys)))
    (l_flkeys : K.lookup f_flkeys = some ⟨oc_flkeys, od_flkeys, .func (PySem.W.fnOf "_law_keys" "_law_keys" (defArgs s_lkeys) (defBody s_lkeys) (defScope s_lkeys) .none kV_flkeys dc_flkeys pm_flkeys an_flkeys cd_flkeys ct_flkeys), sl_flkeys⟩)
    (c_flkeys : PySem.W.codeIn K cd_flkeys "_law_keys" = true)
    (k_flkeys : PySem.W.keepIn K (.ref f_flkeys) = true)
    (a_flnumber : PySem.W.nsIn K mainGlobals "_law_number" = some (some (.ref f_flnumber)))
    (l_flnumber : K.lookup f_flnumber = some ⟨oc_flnumber, od_flnumber, .func (PySem.W.fnOf "_law_number" "_law_number" (defArgs s_lnumber) (defBody s_lnumber) (defScope s_lnumber) .none kV_flnumber dc_flnumber pm_flnumber an_flnumber cd_flnumber ct_flnumber), sl_flnumber⟩)
    (c_flnumber : PySem.W.codeIn K cd_flnumber "_law_number" = true)
    (k_flnumber : PySem.W.keepIn K (.ref f_flnumber) = true)
    (a_flword : PySem.W.nsIn K mainGlobals "_law_word" = some (some (.ref f_flword)))
    (l_flword : K.lookup f_flword = some ⟨oc_flword, od_flword, .func (PySem.W.fnOf "_law_word" "_law_word" (defArgs s_lword) (defBody s_lword) (defScope s_lword) .none kV_flword dc_flword pm_flword an_flword cd_flword ct_flword), sl_flword⟩)
    (c_flword : PySem.W.codeIn K cd_flword "_law_word" = true)
    (k_flword : PySem.W.keepIn K (.ref f_flword) = true)
    (a_fis_key : PySem.W.nsIn K mainGlobals "is_key" = some (some (.ref f_fis_key)))
    (l_fis_key : K.lookup f_fis_key = some ⟨oc_fis_key, od_fis_key, .func (PySem.W.fnOf "is_key" "is_key" (defArgs s_is_key) (defBody s_is_key) (defScope s_is_key) .none kV_fis_key dc_fis_key pm_fis_key an_fis_key cd_fis_key ct_fis_key), sl_fis_key⟩)
    (c_fis_key : PySem.W.codeIn K cd_fis_key "is_key" = true)
    (k_fis_key : PySem.W.keepIn K (.ref f_fis_key) = true)
    (a_fis_key_set : PySem.W.nsIn K mainGlobals "is_key_set" = some (some (.ref f_fis_key_set)))
    (l_fis_key_set : K.lookup f_fis_key_set = some ⟨oc_fis_key_set, od_fis_key_set, .func (PySem.W.fnOf "is_key_set" "is_key_set" (defArgs s_is_key_set) (defBody s_is_key_set) (defScope s_is_key_set) .none kV_fis_key_set dc_fis_key_set pm_fis_key_set an_fis_key_set cd_fis_key_set ct_fis_key_set), sl_fis_key_set⟩)
    (c_fis_key_set : PySem.W.codeIn K cd_fis_key_set "is_key_set" = true)
    (k_fis_key_set : PySem.W.keepIn K (.ref f_fis_key_set) = true)
    (a_fis_lot : PySem.W.nsIn K mainGlobals "is_lot" = some (some (.ref f_fis_lot)))
    (l_fis_lot : K.lookup f_fis_lot = some ⟨oc_fis_lot, od_fis_lot, .func (PySem.W.fnOf "is_lot" "is_lot" (defArgs s_is_lot) (defBody s_is_lot) (defScope s_is_lot) .none kV_fis_lot dc_fis_lot pm_fis_lot an_fis_lot cd_fis_lot ct_fis_lot), sl_fis_lot⟩)
    (c_fis_lot : PySem.W.codeIn K cd_fis_lot "is_lot" = true)
    (k_fis_lot : PySem.W.keepIn K (.ref f_fis_lot) = true)
    (a_fltuple : PySem.W.nsIn K mainGlobals "_law_tuple" = some (some (.ref f_fltuple)))
    (l_fltuple : K.lookup f_fltuple = some ⟨oc_fltuple, od_fltuple, .func (PySem.W.fnOf "_law_tuple" "_law_tuple" (defArgs s_ltuple) (defBody s_ltuple) (defScope s_ltuple) .none kV_fltuple dc_fltuple pm_fltuple an_fltuple cd_fltuple ct_fltuple), sl_fltuple⟩)
    (c_fltuple : PySem.W.codeIn K cd_fltuple "_law_tuple" = true)
    (k_fltuple : PySem.W.keepIn K (.ref f_fltuple) = true)
    (a_flis_name : PySem.W.nsIn K mainGlobals "_law_is_name" = some (some (.ref f_flis_name)))
    (l_flis_name : K.lookup f_flis_name = some ⟨oc_flis_name, od_flis_name, .func (PySem.W.fnOf "_law_is_name" "_law_is_name" (defArgs s_lis_name) (defBody s_lis_name) (defScope s_lis_name) .none kV_flis_name dc_flis_name pm_flis_name an_flis_name cd_flis_name ct_flis_name), sl_flis_name⟩)
    (c_flis_name : PySem.W.codeIn K cd_flis_name "_law_is_name" = true)
    (k_flis_name : PySem.W.keepIn K (.ref f_flis_name) = true)
    (a_flis_key : PySem.W.nsIn K mainGlobals "_law_is_key" = some (some (.ref f_flis_key)))
    (l_flis_key : K.lookup f_flis_key = some ⟨oc_flis_key, od_flis_key, .func (PySem.W.fnOf "_law_is_key" "_law_is_key" (defArgs s_lis_key) (defBody s_lis_key) (defScope s_lis_key) .none kV_flis_key dc_flis_key pm_flis_key an_flis_key cd_flis_key ct_flis_key), sl_flis_key⟩)
    (c_flis_key : PySem.W.codeIn K cd_flis_key "_law_is_key" = true)
    (k_flis_key : PySem.W.keepIn K (.ref f_flis_key) = true)
    (a_flis_set : PySem.W.nsIn K mainGlobals "_law_is_set" = some (some (.ref f_flis_set)))
    (l_flis_set : K.lookup f_flis_set = some ⟨oc_flis_set, od_flis_set, .func (PySem.W.fnOf "_law_is_set" "_law_is_set" (defArgs s_lis_set) (defBody s_lis_set) (defScope s_lis_set) .none kV_flis_set dc_flis_set pm_flis_set an_flis_set cd_flis_set ct_flis_set), sl_flis_set⟩)
    (c_flis_set : PySem.W.codeIn K cd_flis_set "_law_is_set" = true)
    (k_flis_set : PySem.W.keepIn K (.ref f_flis_set) = true)
    (a_flsame : PySem.W.nsIn K mainGlobals "_law_same" = some (some (.ref f_flsame)))
    (l_flsame : K.lookup f_flsame = some ⟨oc_flsame, od_flsame, .func (PySem.W.fnOf "_law_same" "_law_same" (defArgs s_lsame) (defBody s_lsame) (defScope s_lsame) .none kV_flsame dc_flsame pm_flsame an_flsame cd_flsame ct_flsame), sl_flsame⟩)
    (c_flsame : PySem.W.codeIn K cd_flsame "_law_same" = true)
    (k_flsame : PySem.W.keepIn K (.ref f_flsame) = true)
    (a_fis_name : PySem.W.nsIn K mainGlobals "is_name" = some (some (.ref f_fis_name)))
    (l_fis_name : K.lookup f_fis_name = some ⟨oc_fis_name, od_fis_name, .func (PySem.W.fnOf "is_name" "is_name" (defArgs s_is_name) (defBody s_is_name) (defScope s_is_name) .none kV_fis_name dc_fis_name pm_fis_name an_fis_name cd_fis_name ct_fis_name), sl_fis_name⟩)
    (c_fis_name : PySem.W.codeIn K cd_fis_name "is_name" = true)
    (k_fis_name : PySem.W.keepIn K (.ref f_fis_name) = true)
    (a_fljudged : PySem.W.nsIn K mainGlobals "_law_judged" = some (some (.ref f_fljudged)))
    (l_fljudged : K.lookup f_fljudged = some ⟨oc_fljudged, od_fljudged, .func (PySem.W.fnOf "_law_judged" "_law_judged" (defArgs s_ljudged) (defBody s_ljudged) (defScope s_ljudged) .none kV_fljudged dc_fljudged pm_fljudged an_fljudged cd_fljudged ct_fljudged), sl_fljudged⟩)
    (c_fljudged : PySem.W.codeIn K cd_fljudged "_law_judged" = true)
    (k_fljudged : PySem.W.keepIn K (.ref f_fljudged) = true)
    (a_flstranger : PySem.W.nsIn K mainGlobals "_law_stranger" = some (some (.ref f_flstranger)))
    (l_flstranger : K.lookup f_flstranger = some ⟨oc_flstranger, od_flstranger, .func (PySem.W.fnOf "_law_stranger" "_law_stranger" (defArgs s_lstranger) (defBody s_lstranger) (defScope s_lstranger) .none kV_flstranger dc_flstranger pm_flstranger an_flstranger cd_flstranger ct_flstranger), sl_flstranger⟩)
    (c_flstranger : PySem.W.codeIn K cd_flstranger "_law_stranger" = true)
    (k_flstranger : PySem.W.keepIn K (.ref f_flstranger) = true)
    (a_flodd : PySem.W.nsIn K mainGlobals "_law_odd" = some (some (.ref f_flodd)))
    (l_flodd : K.lookup f_flodd = some ⟨oc_flodd, od_flodd, .func (PySem.W.fnOf "_law_odd" "_law_odd" (defArgs s_lodd) (defBody s_lodd) (defScope s_lodd) .none kV_flodd dc_flodd pm_flodd an_flodd cd_flodd ct_flodd), sl_flodd⟩)
    (c_flodd : PySem.W.codeIn K cd_flodd "_law_odd" = true)
    (k_flodd : PySem.W.keepIn K (.ref f_flodd) = true)
    (a_flstretch_due : PySem.W.nsIn K mainGlobals "_law_stretch_due" = some (some (.ref f_flstretch_due)))
    (l_flstretch_due : K.lookup f_flstretch_due = some ⟨oc_flstretch_due, od_flstretch_due, .func (PySem.W.fnOf "_law_stretch_due" "_law_stretch_due" (defArgs s_lstretch_due) (defBody s_lstretch_due) (defScope s_lstretch_due) .none kV_flstretch_due dc_flstretch_due pm_flstretch_due an_flstretch_due cd_flstretch_due ct_flstretch_due), sl_flstretch_due⟩)
    (c_flstretch_due : PySem.W.codeIn K cd_flstretch_due "_law_stretch_due" = true)
    (k_flstretch_due : PySem.W.keepIn K (.ref f_flstretch_due) = true)
    (a_fstretch_between : PySem.W.nsIn K mainGlobals "stretch_between" = some (some (.ref f_fstretch_between)))
    (l_fstretch_between : K.lookup f_fstretch_between = some ⟨oc_fstretch_between, od_fstretch_between, .func (PySem.W.fnOf "stretch_between" "stretch_between" (defArgs s_stretch_between) (defBody s_stretch_between) (defScope s_stretch_between) .none kV_fstretch_between dc_fstretch_between pm_fstretch_between an_fstretch_between cd_fstretch_between ct_fstretch_between), sl_fstretch_between⟩)
    (c_fstretch_between : PySem.W.codeIn K cd_fstretch_between "stretch_between" = true)
    (k_fstretch_between : PySem.W.keepIn K (.ref f_fstretch_between) = true)
    (a_flstretch : PySem.W.nsIn K mainGlobals "_law_stretch" = some (some (.ref f_flstretch)))
    (l_flstretch : K.lookup f_flstretch = some ⟨oc_flstretch, od_flstretch, .func (PySem.W.fnOf "_law_stretch" "_law_stretch" (defArgs s_lstretch) (defBody s_lstretch) (defScope s_lstretch) .none kV_flstretch dc_flstretch pm_flstretch an_flstretch cd_flstretch ct_flstretch), sl_flstretch⟩)
    (c_flstretch : PySem.W.codeIn K cd_flstretch "_law_stretch" = true)
    (k_flstretch : PySem.W.keepIn K (.ref f_flstretch) = true)
    (a_fneighbours_of : PySem.W.nsIn K mainGlobals "neighbours_of" = some (some (.ref f_fneighbours_of)))
    (l_fneighbours_of : K.lookup f_fneighbours_of = some ⟨oc_fneighbours_of, od_fneighbours_of, .func (PySem.W.fnOf "neighbours_of" "neighbours_of" (defArgs s_neighbours_of) (defBody s_neighbours_of) (defScope s_neighbours_of) .none kV_fneighbours_of dc_fneighbours_of pm_fneighbours_of an_fneighbours_of cd_fneighbours_of ct_fneighbours_of), sl_fneighbours_of⟩)
    (c_fneighbours_of : PySem.W.codeIn K cd_fneighbours_of "neighbours_of" = true)
    (k_fneighbours_of : PySem.W.keepIn K (.ref f_fneighbours_of) = true)
    (a_flnear : PySem.W.nsIn K mainGlobals "_law_near" = some (some (.ref f_flnear)))
    (l_flnear : K.lookup f_flnear = some ⟨oc_flnear, od_flnear, .func (PySem.W.fnOf "_law_near" "_law_near" (defArgs s_lnear) (defBody s_lnear) (defScope s_lnear) .none kV_flnear dc_flnear pm_flnear an_flnear cd_flnear ct_flnear), sl_flnear⟩)
    (c_flnear : PySem.W.codeIn K cd_flnear "_law_near" = true)
    (k_flnear : PySem.W.keepIn K (.ref f_flnear) = true)
    (a_flaw : PySem.W.nsIn K mainGlobals "law" = some (some (.ref f_flaw)))
    (l_flaw : K.lookup f_flaw = some ⟨oc_flaw, od_flaw, .func (PySem.W.fnOf "law" "law" (defArgs s_law) (defBody s_law) (defScope s_law) .none kV_flaw dc_flaw pm_flaw an_flaw cd_flaw ct_flaw), sl_flaw⟩)
    (c_flaw : PySem.W.codeIn K cd_flaw "law" = true)
    (k_flaw : PySem.W.keepIn K (.ref f_flaw) = true) :
    ∃ fd : FuncData, (∀ (s : Shared) (u : Value), BindsTo s fd ⟨[u], []⟩ [("_law_script", u)]) ∧ ∀ base : Heap, K.In base → base.Ns mainGlobals mg → SysM base → RunAt P w K mg base callerA fa fd ["_law_script"] (spD K mg G_law) := by
  have e0 : fa = f_flaw := by cases hfa.symm.trans (PySem.W.mg_of X G a_flaw); rfl
  rw [e0]
  have M_UnknownKey := PySem.W.mg_of X G g_UnknownKey
  have M_InvalidLot := PySem.W.mg_of X G g_InvalidLot
  have M_InvalidMark := PySem.W.mg_of X G g_InvalidMark
  have M_Row := PySem.W.mg_of X G g_Row
  have E_UnknownKey : ErrG K mg "UnknownKey" "UnknownKey.__init__" s_UnknownKey C_UnknownKey i_UnknownKey _ "LookupError" "LookupError.__new__" "LookupError.__init__" [.type "LookupError", .type "Exception", .type "BaseException", .type "object"] := ⟨M_UnknownKey, PySem.F.excBase_LookupError, exc_mk xl_UnknownKey PySem.F.store_LookupError.passes xr_UnknownKey xo_UnknownKey xs_UnknownKey xe_UnknownKey xt_UnknownKey xk_UnknownKey, xi_UnknownKey, xf_UnknownKey, fun_mk (st := s_UnknownKey) xc_UnknownKey xd_UnknownKey xp_UnknownKey⟩
  have no_UnknownKey : ∀ p ∈ L_UnknownKey, PySem.W.findIn K (.ref C_UnknownKey) p.1 = some none := by
    intro p hp
    simp only [L_UnknownKey, List.mem_cons, List.not_mem_nil, or_false] at hp
    rcases hp with rfl | rfl
    · exact xn_UnknownKey_code
    · exact xn_UnknownKey_key
  have E_InvalidLot : ErrG K mg "InvalidLot" "InvalidLot.__init__" s_InvalidLot C_InvalidLot i_InvalidLot _ "ValueError" "ValueError.__new__" "ValueError.__init__" [.type "ValueError", .type "Exception", .type "BaseException", .type "object"] := ⟨M_InvalidLot, PySem.F.excBase_ValueError, exc_mk xl_InvalidLot PySem.F.store_ValueError.passes xr_InvalidLot xo_InvalidLot xs_InvalidLot xe_InvalidLot xt_InvalidLot xk_InvalidLot, xi_InvalidLot, xf_InvalidLot, fun_mk (st := s_InvalidLot) xc_InvalidLot xd_InvalidLot xp_InvalidLot⟩
  have no_InvalidLot : ∀ p ∈ L_InvalidLot, PySem.W.findIn K (.ref C_InvalidLot) p.1 = some none := by
    intro p hp
    simp only [L_InvalidLot, List.mem_cons, List.not_mem_nil, or_false] at hp
    rcases hp with rfl | rfl
    · exact xn_InvalidLot_code
    · exact xn_InvalidLot_value
  have E_InvalidMark : ErrG K mg "InvalidMark" "InvalidMark.__init__" s_InvalidMark C_InvalidMark i_InvalidMark _ "ValueError" "ValueError.__new__" "ValueError.__init__" [.type "ValueError", .type "Exception", .type "BaseException", .type "object"] := ⟨M_InvalidMark, PySem.F.excBase_ValueError, exc_mk xl_InvalidMark PySem.F.store_ValueError.passes xr_InvalidMark xo_InvalidMark xs_InvalidMark xe_InvalidMark xt_InvalidMark xk_InvalidMark, xi_InvalidMark, xf_InvalidMark, fun_mk (st := s_InvalidMark) xc_InvalidMark xd_InvalidMark xp_InvalidMark⟩
  have no_InvalidMark : ∀ p ∈ L_InvalidMark, PySem.W.findIn K (.ref C_InvalidMark) p.1 = some none := by
    intro p hp
    simp only [L_InvalidMark, List.mem_cons, List.not_mem_nil, or_false] at hp
    rcases hp with rfl | rfl
    · exact xn_InvalidMark_code
    · exact xn_InvalidMark_value
  have CL_Row : Cls K C_Row := ⟨cpg_Row, chd_Row, cpo_Row, csa_Row⟩
  have F_Row_init : Fun K "__init__" "Row.__init__" s_Row_init f_fRow_init _ := fun_mk (st := s_Row_init) l_fRow_init c_fRow_init k_fRow_init
  have MT_Row_init : Meth K C_Row "__init__" f_fRow_init := ⟨at_fRow_init, fn_fRow_init, k_fRow_init⟩
  have F_Row_text : Fun K "text" "Row.text" s_Row_text f_fRow_text _ := fun_mk (st := s_Row_text) l_fRow_text c_fRow_text k_fRow_text
  have MT_Row_text : Meth K C_Row "text" f_fRow_text := ⟨at_fRow_text, fn_fRow_text, k_fRow_text⟩
  have F_Row_repr : Fun K "__repr__" "Row.__repr__" s_Row_repr f_fRow_repr _ := fun_mk (st := s_Row_repr) l_fRow_repr c_fRow_repr k_fRow_repr
  have MT_Row_repr : Meth K C_Row "__repr__" f_fRow_repr := ⟨at_fRow_repr, fn_fRow_repr, k_fRow_repr⟩
  have FTT : FtOk K mg ftT := (ft_cons M_Row CL_Row (by
      intro f hf
      simp only [List.mem_cons, List.not_mem_nil, or_false] at hf
      rcases hf with rfl | rfl | rfl
      · exact nf_Row_lot
      · exact nf_Row_coming
      · exact nf_Row_going) ft_nil)
  have OCC : OcOk K mg ocT := (oc_cons M_Row CL_Row oh_Row og otk om_Row oc_nil)
  have KTT : KtOk K mg ktT := (kt_cons (tyv_o M_Row) tyv_b (kit_b kk_0) (kt_cons (tyv_o M_Row) tyv_b (kit_b kk_1) (kt_cons (tyv_o M_Row) tyv_b (kit_b kk_2) (kt_cons (tyv_o M_Row) tyv_b (kit_b kk_3) (kt_cons (tyv_o M_Row) tyv_b (kit_b kk_4) kt_nil)))))
  have SB : SubOk K mg subT := by
    intro c h b e Cc Hc m1 m2
    have e := sub_mem e
    simp only [subT, List.mem_cons, List.not_mem_nil, or_false, Prod.mk.injEq] at e
    rcases e with ⟨⟨rfl, rfl⟩, rfl⟩ | ⟨⟨rfl, rfl⟩, rfl⟩ | ⟨⟨rfl, rfl⟩, rfl⟩
    · cases M_UnknownKey.symm.trans m1; cases M_UnknownKey.symm.trans m2; exact exm_mk xe_UnknownKey ic_UnknownKey xt_UnknownKey sb_UnknownKey_UnknownKey
    · cases M_InvalidLot.symm.trans m1; cases M_UnknownKey.symm.trans m2; exact exm_mk xe_UnknownKey ic_UnknownKey xt_UnknownKey sb_InvalidLot_UnknownKey
    · cases M_InvalidMark.symm.trans m1; cases M_UnknownKey.symm.trans m2; exact exm_mk xe_UnknownKey ic_UnknownKey xt_UnknownKey sb_InvalidMark_UnknownKey
  have XF : XfT K mg csT fsT := by
    intro c hc Cc m
    simp only [csT, List.mem_cons, List.not_mem_nil, or_false] at hc
    rcases hc with rfl | rfl | rfl
    · cases M_UnknownKey.symm.trans m
      refine ⟨⟨xg_UnknownKey, xh_UnknownKey, xe_UnknownKey, xj_UnknownKey⟩, fun f hf => ?_⟩
      simp only [fsT, List.mem_cons, List.not_mem_nil, or_false] at hf
      rcases hf with rfl | rfl
      · exact xn_UnknownKey_code
      · exact xn_UnknownKey_key
    · cases M_InvalidLot.symm.trans m
      refine ⟨⟨xg_InvalidLot, xh_InvalidLot, xe_InvalidLot, xj_InvalidLot⟩, fun f hf => ?_⟩
      simp only [fsT, List.mem_cons, List.not_mem_nil, or_false] at hf
      rcases hf with rfl | rfl
      · exact xn_InvalidLot_code
      · exact xn_InvalidLot_key
    · cases M_InvalidMark.symm.trans m
      refine ⟨⟨xg_InvalidMark, xh_InvalidMark, xe_InvalidMark, xj_InvalidMark⟩, fun f hf => ?_⟩
      simp only [fsT, List.mem_cons, List.not_mem_nil, or_false] at hf
      rcases hf with rfl | rfl
      · exact xn_InvalidMark_code
      · exact xn_InvalidMark_key
  have F_lbag : FunG K mg "_law_bag" s_lbag f_flbag _ := ⟨fun_mk (st := s_lbag) l_flbag c_flbag k_flbag, PySem.W.mg_of X G a_flbag⟩
  have B_lbag := F_lbag.fn.binds (ps := ["_law_script"]) fun _ _ _ _ _ _ us hl => match us, hl with | [_], _ => rfl
  have F_ldraw : FunG K mg "_law_draw" s_ldraw f_fldraw _ := ⟨fun_mk (st := s_ldraw) l_fldraw c_fldraw k_fldraw, PySem.W.mg_of X G a_fldraw⟩
  have B_ldraw := F_ldraw.fn.binds (ps := ["_law_bag_here", "_law_top"]) fun _ _ _ _ _ _ us hl => match us, hl with | [_, _], _ => rfl
  have F_lof : FunG K mg "_law_of" s_lof f_flof _ := ⟨fun_mk (st := s_lof) l_flof c_flof k_flof, PySem.W.mg_of X G a_flof⟩
  have B_lof := F_lof.fn.binds (ps := ["_law_bag_here", "_law_some"]) fun _ _ _ _ _ _ us hl => match us, hl with | [_, _], _ => rfl
  have F_lkeys : FunG K mg "_law_keys" s_lkeys f_flkeys _ := ⟨fun_mk (st := s_lkeys) l_flkeys c_flkeys k_flkeys, PySem.W.mg_of X G a_flkeys⟩
  have B_lkeys := F_lkeys.fn.binds (ps := ["_law_bag_here", "_law_many"]) fun _ _ _ _ _ _ us hl => match us, hl with | [_, _], _ => rfl
  have F_lnumber : FunG K mg "_law_number" s_lnumber f_flnumber _ := ⟨fun_mk (st := s_lnumber) l_flnumber c_flnumber k_flnumber, PySem.W.mg_of X G a_flnumber⟩
  have B_lnumber := F_lnumber.fn.binds (ps := ["_law_bag_here"]) fun _ _ _ _ _ _ us hl => match us, hl with | [_], _ => rfl
  have F_lword : FunG K mg "_law_word" s_lword f_flword _ := ⟨fun_mk (st := s_lword) l_flword c_flword k_flword, PySem.W.mg_of X G a_flword⟩
  have B_lword := F_lword.fn.binds (ps := ["_law_bag_here"]) fun _ _ _ _ _ _ us hl => match us, hl with | [_], _ => rfl
  have F_is_key : FunG K mg "is_key" s_is_key f_fis_key _ := ⟨fun_mk (st := s_is_key) l_fis_key c_fis_key k_fis_key, PySem.W.mg_of X G a_fis_key⟩
  have B_is_key := F_is_key.fn.binds (ps := ["value"]) fun _ _ _ _ _ _ us hl => match us, hl with | [_], _ => rfl
  have F_is_key_set : FunG K mg "is_key_set" s_is_key_set f_fis_key_set _ := ⟨fun_mk (st := s_is_key_set) l_fis_key_set c_fis_key_set k_fis_key_set, PySem.W.mg_of X G a_fis_key_set⟩
  have B_is_key_set := F_is_key_set.fn.binds (ps := ["value"]) fun _ _ _ _ _ _ us hl => match us, hl with | [_], _ => rfl
  have F_is_lot : FunG K mg "is_lot" s_is_lot f_fis_lot _ := ⟨fun_mk (st := s_is_lot) l_fis_lot c_fis_lot k_fis_lot, PySem.W.mg_of X G a_fis_lot⟩
  have B_is_lot := F_is_lot.fn.binds (ps := ["value"]) fun _ _ _ _ _ _ us hl => match us, hl with | [_], _ => rfl
  have F_ltuple : FunG K mg "_law_tuple" s_ltuple f_fltuple _ := ⟨fun_mk (st := s_ltuple) l_fltuple c_fltuple k_fltuple, PySem.W.mg_of X G a_fltuple⟩
  have B_ltuple := F_ltuple.fn.binds (ps := ["_law_bag_here", "_law_ks"]) fun _ _ _ _ _ _ us hl => match us, hl with | [_, _], _ => rfl
  have F_lis_name : FunG K mg "_law_is_name" s_lis_name f_flis_name _ := ⟨fun_mk (st := s_lis_name) l_flis_name c_flis_name k_flis_name, PySem.W.mg_of X G a_flis_name⟩
  have B_lis_name := F_lis_name.fn.binds (ps := ["_law_v"]) fun _ _ _ _ _ _ us hl => match us, hl with | [_], _ => rfl
  have F_lis_key : FunG K mg "_law_is_key" s_lis_key f_flis_key _ := ⟨fun_mk (st := s_lis_key) l_flis_key c_flis_key k_flis_key, PySem.W.mg_of X G a_flis_key⟩
  have B_lis_key := F_lis_key.fn.binds (ps := ["_law_v"]) fun _ _ _ _ _ _ us hl => match us, hl with | [_], _ => rfl
  have F_lis_set : FunG K mg "_law_is_set" s_lis_set f_flis_set _ := ⟨fun_mk (st := s_lis_set) l_flis_set c_flis_set k_flis_set, PySem.W.mg_of X G a_flis_set⟩
  have B_lis_set := F_lis_set.fn.binds (ps := ["_law_v"]) fun _ _ _ _ _ _ us hl => match us, hl with | [_], _ => rfl
  have F_lsame : FunG K mg "_law_same" s_lsame f_flsame _ := ⟨fun_mk (st := s_lsame) l_flsame c_flsame k_flsame, PySem.W.mg_of X G a_flsame⟩
  have B_lsame := F_lsame.fn.binds (ps := ["_law_found", "_law_due"]) fun _ _ _ _ _ _ us hl => match us, hl with | [_, _], _ => rfl
  have F_is_name : FunG K mg "is_name" s_is_name f_fis_name _ := ⟨fun_mk (st := s_is_name) l_fis_name c_fis_name k_fis_name, PySem.W.mg_of X G a_fis_name⟩
  have B_is_name := F_is_name.fn.binds (ps := ["value"]) fun _ _ _ _ _ _ us hl => match us, hl with | [_], _ => rfl
  have F_ljudged : FunG K mg "_law_judged" s_ljudged f_fljudged _ := ⟨fun_mk (st := s_ljudged) l_fljudged c_fljudged k_fljudged, PySem.W.mg_of X G a_fljudged⟩
  have B_ljudged := F_ljudged.fn.binds (ps := ["_law_v", "_law_named"]) fun _ _ _ _ _ _ us hl => match us, hl with | [_, _], _ => rfl
  have F_lstranger : FunG K mg "_law_stranger" s_lstranger f_flstranger _ := ⟨fun_mk (st := s_lstranger) l_flstranger c_flstranger k_flstranger, PySem.W.mg_of X G a_flstranger⟩
  have B_lstranger := F_lstranger.fn.binds (ps := ["_law_bag_here", "_law_ks"]) fun _ _ _ _ _ _ us hl => match us, hl with | [_, _], _ => rfl
  have F_lodd : FunG K mg "_law_odd" s_lodd f_flodd _ := ⟨fun_mk (st := s_lodd) l_flodd c_flodd k_flodd, PySem.W.mg_of X G a_flodd⟩
  have B_lodd := F_lodd.fn.binds (ps := ["_law_bag_here", "_law_ks", "_law_more"]) fun _ _ _ _ _ _ us hl => match us, hl with | [_, _, _], _ => rfl
  have F_lstretch_due : FunG K mg "_law_stretch_due" s_lstretch_due f_flstretch_due _ := ⟨fun_mk (st := s_lstretch_due) l_flstretch_due c_flstretch_due k_flstretch_due, PySem.W.mg_of X G a_flstretch_due⟩
  have B_lstretch_due := F_lstretch_due.fn.binds (ps := ["_law_ks", "_law_p", "_law_q"]) fun _ _ _ _ _ _ us hl => match us, hl with | [_, _, _], _ => rfl
  have F_stretch_between : FunG K mg "stretch_between" s_stretch_between f_fstretch_between _ := ⟨fun_mk (st := s_stretch_between) l_fstretch_between c_fstretch_between k_fstretch_between, PySem.W.mg_of X G a_fstretch_between⟩
  have B_stretch_between := F_stretch_between.fn.binds (ps := ["living", "one", "other"]) fun _ _ _ _ _ _ us hl => match us, hl with | [_, _, _], _ => rfl
  have F_lstretch : FunG K mg "_law_stretch" s_lstretch f_flstretch _ := ⟨fun_mk (st := s_lstretch) l_flstretch c_flstretch k_flstretch, PySem.W.mg_of X G a_flstretch⟩
  have B_lstretch := F_lstretch.fn.binds (ps := ["_law_ks", "_law_p", "_law_q", "_law_named"]) fun _ _ _ _ _ _ us hl => match us, hl with | [_, _, _, _], _ => rfl
  have F_neighbours_of : FunG K mg "neighbours_of" s_neighbours_of f_fneighbours_of _ := ⟨fun_mk (st := s_neighbours_of) l_fneighbours_of c_fneighbours_of k_fneighbours_of, PySem.W.mg_of X G a_fneighbours_of⟩
  have B_neighbours_of := F_neighbours_of.fn.binds (ps := ["living", "key"]) fun _ _ _ _ _ _ us hl => match us, hl with | [_, _], _ => rfl
  have F_lnear : FunG K mg "_law_near" s_lnear f_flnear _ := ⟨fun_mk (st := s_lnear) l_flnear c_flnear k_flnear, PySem.W.mg_of X G a_flnear⟩
  have B_lnear := F_lnear.fn.binds (ps := ["_law_ks", "_law_p"]) fun _ _ _ _ _ _ us hl => match us, hl with | [_, _], _ => rfl
  have F_law : FunG K mg "law" s_law f_flaw _ := ⟨fun_mk (st := s_law) l_flaw c_flaw k_flaw, PySem.W.mg_of X G a_flaw⟩
  have B_law := F_law.fn.binds (ps := ["_law_script"]) fun _ _ _ _ _ _ us hl => match us, hl with | [_], _ => rfl
  have T : Tx K mg := ⟨PySem.W.mg_none_of X G bz_abs, PySem.W.mg_none_of X G bz_all, PySem.W.mg_none_of X G bz_bool, PySem.W.mg_none_of X G bz_int, PySem.W.mg_none_of X G bz_isinstance, PySem.W.mg_none_of X G bz_len, PySem.W.mg_none_of X G bz_list, PySem.W.mg_none_of X G bz_max, PySem.W.mg_none_of X G bz_min, PySem.W.mg_none_of X G bz_range, PySem.W.mg_none_of X G bz_repr, PySem.W.mg_none_of X G bz_sorted, PySem.W.mg_none_of X G bz_str, PySem.W.mg_none_of X G bz_tuple, PySem.W.mg_none_of X G bz_zip, ⟨_, M_UnknownKey⟩, FTT, OCC, KTT, SB, XF⟩
  refine ⟨PySem.W.fnOf "law" "law" (defArgs s_law) (defBody s_law) (defScope s_law) .none kV_flaw dc_flaw pm_flaw an_flaw cd_flaw ct_flaw, fun s u => .of_eq rfl, fun base _ _ SM => ?_⟩
  have R_UnknownKey : Erx P w K mg base "UnknownKey" 1 1 L_UnknownKey := r_UnknownKey E_UnknownKey no_UnknownKey
  have R_InvalidLot : Erx P w K mg base "InvalidLot" 1 1 L_InvalidLot := r_InvalidLot E_InvalidLot no_InvalidLot
  have R_InvalidMark : Erx P w K mg base "InvalidMark" 1 1 L_InvalidMark := r_InvalidMark E_InvalidMark no_InvalidMark
  have O_lbag := ok_lbag (P := P) (w := w) (base := base) T F_lbag.fn
  have D_lbag : Dfn P w K mg base "_law_bag" 1 G_lbag := F_lbag.dfn O_lbag B_lbag
  have O_ldraw := ok_ldraw (P := P) (w := w) (base := base) T F_ldraw.fn
  have D_ldraw : Dfn P w K mg base "_law_draw" 1 G_ldraw := F_ldraw.dfn O_ldraw B_ldraw
  have O_lof := ok_lof (P := P) (w := w) (base := base) T F_lof.fn D_ldraw
  have D_lof : Dfn P w K mg base "_law_of" 2 G_lof := F_lof.dfn O_lof B_lof
  have O_lkeys := ok_lkeys (P := P) (w := w) (base := base) T F_lkeys.fn D_lof D_ldraw
  have D_lkeys : Dfn P w K mg base "_law_keys" 3 G_lkeys := F_lkeys.dfn O_lkeys B_lkeys
  have O_lnumber := ok_lnumber (P := P) (w := w) (base := base) T F_lnumber.fn D_lof D_ldraw
  have D_lnumber : Dfn P w K mg base "_law_number" 3 G_lnumber := F_lnumber.dfn O_lnumber B_lnumber
  have O_lword := ok_lword (P := P) (w := w) (base := base) T F_lword.fn D_lof D_ldraw
  have D_lword : Dfn P w K mg base "_law_word" 3 G_lword := F_lword.dfn O_lword B_lword
  have O_is_key := ok_is_key (P := P) (w := w) (base := base) T F_is_key.fn
  have D_is_key : Dfn P w K mg base "is_key" 1 G_is_key := F_is_key.dfn O_is_key B_is_key
  have D_is_key_k0 : DfK P w K mg base "is_key" 1 G_is_key 0 ["value"] [0] := F_is_key.dfk O_is_key (Fun.kwb F_is_key.fn fun _ _ _ _ _ _ us ws h1 h2 => match us, ws, h1, h2 with | [], [_], _, _ => rfl)
  have O_is_key_set := ok_is_key_set (P := P) (w := w) (base := base) T F_is_key_set.fn D_is_key D_is_key_k0
  have D_is_key_set : Dfn P w K mg base "is_key_set" 2 G_is_key_set := F_is_key_set.dfn O_is_key_set B_is_key_set
  have D_is_key_set_k0 : DfK P w K mg base "is_key_set" 2 G_is_key_set 0 ["value"] [0] := F_is_key_set.dfk O_is_key_set (Fun.kwb F_is_key_set.fn fun _ _ _ _ _ _ us ws h1 h2 => match us, ws, h1, h2 with | [], [_], _, _ => rfl)
  have O_is_lot := ok_is_lot (P := P) (w := w) (base := base) T F_is_lot.fn D_is_key_set D_is_key_set_k0
  have D_is_lot : Dfn P w K mg base "is_lot" 3 G_is_lot := F_is_lot.dfn O_is_lot B_is_lot
  have D_is_lot_k0 : DfK P w K mg base "is_lot" 3 G_is_lot 0 ["value"] [0] := F_is_lot.dfk O_is_lot (Fun.kwb F_is_lot.fn fun _ _ _ _ _ _ us ws h1 h2 => match us, ws, h1, h2 with | [], [_], _, _ => rfl)
  have O_Row_init := ok_Row_init (P := P) (w := w) (base := base) T F_Row_init D_is_lot D_is_lot_k0 D_is_key D_is_key_k0 R_InvalidLot R_InvalidMark
  have FD_Row_init : FunD K "__init__" "Row.__init__" (defArgs s_Row_init) (defBody s_Row_init) (defScope s_Row_init) [] [("coming", .non), ("going", .non)] f_fRow_init _ := ⟨⟨_, _, _, _, _, _, _, _, _, _, rfl, l_fRow_init, c_fRow_init, .inl ⟨rfl, rfl⟩, .inr ⟨_, rfl, by
    intro q hq
    simp only [List.mem_cons, List.not_mem_nil, or_false] at hq
    rcases hq with rfl | rfl
    · exact ⟨_, kd_fRow_init_coming, rfl⟩
    · exact ⟨_, kd_fRow_init_going, rfl⟩⟩⟩, k_fRow_init⟩
  obtain ⟨g_C_Row_0, KB_C_Row_0⟩ := kbn_kw (ps := ["self", "lot", "coming", "going"]) (ks := []) (n := 2) (j := 1) (ix := [0, 1, 2]) FD_Row_init [("coming", .non), ("going", .non)] (by decide) (by decide) (fun D doc pm an cdv ct us mv ws h1 h2 h3 => match us, mv, ws, h1, h2, h3 with | [_, _], [_, _], [], _, _, _ => ⟨_, _, _, _, _, _, rfl, rfl, _, _, _, _, _, _, rfl, rfl, rfl⟩)
  have C_Row_0 : Cln P w K mg base "Row" 4 G_Row_init 1 [] [0, 1, 2] [.non, .non] := cln_mk M_Row ⟨mk_Row, at_fRow_init, fn_fRow_init, kc_Row⟩ O_Row_init KB_C_Row_0 (.cons (Dv.non) (.cons (Dv.non) Dvs.nil))
  have O_ltuple := ok_ltuple (P := P) (w := w) (base := base) T F_ltuple.fn D_lnumber D_lof D_ldraw C_Row_0
  have D_ltuple : Dfn P w K mg base "_law_tuple" 6 G_ltuple := F_ltuple.dfn O_ltuple B_ltuple
  have O_lis_name := ok_lis_name (P := P) (w := w) (base := base) T F_lis_name.fn
  have D_lis_name : Dfn P w K mg base "_law_is_name" 1 G_lis_name := F_lis_name.dfn O_lis_name B_lis_name
  have O_lis_key := ok_lis_key (P := P) (w := w) (base := base) T F_lis_key.fn
  have D_lis_key : Dfn P w K mg base "_law_is_key" 1 G_lis_key := F_lis_key.dfn O_lis_key B_lis_key
  have O_lis_set := ok_lis_set (P := P) (w := w) (base := base) T F_lis_set.fn D_lis_key
  have D_lis_set : Dfn P w K mg base "_law_is_set" 2 G_lis_set := F_lis_set.dfn O_lis_set B_lis_set
  have O_Row_text := ok_Row_text (P := P) (w := w) (base := base) T F_Row_text
  have M_Row_text_0 : Mtd P w K mg base "Row" "text" 1 G_Row_text 0 [] [] [] := mtd_mk M_Row CL_Row MT_Row_text O_Row_text (kbn_0 (ps := ["self"]) (ks := []) (n := 1) (j := 1) (ix := []) fun us ws h1 h2 => match us, ws, h1, h2 with | [_], [], _, _ => rfl) Dvs.nil
  have O_Row_repr := ok_Row_repr (P := P) (w := w) (base := base) T F_Row_repr M_Row_text_0
  have B_Row_repr := F_Row_repr.binds (ps := ["self"]) fun _ _ _ _ _ _ us hl => match us, hl with | [_], _ => rfl
  have O_lsame := ok_lsame (P := P) (w := w) (base := base) T F_lsame B_lsame 5
  have D_lsame : Dfn P w K mg base "_law_same" 5 G_lsame := F_lsame.dfn O_lsame B_lsame
  have O_is_name := ok_is_name (P := P) (w := w) (base := base) T F_is_name.fn
  have D_is_name : Dfn P w K mg base "is_name" 1 G_is_name := F_is_name.dfn O_is_name B_is_name
  have D_is_name_k0 : DfK P w K mg base "is_name" 1 G_is_name 0 ["value"] [0] := F_is_name.dfk O_is_name (Fun.kwb F_is_name.fn fun _ _ _ _ _ _ us ws h1 h2 => match us, ws, h1, h2 with | [], [_], _, _ => rfl)
  have O_ljudged := ok_ljudged (P := P) (w := w) (base := base) T F_ljudged.fn D_is_name D_is_name_k0 D_is_lot D_is_lot_k0 D_is_key_set D_is_key_set_k0 D_is_key D_is_key_k0
  have D_ljudged : Dfn P w K mg base "_law_judged" 4 G_ljudged := F_ljudged.dfn O_ljudged B_ljudged
  have O_lstranger := ok_lstranger (P := P) (w := w) (base := base) T F_lstranger.fn D_lof D_ldraw
  have D_lstranger : Dfn P w K mg base "_law_stranger" 3 G_lstranger := F_lstranger.dfn O_lstranger B_lstranger
  have O_lodd := ok_lodd (P := P) (w := w) (base := base) T F_lodd.fn D_lstranger D_lof
  have D_lodd : Dfn P w K mg base "_law_odd" 4 G_lodd := F_lodd.dfn O_lodd B_lodd
  have O_lstretch_due := ok_lstretch_due (P := P) (w := w) (base := base) T F_lstretch_due.fn D_lis_key
  have D_lstretch_due : Dfn P w K mg base "_law_stretch_due" 2 G_lstretch_due := F_lstretch_due.dfn O_lstretch_due B_lstretch_due
  have O_stretch_between := ok_stretch_between (P := P) (w := w) (base := base) T F_stretch_between.fn D_is_key D_is_key_k0 R_UnknownKey
  have D_stretch_between : Dfn P w K mg base "stretch_between" 3 G_stretch_between := F_stretch_between.dfn O_stretch_between B_stretch_between
  have D_stretch_between_k0 : DfK P w K mg base "stretch_between" 3 G_stretch_between 0 ["other", "one", "living"] [2, 1, 0] := F_stretch_between.dfk O_stretch_between (Fun.kwb F_stretch_between.fn fun _ _ _ _ _ _ us ws h1 h2 => match us, ws, h1, h2 with | [], [_, _, _], _, _ => rfl)
  have O_lstretch := ok_lstretch (P := P) (w := w) (base := base) T F_lstretch.fn D_stretch_between D_stretch_between_k0
  have D_lstretch : Dfn P w K mg base "_law_stretch" 4 G_lstretch := F_lstretch.dfn O_lstretch B_lstretch
  have O_neighbours_of := ok_neighbours_of (P := P) (w := w) (base := base) T F_neighbours_of.fn
  have D_neighbours_of : Dfn P w K mg base "neighbours_of" 1 G_neighbours_of := F_neighbours_of.dfn O_neighbours_of B_neighbours_of
  have D_neighbours_of_k0 : DfK P w K mg base "neighbours_of" 1 G_neighbours_of 0 ["key", "living"] [1, 0] := F_neighbours_of.dfk O_neighbours_of (Fun.kwb F_neighbours_of.fn fun _ _ _ _ _ _ us ws h1 h2 => match us, ws, h1, h2 with | [], [_, _], _, _ => rfl)
  have O_lnear := ok_lnear (P := P) (w := w) (base := base) T F_lnear.fn
  have D_lnear : Dfn P w K mg base "_law_near" 1 G_lnear := F_lnear.dfn O_lnear B_lnear
  have S_repr_Row : SpcT P w K mg base "__repr__" 2 [("Row", G_Row_repr)] := (spcT_cons (spc_mk M_Row MT_Row_repr O_Row_repr B_Row_repr) spcT_nil)
  exact ok_law T F_law.fn D_lbag D_lkeys D_lof D_lnumber D_lword D_ltuple D_lis_name D_lis_set D_lis_key D_lsame D_ljudged D_lstranger D_lodd D_lstretch_due D_lstretch D_ldraw D_neighbours_of D_neighbours_of_k0 D_lnear S_repr_Row SM
end L2.DL.K02

namespace L2.DL.K02
open PySem PySem.Spec PyProof.Rows
def bagC (cs : List Int) (p r m k : Int) : Cell := .lst [.lst (cs.map D.int), .int p, .int r, .int m, .int k]
theorem mul_c {i j : Int} (h1 : 0 ≤ i) (h2 : i < 2 ^ 70) (h3 : 0 ≤ j) (h4 : j < 2 ^ 70) : mulC i j = true := by
  have f : ∀ x : Int, 0 ≤ x → x < 2 ^ 70 → x.natAbs.log2 < 71 := fun x a b => by
    by_cases z : x.natAbs = 0
    · rw [z]; decide
    · have := (Nat.log2_lt z (k := 71)).mpr (by omega)
      exact this
  have := f i h1 h2
  have := f j h3 h4
  exact decide_eq_true (by omega)
theorem draw_a {cs : List Int} {p r m k top : Int} (ht : 0 < top) (ht2 : top.natAbs.log2 < 9000) (hr : 0 < r) : G_ldraw [.cell 0, .int top] [bagC cs p r m k] = .ok (.int (r % top)) [bagC cs p (r / top) m (k + 1)] := by
  have e1 : ¬ (r = 0) := by omega
  simp only [G_ldraw, g_ldraw, bagC, runD_ap, List.length_cons, List.length_nil, Nat.reduceAdd, Nat.reduceSub, List.map_cons, List.map_nil, List.replicate_succ, List.replicate_zero, List.cons_append, List.nil_append, seqM_ap, sq_nx, sq_rt, stiM_ap, bnd_ap, bo_ok, op2_ap, op2v_ap, op1_ap, cst_ap, lift_so, ret_ap, pek_ap, lett_ap, pekD, List.getElem?_cons_zero, List.getElem?_cons_succ, ix_l, ix50, ix51, ix52, ix53, ix54, isLst, lstUp, lstAt, lstPut, Option.map_some, add_ii, List.set_cons_zero, List.set_cons_succ, ifS_ap, andM_ap, tst_ap, eq_ii, lt_ii, gt_ii, ge_ii, len_l, asBl_b, bf_t, bf_f, bf_d, if_true, if_false, ite_true, ite_false, decide_true, decide_false, setM_ap, put_ap, skp_ap, rtM_ap, ri_rt, int_i, abs_i, ixN50, ixN51, ixN52, ixN53, ixN54, e1, hr, mod_ii ht, fdiv_ii ht ht2]
/-- what is mixed into the bag's number by a lesser cell -/
def mixC (m c : Int) : Int := (m * 43889 + c % 1000639 * 773 + 31) % 2147483587
def mixD (m k : Int) : Int := (m ^ 3 + m * 47111 + k * 110323 + 60089) % 2147483549
def outD (m : Int) : Int := m / 71 + m % 8017 * 59
theorem draw_b {cs : List Int} {p m k top : Int} (ht : 0 < top) (ht2 : top.natAbs.log2 < 9000) (hp : ¬ p < cs.length) (hm : 0 ≤ m) (hm2 : m < 2147483587) (hk : 0 ≤ k) (hk2 : k < 1000000) :
    G_ldraw [.cell 0, .int top] [bagC cs p 0 m k] = .ok (.int (outD (mixD m (k + 1)) % top)) [bagC cs p 0 (mixD m (k + 1)) (k + 1)] := by
  have p0 : powC m 3 = true := by
    unfold powC
    rw [decide_eq_true (by decide : (0 : Int) ≤ 3), decide_eq_true (by decide : (3 : Int) ≤ 1000000), decide_eq_true (by omega : m.natAbs < 2 ^ 64)] <;> rfl
  have c1 : mulC m 47111 = true := mul_c hm (by omega) (by decide) (by decide)
  have c2 : mulC (k + 1) 110323 = true := mul_c (by omega) (by omega) (by decide) (by decide)
  have q1 : (0 : Int) < 2147483549 := by decide
  have q2 : (0 : Int) < 71 := by decide
  have q3 : (0 : Int) < 8017 := by decide
  have q5 : (71 : Int).natAbs.log2 < 9000 := by decide
  have m1 : 0 ≤ mixD m (k + 1) ∧ mixD m (k + 1) < 2147483549 := ⟨Int.emod_nonneg _ (by decide), Int.emod_lt_of_pos _ (by decide)⟩
  have c3 : mulC (mixD m (k + 1) % 8017) 59 = true := mul_c (Int.emod_nonneg _ (by decide)) (by have := Int.emod_lt_of_pos (mixD m (k + 1)) q3; omega) (by decide) (by decide)
  have z3 : ((3 : Int).toNat) = 3 := rfl
  have z0 : ¬ ((0 : Int) < 0) := by decide
  simp only [G_ldraw, g_ldraw, bagC, runD_ap, List.length_cons, List.length_nil, Nat.reduceAdd, Nat.reduceSub, List.map_cons, List.map_nil, List.replicate_succ, List.replicate_zero, List.cons_append, List.nil_append, seqM_ap, sq_nx, sq_rt, stiM_ap, bnd_ap, bo_ok, op2_ap, op2v_ap, op1_ap, cst_ap, lift_so, ret_ap, pek_ap, lett_ap, pekD, List.getElem?_cons_zero, List.getElem?_cons_succ, ix_l, ix50, ix51, ix52, ix53, ix54, isLst, lstUp, lstAt, lstPut, Option.map_some, add_ii, List.set_cons_zero, List.set_cons_succ, ifS_ap, andM_ap, tst_ap, eq_ii, lt_ii, gt_ii, ge_ii, len_l, asBl_b, bf_t, bf_f, bf_d, if_true, if_false, ite_true, ite_false, decide_true, decide_false, setM_ap, put_ap, skp_ap, rtM_ap, ri_rt, int_i, abs_i, ixN50, ixN51, ixN52, ixN53, ixN54, hp, z0, List.length_map, pow_ii p0, mul_ii c1, mul_ii c2, mod_ii q1, mod_ii q3, fdiv_ii q2 q5, z3]
  rw [← show mixD m (k + 1) = (m ^ 3 + m * 47111 + (k + 1) * 110323 + 60089) % 2147483549 from rfl]
  simp only [runD_ap, List.length_cons, List.length_nil, Nat.reduceAdd, Nat.reduceSub, List.map_cons, List.map_nil, List.replicate_succ, List.replicate_zero, List.cons_append, List.nil_append, seqM_ap, sq_nx, sq_rt, stiM_ap, bnd_ap, bo_ok, op2_ap, op2v_ap, op1_ap, cst_ap, lift_so, ret_ap, pek_ap, lett_ap, pekD, List.getElem?_cons_zero, List.getElem?_cons_succ, ix_l, ix50, ix51, ix52, ix53, ix54, isLst, lstUp, lstAt, lstPut, Option.map_some, add_ii, List.set_cons_zero, List.set_cons_succ, ifS_ap, andM_ap, tst_ap, eq_ii, lt_ii, gt_ii, ge_ii, len_l, asBl_b, bf_t, bf_f, bf_d, if_true, if_false, ite_true, ite_false, decide_true, decide_false, setM_ap, put_ap, skp_ap, rtM_ap, ri_rt, int_i, abs_i, ixN50, ixN51, ixN52, ixN53, ixN54, mul_ii c3, mod_ii ht, mod_ii q3, fdiv_ii q2 q5]
  rfl
theorem draw_c {cs : List Int} {p m k top c : Int} (ht : 0 < top) (ht2 : top.natAbs.log2 < 9000) (hp : p < cs.length) (hc : L2.atI (cs.map D.int) p = some (.int c)) (hA : ¬ (10 : Int) ^ 18 ≤ (if c < 0 then -c else c)) (hm : 0 ≤ m) (hm2 : m < 2147483587) (hk : 0 ≤ k) (hk2 : k < 1000000) :
    G_ldraw [.cell 0, .int top] [bagC cs p 0 m k] = .ok (.int (outD (mixD (mixC m c) (k + 1)) % top)) [bagC cs (p + 1) 0 (mixD (mixC m c) (k + 1)) (k + 1)] := by
  have a1 : 0 ≤ mixC m c ∧ mixC m c < 2147483587 := ⟨Int.emod_nonneg _ (by decide), Int.emod_lt_of_pos _ (by decide)⟩
  have p0 : powC (mixC m c) 3 = true := by
    unfold powC
    rw [decide_eq_true (by decide : (0 : Int) ≤ 3), decide_eq_true (by decide : (3 : Int) ≤ 1000000), decide_eq_true (by omega : (mixC m c).natAbs < 2 ^ 64)] <;> rfl
  have p1 : powC 10 18 = true := by decide
  have c1 : mulC (mixC m c) 47111 = true := mul_c a1.1 (by omega) (by decide) (by decide)
  have c2 : mulC (k + 1) 110323 = true := mul_c (by omega) (by omega) (by decide) (by decide)
  have c4 : mulC m 43889 = true := mul_c hm (by omega) (by decide) (by decide)
  have q1 : (0 : Int) < 2147483549 := by decide
  have q2 : (0 : Int) < 71 := by decide
  have q3 : (0 : Int) < 8017 := by decide
  have q4 : (0 : Int) < 1000639 := by decide
  have q6 : (0 : Int) < 2147483587 := by decide
  have q5 : (71 : Int).natAbs.log2 < 9000 := by decide
  have c5 : mulC (c % 1000639) 773 = true := mul_c (Int.emod_nonneg _ (by decide)) (by have := Int.emod_lt_of_pos c q4; omega) (by decide) (by decide)
  have m1 : 0 ≤ mixD (mixC m c) (k + 1) ∧ mixD (mixC m c) (k + 1) < 2147483549 := ⟨Int.emod_nonneg _ (by decide), Int.emod_lt_of_pos _ (by decide)⟩
  have c3 : mulC (mixD (mixC m c) (k + 1) % 8017) 59 = true := mul_c (Int.emod_nonneg _ (by decide)) (by have := Int.emod_lt_of_pos (mixD (mixC m c) (k + 1)) q3; omega) (by decide) (by decide)
  have z3 : ((3 : Int).toNat) = 3 := rfl
  have z18 : ((18 : Int).toNat) = 18 := rfl
  have z0 : ¬ ((0 : Int) < 0) := by decide
  simp only [G_ldraw, g_ldraw, bagC, runD_ap, List.length_cons, List.length_nil, Nat.reduceAdd, Nat.reduceSub, List.map_cons, List.map_nil, List.replicate_succ, List.replicate_zero, List.cons_append, List.nil_append, seqM_ap, sq_nx, sq_rt, stiM_ap, bnd_ap, bo_ok, op2_ap, op2v_ap, op1_ap, cst_ap, lift_so, ret_ap, pek_ap, lett_ap, pekD, List.getElem?_cons_zero, List.getElem?_cons_succ, ix_l, ix50, ix51, ix52, ix53, ix54, isLst, lstUp, lstAt, lstPut, Option.map_some, add_ii, List.set_cons_zero, List.set_cons_succ, ifS_ap, andM_ap, tst_ap, eq_ii, lt_ii, gt_ii, ge_ii, len_l, asBl_b, bf_t, bf_f, bf_d, if_true, if_false, ite_true, ite_false, decide_true, decide_false, setM_ap, put_ap, skp_ap, rtM_ap, ri_rt, int_i, abs_i, ixN50, ixN51, ixN52, ixN53, ixN54, hp, z0, List.length_map, hc, pow_ii p1, z18, hA, mul_ii c4, mul_ii c5, mod_ii q4, mod_ii q6]
  rw [← show mixC m c = (m * 43889 + c % 1000639 * 773 + 31) % 2147483587 from rfl]
  simp only [runD_ap, List.length_cons, List.length_nil, Nat.reduceAdd, Nat.reduceSub, List.map_cons, List.map_nil, List.replicate_succ, List.replicate_zero, List.cons_append, List.nil_append, seqM_ap, sq_nx, sq_rt, stiM_ap, bnd_ap, bo_ok, op2_ap, op2v_ap, op1_ap, cst_ap, lift_so, ret_ap, pek_ap, lett_ap, pekD, List.getElem?_cons_zero, List.getElem?_cons_succ, ix_l, ix50, ix51, ix52, ix53, ix54, isLst, lstUp, lstAt, lstPut, Option.map_some, add_ii, List.set_cons_zero, List.set_cons_succ, ifS_ap, andM_ap, tst_ap, eq_ii, lt_ii, gt_ii, ge_ii, len_l, asBl_b, bf_t, bf_f, bf_d, if_true, if_false, ite_true, ite_false, decide_true, decide_false, setM_ap, put_ap, skp_ap, rtM_ap, ri_rt, int_i, abs_i, ixN50, ixN51, ixN52, ixN53, ixN54, pow_ii p0, mul_ii c1, mul_ii c2, mod_ii q1, z3, z0]
  rw [← show mixD (mixC m c) (k + 1) = (mixC m c ^ 3 + mixC m c * 47111 + (k + 1) * 110323 + 60089) % 2147483549 from rfl]
  simp only [runD_ap, List.length_cons, List.length_nil, Nat.reduceAdd, Nat.reduceSub, List.map_cons, List.map_nil, List.replicate_succ, List.replicate_zero, List.cons_append, List.nil_append, seqM_ap, sq_nx, sq_rt, stiM_ap, bnd_ap, bo_ok, op2_ap, op2v_ap, op1_ap, cst_ap, lift_so, ret_ap, pek_ap, lett_ap, pekD, List.getElem?_cons_zero, List.getElem?_cons_succ, ix_l, ix50, ix51, ix52, ix53, ix54, isLst, lstUp, lstAt, lstPut, Option.map_some, add_ii, List.set_cons_zero, List.set_cons_succ, ifS_ap, andM_ap, tst_ap, eq_ii, lt_ii, gt_ii, ge_ii, len_l, asBl_b, bf_t, bf_f, bf_d, if_true, if_false, ite_true, ite_false, decide_true, decide_false, setM_ap, put_ap, skp_ap, rtM_ap, ri_rt, int_i, abs_i, ixN50, ixN51, ixN52, ixN53, ixN54, mul_ii c3, mod_ii ht, mod_ii q3, fdiv_ii q2 q5]
  rfl
theorem draw_d {cs : List Int} {p m k top c : Int} (ht : 0 < top) (ht2 : top.natAbs.log2 < 9000) (hp : p < cs.length) (hc : L2.atI (cs.map D.int) p = some (.int c)) (hA : (10 : Int) ^ 18 ≤ (if c < 0 then -c else c)) :
    G_ldraw [.cell 0, .int top] [bagC cs p 0 m k] = .ok (.int ((if c < 0 then -c else c) % top)) [bagC cs (p + 1) ((if c < 0 then -c else c) / top) m (k + 1)] := by
  have p1 : powC 10 18 = true := by decide
  have z18 : ((18 : Int).toNat) = 18 := rfl
  generalize hB : (if c < 0 then -c else c) = B at hA ⊢
  have hB0 : 0 < B := Int.lt_of_lt_of_le (by decide) hA
  simp only [G_ldraw, g_ldraw, bagC, runD_ap, List.length_cons, List.length_nil, Nat.reduceAdd, Nat.reduceSub, List.map_cons, List.map_nil, List.replicate_succ, List.replicate_zero, List.cons_append, List.nil_append, seqM_ap, sq_nx, sq_rt, stiM_ap, bnd_ap, bo_ok, op2_ap, op2v_ap, op1_ap, cst_ap, lift_so, ret_ap, pek_ap, lett_ap, pekD, List.getElem?_cons_zero, List.getElem?_cons_succ, ix_l, ix50, ix51, ix52, ix53, ix54, isLst, lstUp, lstAt, lstPut, Option.map_some, add_ii, List.set_cons_zero, List.set_cons_succ, ifS_ap, andM_ap, tst_ap, eq_ii, lt_ii, gt_ii, ge_ii, len_l, asBl_b, bf_t, bf_f, bf_d, if_true, if_false, ite_true, ite_false, decide_true, decide_false, setM_ap, put_ap, skp_ap, rtM_ap, ri_rt, int_i, abs_i, ixN50, ixN51, ixN52, ixN53, ixN54, hp, List.length_map, hc, pow_ii p1, z18, hB, hA, hB0, mod_ii ht, fdiv_ii ht ht2]
/-- what holds of the bag after at most n draws -/
def Bag (n : Int) (μ : Sto) : Prop := ∃ (cs : List Int) (p r m k : Int), μ = [bagC cs p r m k] ∧ 0 ≤ p ∧ 0 ≤ r ∧ 0 ≤ m ∧ m < 2147483587 ∧ 0 ≤ k ∧ k ≤ n
theorem draw_ok {n top : Int} {μ : Sto} (B : Bag n μ) (hn : n < 1000000) (ht : 0 < top) (ht2 : top.natAbs.log2 < 9000) : ∃ d μ', G_ldraw [.cell 0, .int top] μ = .ok (.int d) μ' ∧ 0 ≤ d ∧ d < top ∧ Bag (n + 1) μ' := by
  obtain ⟨cs, p, r, m, k, rfl, h1, h2, h3, h4, h5, h6⟩ := B
  have out : ∀ x : Int, 0 ≤ x % top ∧ x % top < top := fun x => ⟨Int.emod_nonneg _ (by omega), Int.emod_lt_of_pos _ ht⟩
  have mD : ∀ x y : Int, 0 ≤ mixD x y ∧ mixD x y < 2147483587 := fun x y => ⟨Int.emod_nonneg _ (by decide), Int.lt_of_lt_of_le (Int.emod_lt_of_pos _ (by decide)) (by decide)⟩
  by_cases hr : 0 < r
  · exact ⟨_, _, draw_a ht ht2 hr, (out _).1, (out _).2, cs, p, r / top, m, k + 1, rfl, h1, Int.ediv_nonneg h2 (by omega), h3, h4, by omega, by omega⟩
  · have er : r = 0 := by omega
    subst er
    by_cases hp : p < cs.length
    · have hl : p.toNat < cs.length := by omega
      have hc : L2.atI (cs.map D.int) p = some (.int cs[p.toNat]) := atI_nat h1 (by rw [List.getElem?_map, List.getElem?_eq_getElem hl] <;> rfl)
      by_cases hA : (10 : Int) ^ 18 ≤ (if cs[p.toNat] < 0 then -cs[p.toNat] else cs[p.toNat])
      · exact ⟨_, _, draw_d ht ht2 hp hc hA, (out _).1, (out _).2, cs, p + 1, _, m, k + 1, rfl, by omega, Int.ediv_nonneg (Int.le_trans (by decide) hA) (by omega), h3, h4, by omega, by omega⟩
      · exact ⟨_, _, draw_c ht ht2 hp hc hA h3 h4 h5 (by omega), (out _).1, (out _).2, cs, p + 1, 0, _, k + 1, rfl, by omega, by omega, (mD _ _).1, (mD _ _).2, by omega, by omega⟩
    · exact ⟨_, _, draw_b ht ht2 hp h3 h4 h5 (by omega), (out _).1, (out _).2, cs, p, 0, _, k + 1, rfl, h1, by omega, (mD _ _).1, (mD _ _).2, by omega, by omega⟩
theorem draw_pick {n : Int} {μ : Sto} {ds : List D} (B : Bag n μ) (hn : n < 1000000) (h0 : 0 < ds.length) (h1 : ds.length ≤ 1000) : ∃ d i μ', d ∈ ds ∧ G_ldraw [.cell 0, .int ds.length] μ = .ok (.int i) μ' ∧ L2.atI ds i = some d ∧ Bag (n + 1) μ' := by
  have lg : (ds.length : Int).natAbs.log2 < 9000 := by
    have : (ds.length : Int).natAbs = ds.length := Int.natAbs_natCast _
    rw [this]
    exact Nat.lt_of_lt_of_le ((Nat.log2_lt (by omega) (k := 10)).mpr (by omega)) (by decide)
  obtain ⟨i, μ', e, i0, i1, B'⟩ := draw_ok (top := ds.length) B hn (by omega) lg
  have hl : i.toNat < ds.length := by omega
  exact ⟨ds[i.toNat], i, μ', List.getElem_mem hl, e, atI_nat i0 (List.getElem?_eq_getElem hl), B'⟩
theorem of_lst {n : Int} {μ : Sto} {ds : List D} (B : Bag n μ) (hn : n < 1000000) (h0 : 0 < ds.length) (h1 : ds.length ≤ 1000) : ∃ d μ', d ∈ ds ∧ G_lof [.cell 0, .lst ds] μ = .ok d μ' ∧ Bag (n + 1) μ' := by
  obtain ⟨d, i, μ', hd, e, ea, B'⟩ := draw_pick B hn h0 h1
  have e2 : G_lof [.cell 0, .lst ds] μ = .ok d μ' := by
    simp only [G_lof, g_lof, runD_ap, List.length_cons, List.length_nil, Nat.reduceAdd, Nat.reduceSub, List.map_cons, List.map_nil, List.replicate_succ, List.replicate_zero, List.cons_append, List.nil_append, seqM_ap, sq_nx, sq_rt, stiM_ap, bnd_ap, bo_ok, op2_ap, op2v_ap, op1_ap, cst_ap, lift_so, ret_ap, pek_ap, lett_ap, pekD, List.getElem?_cons_zero, List.getElem?_cons_succ, ix_l, ix50, ix51, ix52, ix53, ix54, isLst, lstUp, lstAt, lstPut, Option.map_some, add_ii, List.set_cons_zero, List.set_cons_succ, ifS_ap, andM_ap, tst_ap, eq_ii, lt_ii, gt_ii, ge_ii, len_l, asBl_b, bf_t, bf_f, bf_d, if_true, if_false, ite_true, ite_false, decide_true, decide_false, setM_ap, put_ap, skp_ap, rtM_ap, ri_rt, int_i, abs_i, ixN50, ixN51, ixN52, ixN53, ixN54, calM_ap, acons_ap, anil_ap, e, rb_ok, ea]
  exact ⟨d, μ', hd, e2, B'⟩
theorem of_tup {n : Int} {μ : Sto} {ds : List D} (B : Bag n μ) (hn : n < 1000000) (h0 : 0 < ds.length) (h1 : ds.length ≤ 1000) : ∃ d μ', d ∈ ds ∧ G_lof [.cell 0, .tup ds] μ = .ok d μ' ∧ Bag (n + 1) μ' := by
  obtain ⟨d, i, μ', hd, e, ea, B'⟩ := draw_pick B hn h0 h1
  have e2 : G_lof [.cell 0, .tup ds] μ = .ok d μ' := by
    simp only [G_lof, g_lof, runD_ap, List.length_cons, List.length_nil, Nat.reduceAdd, Nat.reduceSub, List.map_cons, List.map_nil, List.replicate_succ, List.replicate_zero, List.cons_append, List.nil_append, seqM_ap, sq_nx, sq_rt, stiM_ap, bnd_ap, bo_ok, op2_ap, op2v_ap, op1_ap, cst_ap, lift_so, ret_ap, pek_ap, lett_ap, pekD, List.getElem?_cons_zero, List.getElem?_cons_succ, ix_l, ix50, ix51, ix52, ix53, ix54, isLst, lstUp, lstAt, lstPut, Option.map_some, add_ii, List.set_cons_zero, List.set_cons_succ, ifS_ap, andM_ap, tst_ap, eq_ii, lt_ii, gt_ii, ge_ii, len_l, asBl_b, bf_t, bf_f, bf_d, if_true, if_false, ite_true, ite_false, decide_true, decide_false, setM_ap, put_ap, skp_ap, rtM_ap, ri_rt, int_i, abs_i, ixN50, ixN51, ixN52, ixN53, ixN54, calM_ap, acons_ap, anil_ap, e, rb_ok, ea, len_t, ix_t]
  exact ⟨d, μ', hd, e2, B'⟩
/-! ### the bag -/
def mixB (x c : Int) : Int := (x * 48271 + c % 1000639 * 883 + 59) % 2147483579
theorem bag_loop {a : D} {μ : Sto} : ∀ (cs : List Int) (x : Int) (t : Option Ent), 0 ≤ x → x < 2147483579 → ∃ y t', 0 ≤ y ∧ y < 2147483579 ∧
    forL (tgN 2) (setM 1 (op2 modD (op1 intD (op2 addD (op2 addD (op2 mulD (lett 1) (cst (.int 48271))) (op2 mulD (op2 modD (op1 intD (pek 2)) (cst (.int 1000639))) (cst (.int 883)))) (cst (.int 59)))) (cst (.int 2147483579)))) (cs.map D.int)
      [some (.sh a), some (.sh (.int x)), t] μ = .ok .nx [some (.sh a), some (.sh (.int y)), t'] μ
  | [], x, t, h0, h1 => ⟨x, t, h0, h1, rfl⟩
  | c :: cs, x, t, h0, h1 => by
    have q4 : (0 : Int) < 1000639 := by decide
    have q6 : (0 : Int) < 2147483579 := by decide
    have c4 : mulC x 48271 = true := mul_c h0 (by omega) (by decide) (by decide)
    have c5 : mulC (c % 1000639) 883 = true := mul_c (Int.emod_nonneg _ (by decide)) (by have := Int.emod_lt_of_pos c q4; omega) (by decide) (by decide)
    have m1 : 0 ≤ mixB x c ∧ mixB x c < 2147483579 := ⟨Int.emod_nonneg _ (by decide), Int.emod_lt_of_pos _ (by decide)⟩
    obtain ⟨y, t', y0, y1, e⟩ := bag_loop cs (mixB x c) (some (.sh (.int c))) m1.1 m1.2
    refine ⟨y, t', y0, y1, ?_⟩
    rw [← e, List.map_cons, forL_cons]
    simp only [runD_ap, List.length_cons, List.length_nil, Nat.reduceAdd, Nat.reduceSub, List.map_cons, List.map_nil, List.replicate_succ, List.replicate_zero, List.cons_append, List.nil_append, seqM_ap, sq_nx, sq_rt, stiM_ap, bnd_ap, bo_ok, op2_ap, op2v_ap, op1_ap, cst_ap, lift_so, ret_ap, pek_ap, lett_ap, pekD, List.getElem?_cons_zero, List.getElem?_cons_succ, ix_l, ix50, ix51, ix52, ix53, ix54, isLst, lstUp, lstAt, lstPut, Option.map_some, add_ii, List.set_cons_zero, List.set_cons_succ, ifS_ap, andM_ap, tst_ap, eq_ii, lt_ii, gt_ii, ge_ii, len_l, asBl_b, bf_t, bf_f, bf_d, if_true, if_false, ite_true, ite_false, decide_true, decide_false, setM_ap, put_ap, skp_ap, rtM_ap, ri_rt, int_i, abs_i, ixN50, ixN51, ixN52, ixN53, ixN54, tgN_ap, mul_ii c4, mul_ii c5, mod_ii q4, mod_ii q6]
    rfl
theorem cut_ints (ns : List Int) (lo hi : OI) : ∃ cs : List Int, cutD (ns.map D.int) lo hi = cs.map D.int := by
  unfold cutD
  rw [List.length_map]
  exact ⟨_, by rw [← List.map_drop, ← List.map_take]⟩
theorem bag_ok (ns : List Int) (h : ns.length ≤ 63) : ∃ (cs : List Int) (m : Int), G_lbag [.frz (ns.map D.int)] [] = .ow (.lst [.lst (cs.map D.int), .int 0, .int 0, .int m, .int 0]) [] ∧ 0 ≤ m ∧ m < 2147483579 := by
  obtain ⟨cs, ec⟩ := cut_ints ns none (some 63)
  obtain ⟨y, t', y0, y1, e⟩ := bag_loop (a := .frz (ns.map D.int)) (μ := []) cs 12039 none (by decide) (by decide)
  have es : slD (.frz (ns.map D.int)) none (some 63) = some (.lst (cs.map D.int)) := by
    show some (D.lst (cutD (ns.map D.int) none (some 63))) = _
    rw [ec]
  have mk : mkL [.lst (cs.map D.int), .int 0, .int 0, .int y, .int 0] = some (.lst [.lst (cs.map D.int), .int 0, .int 0, .int y, .int 0]) := rfl
  have sq : (seqD (.lst (cs.map D.int))).or (chrs (.lst (cs.map D.int))) = some (cs.map D.int) := rfl
  have ls : listD (.lst (cs.map D.int)) = some (.lst (cs.map D.int)) := rfl
  have ai : asI (.int 63) = some (some 63) := rfl
  refine ⟨cs, y, ?_, y0, y1⟩
  simp only [G_lbag, g_lbag, runD_ap, List.length_cons, List.length_nil, Nat.reduceAdd, Nat.reduceSub, List.map_cons, List.map_nil, List.replicate_succ, List.replicate_zero, List.cons_append, List.nil_append, seqM_ap, sq_nx, sq_rt, stiM_ap, bnd_ap, bo_ok, op2_ap, op2v_ap, op1_ap, cst_ap, lift_so, ret_ap, pek_ap, lett_ap, pekD, List.getElem?_cons_zero, List.getElem?_cons_succ, ix_l, ix50, ix51, ix52, ix53, ix54, isLst, lstUp, lstAt, lstPut, Option.map_some, add_ii, List.set_cons_zero, List.set_cons_succ, ifS_ap, andM_ap, tst_ap, eq_ii, lt_ii, gt_ii, ge_ii, len_l, asBl_b, bf_t, bf_f, bf_d, if_true, if_false, ite_true, ite_false, decide_true, decide_false, setM_ap, put_ap, skp_ap, rtM_ap, ri_rt, int_i, abs_i, ixN50, ixN51, ixN52, ixN53, ixN54, forM_ap, walkA_ap, slM_ap, noP_ap, prt_ap, ai, es, sq, e, rtF_ap, lstM_ap, acons_ap, anil_ap, ls, mk, ri_ro]
end L2.DL.K02

namespace L2.DL.K02
open PySem PySem.Spec PyProof.Rows
/-- trees that _law_same tells to be the same as themselves -/
inductive Sm : Nat → D → Prop
  | non (n : Nat) : Sm (n + 1) .non
  | bl (n : Nat) (b : Bool) : Sm (n + 1) (.bl b)
  | int (n : Nat) (i : Int) : Sm (n + 1) (.int i)
  | str (n : Nat) (s : Str) : Sm (n + 1) (.str s)
  | dct (n : Nat) {ks : List Key} {vs : List D} (h : ks.Nodup) (e : samesS vs vs = true) : Sm (n + 1) (.dct ks vs)
  | tup (n : Nat) {ds : List D} (hl : ds.length ≤ 1000) (h : ∀ d ∈ ds, Sm n d) : Sm (n + 1) (.tup ds)
  | lst (n : Nat) {ds : List D} (hl : ds.length ≤ 1000) (h : ∀ d ∈ ds, Sm n d) : Sm (n + 1) (.lst ds)
theorem Sm.up {n : Nat} {d : D} (h : Sm n d) : Sm (n + 1) d := by
  induction h with
  | non n => exact .non _
  | bl n b => exact .bl _ b
  | int n i => exact .int _ i
  | str n s => exact .str _ s
  | dct n h e => exact .dct _ h e
  | tup n hl _ ih => exact .tup _ hl ih
  | lst n hl _ ih => exact .lst _ hl ih
theorem lc_same {G : Fn} {μ : Sto} {a b : Option Ent} : ∀ (ds acc : List D), (∀ d ∈ ds, G [d, d] μ = .ok (.bl true) μ) → acc.length + ds.length < lineN →
    lcGo [2, 3] (tgT 2 (tgCons (tgN 2) (tgCons (tgN 3) tgNil))) (ret true) (calM G (acons (lett 2) (acons (lett 3) anil))) (zipL ds ds) acc [a, b, none, none] μ = .ok (acc ++ List.replicate ds.length (.bl true)) [a, b, none, none] μ
  | [], acc, _, _ => by
    show O.ok acc _ _ = _
    rw [List.length_nil, List.replicate_zero, List.append_nil]
  | d :: ds, acc, h, hl => by
    have e1 := h d List.mem_cons_self
    have ih := lc_same (a := a) (b := b) ds (acc ++ [.bl true]) (fun x hx => h x (List.mem_cons_of_mem _ hx)) (by rw [List.length_append, List.length_singleton]; rw [List.length_cons] at hl; omega)
    have hacc : acc.length < lineN := by rw [List.length_cons] at hl; omega
    have e2 : calM G (acons (lett 2) (acons (lett 3) anil)) [a, b, some (.sh d), some (.sh d)] μ = .ok (.bl true) [a, b, some (.sh d), some (.sh d)] μ := by
      simp only [runD_ap, List.length_cons, List.length_nil, Nat.reduceAdd, Nat.reduceSub, List.map_cons, List.map_nil, List.replicate_succ, List.replicate_zero, List.cons_append, List.nil_append, seqM_ap, sq_nx, sq_rt, stiM_ap, bnd_ap, bo_ok, op2_ap, op2v_ap, op1_ap, cst_ap, lift_so, ret_ap, pek_ap, lett_ap, pekD, List.getElem?_cons_zero, List.getElem?_cons_succ, ix_l, ix50, ix51, ix52, ix53, ix54, isLst, lstUp, lstAt, lstPut, Option.map_some, add_ii, List.set_cons_zero, List.set_cons_succ, ifS_ap, andM_ap, tst_ap, eq_ii, lt_ii, gt_ii, ge_ii, len_l, asBl_b, bf_t, bf_f, bf_d, if_true, if_false, ite_true, ite_false, decide_true, decide_false, setM_ap, put_ap, skp_ap, rtM_ap, ri_rt, int_i, abs_i, ixN50, ixN51, ixN52, ixN53, ixN54, calM_ap, acons_ap, anil_ap, e1, rb_ok]
    have e3 : zipL (d :: ds) (d :: ds) = .tup [d, d] :: zipL ds ds := rfl
    have e4 : tgT 2 (tgCons (tgN 2) (tgCons (tgN 3) tgNil)) (.tup [d, d]) [a, b, none, none] μ = .ok () [a, b, some (.sh d), some (.sh d)] μ := rfl
    rw [e3]
    unfold lcGo
    simp only [e4, ret_ap, e2, hacc, if_true]
    have e5 : wipD [a, b, some (.sh d), some (.sh d)] [2, 3] = [a, b, none, none] := rfl
    rw [e5, ih, List.append_assoc, List.length_cons, List.replicate_succ] <;> rfl
theorem all_true : ∀ n : Nat, allD (.lst (List.replicate n (.bl true))) = some (.bl true) := fun n => by
  have h : ∀ n : Nat, blsOf (List.replicate n (.bl true)) = some (List.replicate n true) := fun n => by
    induction n with
    | zero => rfl
    | succ n ih =>
      rw [List.replicate_succ, List.replicate_succ]
      show (blsOf (List.replicate n (D.bl true))).map (true :: ·) = _
      rw [ih] <;> rfl
  show (blsOf (List.replicate n (D.bl true))).map _ = _
  rw [h n]
  show some (D.bl _) = _
  congr 2
  rw [List.all_eq_true]
  intro x hx
  exact List.eq_of_mem_replicate hx
theorem same_tup {G : Fn} {μ : Sto} {ds : List D} (hl : ds.length ≤ 1000) (h : ∀ d ∈ ds, G [d, d] μ = .ok (.bl true) μ) : runD 2 4 (g_lsame G) [.tup ds, .tup ds] μ = .ok (.bl true) μ := by
  have lc := lc_same (a := some (.sh (.tup ds))) (b := some (.sh (.tup ds))) ds [] h (by show 0 + ds.length < 16777216; omega)
  have z : zipD [.tup ds, .tup ds] = some (zipL ds ds) := rfl
  have t1 : tyI ocT (D.tup ds) μ = some (.b "tuple") := rfl
  have a1 : isAny ktT (.b "tuple") [.b "list", .b "tuple"] = some true := rfl
  have a2 : ∃ k, isAny ktT (.b "tuple") [.b "list"] = some k := ⟨_, rfl⟩
  have a3 : ∃ k, isAny ktT (.b "tuple") [.b "tuple"] = some k := ⟨_, rfl⟩
  obtain ⟨k2, i2⟩ := a2
  obtain ⟨k3, i3⟩ := a3
  have n2 : neD (.bl k2) (.bl k2) = some (.bl false) := by rw [ne_bb, decide_eq_true rfl] <;> rfl
  have n3 : neD (.bl k3) (.bl k3) = some (.bl false) := by rw [ne_bb, decide_eq_true rfl] <;> rfl
  have ln : lenD (.tup ds) = some (.int ds.length) := rfl
  have lcA : lcAll [2, 3] (tgT 2 (tgCons (tgN 2) (tgCons (tgN 3) tgNil))) (ret true) (calM G (acons (lett 2) (acons (lett 3) anil))) (zipL ds ds) [some (.sh (.tup ds)), some (.sh (.tup ds)), none, none] μ = .ok (.lst (List.replicate ds.length (.bl true))) [some (.sh (.tup ds)), some (.sh (.tup ds)), none, none] μ := by
    unfold lcAll
    have e5 : wipD [some (.sh (.tup ds)), some (.sh (.tup ds)), none, none] [2, 3] = [some (.sh (.tup ds)), some (.sh (.tup ds)), none, none] := rfl
    rw [e5, lc]
    show O.ok (D.lst ([] ++ List.replicate ds.length (.bl true))) _ μ = _
    rw [List.nil_append] <;> rfl
  simp only [g_lsame, runD_ap, List.length_cons, List.length_nil, Nat.reduceAdd, Nat.reduceSub, List.map_cons, List.map_nil, List.replicate_succ, List.replicate_zero, List.cons_append, List.nil_append, seqM_ap, sq_nx, sq_rt, stiM_ap, bnd_ap, bo_ok, op2_ap, op2v_ap, op1_ap, cst_ap, lift_so, ret_ap, pek_ap, lett_ap, pekD, List.getElem?_cons_zero, List.getElem?_cons_succ, ix_l, ix50, ix51, ix52, ix53, ix54, isLst, lstUp, lstAt, lstPut, Option.map_some, add_ii, List.set_cons_zero, List.set_cons_succ, ifS_ap, andM_ap, tst_ap, eq_ii, lt_ii, gt_ii, ge_ii, len_l, asBl_b, bf_t, bf_f, bf_d, if_true, if_false, ite_true, ite_false, decide_true, decide_false, setM_ap, put_ap, skp_ap, rtM_ap, ri_rt, int_i, abs_i, ixN50, ixN51, ixN52, ixN53, ixN54, isiM_ap, t1, a1, i2, i3, n2, n3, orM_ap, tru_ap, tru_b, eq_ii, ln, andV_ap, zipM_ap, acons_ap, anil_ap, lcM_ap, z, lcA, all_true]
theorem same_lst {G : Fn} {μ : Sto} {ds : List D} (hl : ds.length ≤ 1000) (h : ∀ d ∈ ds, G [d, d] μ = .ok (.bl true) μ) : runD 2 4 (g_lsame G) [.lst ds, .lst ds] μ = .ok (.bl true) μ := by
  have lc := lc_same (a := some (.sh (.lst ds))) (b := some (.sh (.lst ds))) ds [] h (by show 0 + ds.length < 16777216; omega)
  have z : zipD [.lst ds, .lst ds] = some (zipL ds ds) := rfl
  have t1 : tyI ocT (D.lst ds) μ = some (.b "list") := rfl
  have a1 : isAny ktT (.b "list") [.b "list", .b "tuple"] = some true := rfl
  have a2 : ∃ k, isAny ktT (.b "list") [.b "list"] = some k := ⟨_, rfl⟩
  have a3 : ∃ k, isAny ktT (.b "list") [.b "tuple"] = some k := ⟨_, rfl⟩
  obtain ⟨k2, i2⟩ := a2
  obtain ⟨k3, i3⟩ := a3
  have n2 : neD (.bl k2) (.bl k2) = some (.bl false) := by rw [ne_bb, decide_eq_true rfl] <;> rfl
  have n3 : neD (.bl k3) (.bl k3) = some (.bl false) := by rw [ne_bb, decide_eq_true rfl] <;> rfl
  have ln : lenD (.lst ds) = some (.int ds.length) := rfl
  have lcA : lcAll [2, 3] (tgT 2 (tgCons (tgN 2) (tgCons (tgN 3) tgNil))) (ret true) (calM G (acons (lett 2) (acons (lett 3) anil))) (zipL ds ds) [some (.sh (.lst ds)), some (.sh (.lst ds)), none, none] μ = .ok (.lst (List.replicate ds.length (.bl true))) [some (.sh (.lst ds)), some (.sh (.lst ds)), none, none] μ := by
    unfold lcAll
    have e5 : wipD [some (.sh (.lst ds)), some (.sh (.lst ds)), none, none] [2, 3] = [some (.sh (.lst ds)), some (.sh (.lst ds)), none, none] := rfl
    rw [e5, lc]
    show O.ok (D.lst ([] ++ List.replicate ds.length (.bl true))) _ μ = _
    rw [List.nil_append] <;> rfl
  simp only [g_lsame, runD_ap, List.length_cons, List.length_nil, Nat.reduceAdd, Nat.reduceSub, List.map_cons, List.map_nil, List.replicate_succ, List.replicate_zero, List.cons_append, List.nil_append, seqM_ap, sq_nx, sq_rt, stiM_ap, bnd_ap, bo_ok, op2_ap, op2v_ap, op1_ap, cst_ap, lift_so, ret_ap, pek_ap, lett_ap, pekD, List.getElem?_cons_zero, List.getElem?_cons_succ, ix_l, ix50, ix51, ix52, ix53, ix54, isLst, lstUp, lstAt, lstPut, Option.map_some, add_ii, List.set_cons_zero, List.set_cons_succ, ifS_ap, andM_ap, tst_ap, eq_ii, lt_ii, gt_ii, ge_ii, len_l, asBl_b, bf_t, bf_f, bf_d, if_true, if_false, ite_true, ite_false, decide_true, decide_false, setM_ap, put_ap, skp_ap, rtM_ap, ri_rt, int_i, abs_i, ixN50, ixN51, ixN52, ixN53, ixN54, isiM_ap, t1, a1, i2, i3, n2, n3, orM_ap, tru_ap, tru_b, eq_ii, ln, andV_ap, zipM_ap, acons_ap, anil_ap, lcM_ap, z, lcA, all_true]
theorem same_ok {μ : Sto} : ∀ {n : Nat} {d : D}, Sm n d → GN_lsame n [d, d] μ = .ok (.bl true) μ := by
  intro n d h
  induction h with
  | non n => rfl
  | bl n b =>
    have e : GN_lsame (n + 1) [.bl b, .bl b] μ = .ok (.bl (decide (b = b))) μ := rfl
    rw [e, decide_eq_true rfl]
  | int n i =>
    have e : GN_lsame (n + 1) [.int i, .int i] μ = .ok (.bl (decide (i = i))) μ := rfl
    rw [e, decide_eq_true rfl]
  | str n s =>
    have e : GN_lsame (n + 1) [.str s, .str s] μ = .ok (.bl (decide (s = s))) μ := rfl
    rw [e, decide_eq_true rfl]
  | @dct n ks vs h e =>
    have q : eqQ (.dct ks vs) (.dct ks vs) = some (.bl true) := by
      show (eqD (.dct ks vs) (.dct ks vs)).or (dctT (.dct ks vs) (.dct ks vs)) = _
      have e1 : eqD (.dct ks vs) (.dct ks vs) = none := rfl
      have e2 : dctT (.dct ks vs) (.dct ks vs) = some (.bl true) := if_pos ⟨rfl, h, e⟩
      rw [e1, e2] <;> rfl
    have t1 : tyI ocT (.dct ks vs) μ = some (.b "dict") := rfl
    have j1 : isAny ktT (.b "dict") [.b "list", .b "tuple"] = some false := rfl
    have j2 : isAny ktT (.b "dict") [.b "bool"] = some false := rfl
    have j3 : isAny ktT (.b "dict") [.b "int"] = some false := rfl
    have j4 : isAny ktT (.b "dict") [.b "str"] = some false := rfl
    have nn : isND false (.dct ks vs) .non = some (.bl false) := rfl
    show runD 2 4 (g_lsame (GN_lsame n)) _ μ = _
    simp only [g_lsame, runD_ap, List.length_cons, List.length_nil, Nat.reduceAdd, Nat.reduceSub, List.map_cons, List.map_nil, List.replicate_succ, List.replicate_zero, List.cons_append, List.nil_append, seqM_ap, sq_nx, sq_rt, stiM_ap, bnd_ap, bo_ok, op2_ap, op2v_ap, op1_ap, cst_ap, lift_so, ret_ap, pek_ap, lett_ap, pekD, List.getElem?_cons_zero, List.getElem?_cons_succ, ix_l, ix50, ix51, ix52, ix53, ix54, isLst, lstUp, lstAt, lstPut, Option.map_some, add_ii, List.set_cons_zero, List.set_cons_succ, ifS_ap, andM_ap, tst_ap, eq_ii, lt_ii, gt_ii, ge_ii, len_l, asBl_b, bf_t, bf_f, bf_d, if_true, if_false, ite_true, ite_false, decide_true, decide_false, setM_ap, put_ap, skp_ap, rtM_ap, ri_rt, int_i, abs_i, ixN50, ixN51, ixN52, ixN53, ixN54, isiM_ap, t1, j1, j2, j3, j4, orM_ap, tru_ap, tru_b, nn, q]
  | @tup n ds hl _ ih => exact same_tup hl ih
  | @lst n ds hl _ ih => exact same_lst hl ih
end L2.DL.K02

namespace L2.DL.K02
open PySem PySem.Spec PyProof.Rows
/-! ### values of any kind; keys, key sets, lots -/
inductive Pv : D → Prop
  | non : Pv .non
  | bl (b : Bool) : Pv (.bl b)
  | int (i : Int) : Pv (.int i)
  | str (s : Str) (h : s.length ≤ 1000) (k : PyData.strOk s = true) : Pv (.str s)
  | tup {ds : List D} (h : ∀ d ∈ ds, Pv d) : Pv (.tup ds)
  | lst {ds : List D} (h : ∀ d ∈ ds, Pv d) : Pv (.lst ds)
  | dct (ks : List Key) (vs : List D) : Pv (.dct ks vs)
  | row (ns : List Str) (vs : List D) : Pv (.ins "Row" ns vs)
def isKey : D → Bool
  | .int i => decide (0 ≤ i) && decide (i ≤ 999)
  | _ => false
theorem is_key_ok {v : D} {μ : Sto} (h : Pv v) : G_is_key [v] μ = .ok (.bl (isKey v)) μ := by
  cases h with
  | int i =>
    have t1 : tyI ocT (.int i) μ = some (.b "int") := rfl
    have a1 : isAny ktT (.b "int") [.b "int"] = some true := rfl
    have a2 : isAny ktT (.b "int") [.b "bool"] = some false := rfl
    by_cases h0 : 0 ≤ i
    · simp only [G_is_key, g_is_key, runD_ap, List.length_cons, List.length_nil, Nat.reduceAdd, Nat.reduceSub, List.map_cons, List.map_nil, List.replicate_succ, List.replicate_zero, List.cons_append, List.nil_append, seqM_ap, sq_nx, sq_rt, stiM_ap, bnd_ap, bo_ok, op2_ap, op2v_ap, op1_ap, cst_ap, lift_so, ret_ap, pek_ap, lett_ap, pekD, List.getElem?_cons_zero, List.getElem?_cons_succ, ix_l, ix50, ix51, ix52, ix53, ix54, isLst, lstUp, lstAt, lstPut, Option.map_some, add_ii, List.set_cons_zero, List.set_cons_succ, ifS_ap, andM_ap, tst_ap, eq_ii, lt_ii, gt_ii, ge_ii, len_l, asBl_b, bf_t, bf_f, bf_d, if_true, if_false, ite_true, ite_false, decide_true, decide_false, setM_ap, put_ap, skp_ap, rtM_ap, ri_rt, int_i, abs_i, ixN50, ixN51, ixN52, ixN53, ixN54, walkA_ap, isiM_ap, kwD_ap, newM_ap, ni_ok, ni_ex, fldV_ap, fldM_ap, asgM_ap, parM_ap, parM3_ap, tgN_ap, tgT2, tgT3, tgCons_ap, tgNil_ap, calM_ap, acons_ap, anil_ap, rb_ok, rb_ow, tupM_ap, lstM_ap, slM_ap, noP_ap, prt_ap, forM_ap, rngM1_ap, rngM2_ap, lcM_ap, andV_ap, notV_ap, orV_ap, ifM_ap, orM_ap, notM_ap, tru_ap, tru_b, chn_ap, seqA_l, seqA_t, seqA_f, seqA_s, len_t, len_f, opN_ap, met0_ap, met1_ap, metT_ap, apnM_ap, rtF_ap, ri_nx, ri_ro, sq_bk, sq_ct, sq_ro, mkT_ok, mkL_ok, List.length_append, List.length_singleton, asI, Wp_ok, nxt_nx, nxt_rt, nxt_bk, nxt_ct, trn_nx, trn_ct, trn_bk, trn_rt, ends_nx, ends_rt, ix_t, leA_ii, le_ii, sub_ii, Bool.not_true, Bool.not_false, Bool.false_eq_true, Bool.true_eq_false, eq_bb, ne_bb, eq_ss, ne_ss, raiM_ap, tryM_ap, tr_ok, tr_ex, rb_ex, bo_ex, sq_ex, ri_ex, kwA_ap, drp_ap, Nat.reduceLeDiff, Nat.zero_le, Nat.reduceMul, t1, a1, a2, h0, isKey, Bool.true_and]
    · simp only [G_is_key, g_is_key, runD_ap, List.length_cons, List.length_nil, Nat.reduceAdd, Nat.reduceSub, List.map_cons, List.map_nil, List.replicate_succ, List.replicate_zero, List.cons_append, List.nil_append, seqM_ap, sq_nx, sq_rt, stiM_ap, bnd_ap, bo_ok, op2_ap, op2v_ap, op1_ap, cst_ap, lift_so, ret_ap, pek_ap, lett_ap, pekD, List.getElem?_cons_zero, List.getElem?_cons_succ, ix_l, ix50, ix51, ix52, ix53, ix54, isLst, lstUp, lstAt, lstPut, Option.map_some, add_ii, List.set_cons_zero, List.set_cons_succ, ifS_ap, andM_ap, tst_ap, eq_ii, lt_ii, gt_ii, ge_ii, len_l, asBl_b, bf_t, bf_f, bf_d, if_true, if_false, ite_true, ite_false, decide_true, decide_false, setM_ap, put_ap, skp_ap, rtM_ap, ri_rt, int_i, abs_i, ixN50, ixN51, ixN52, ixN53, ixN54, walkA_ap, isiM_ap, kwD_ap, newM_ap, ni_ok, ni_ex, fldV_ap, fldM_ap, asgM_ap, parM_ap, parM3_ap, tgN_ap, tgT2, tgT3, tgCons_ap, tgNil_ap, calM_ap, acons_ap, anil_ap, rb_ok, rb_ow, tupM_ap, lstM_ap, slM_ap, noP_ap, prt_ap, forM_ap, rngM1_ap, rngM2_ap, lcM_ap, andV_ap, notV_ap, orV_ap, ifM_ap, orM_ap, notM_ap, tru_ap, tru_b, chn_ap, seqA_l, seqA_t, seqA_f, seqA_s, len_t, len_f, opN_ap, met0_ap, met1_ap, metT_ap, apnM_ap, rtF_ap, ri_nx, ri_ro, sq_bk, sq_ct, sq_ro, mkT_ok, mkL_ok, List.length_append, List.length_singleton, asI, Wp_ok, nxt_nx, nxt_rt, nxt_bk, nxt_ct, trn_nx, trn_ct, trn_bk, trn_rt, ends_nx, ends_rt, ix_t, leA_ii, le_ii, sub_ii, Bool.not_true, Bool.not_false, Bool.false_eq_true, Bool.true_eq_false, eq_bb, ne_bb, eq_ss, ne_ss, raiM_ap, tryM_ap, tr_ok, tr_ex, rb_ex, bo_ex, sq_ex, ri_ex, kwA_ap, drp_ap, Nat.reduceLeDiff, Nat.zero_le, Nat.reduceMul, t1, a1, a2, h0, isKey, Bool.false_and]
  | _ => rfl
/-- ascending keys beyond b -/
def asc : Int → List D → Bool
  | _, [] => true
  | b, d :: ds => match d with
    | .int i => decide (0 ≤ i) && decide (i ≤ 999) && decide (b < i) && asc i ds
    | _ => false
theorem asc_int {b i : Int} {ds : List D} : asc b (.int i :: ds) = (decide (0 ≤ i) && decide (i ≤ 999) && decide (b < i) && asc i ds) := rfl
theorem asc_no {b : Int} {d : D} {ds : List D} (h : isKey d = false) : asc b (d :: ds) = false := by
  cases d with
  | int i =>
    have h : (decide (0 ≤ i) && decide (i ≤ 999)) = false := h
    rw [asc_int, h] <;> rfl
  | _ => rfl
abbrev ksB : Mo Fl := (seqM (ifS (orM (notM (tru (calM G_is_key (acons (lett 2) anil)))) (tst (op2 leA (lett 2) (pek 1)))) (rtM (cst (.bl false))) skp) (setM 1 (lett 2)))
theorem ks_loop {v : D} {μ : Sto} : ∀ (ds : List D) (b : Int) (e : Option Ent), (∀ d ∈ ds, Pv d) → ∃ ρ', forL (tgN 2) ksB ds [some (.sh v), some (.sh (.int b)), e] μ = .ok (if asc b ds then .nx else .rt (.bl false)) ρ' μ
  | [], b, e, _ => ⟨_, rfl⟩
  | d :: ds, b, e, h => by
    have k := is_key_ok (μ := μ) (h d List.mem_cons_self)
    rw [forL_cons]
    by_cases hk : isKey d = true
    · obtain ⟨i, rfl⟩ : ∃ i, d = .int i := by cases d <;> first | exact ⟨_, rfl⟩ | cases hk
      rw [hk] at k
      have hk : (decide (0 ≤ i) && decide (i ≤ 999)) = true := hk
      obtain ⟨ρ', ih⟩ := ks_loop (v := v) (μ := μ) ds i (some (.sh (.int i))) (fun d hd => h d (List.mem_cons_of_mem _ hd))
      by_cases hb : i ≤ b
      · refine ⟨[some (.sh v), some (.sh (.int b)), some (.sh (.int i))], ?_⟩
        rw [asc_int, hk, decide_eq_false (show ¬ b < i by omega)]
        simp only [runD_ap, List.length_cons, List.length_nil, Nat.reduceAdd, Nat.reduceSub, List.map_cons, List.map_nil, List.replicate_succ, List.replicate_zero, List.cons_append, List.nil_append, seqM_ap, sq_nx, sq_rt, stiM_ap, bnd_ap, bo_ok, op2_ap, op2v_ap, op1_ap, cst_ap, lift_so, ret_ap, pek_ap, lett_ap, pekD, List.getElem?_cons_zero, List.getElem?_cons_succ, ix_l, ix50, ix51, ix52, ix53, ix54, isLst, lstUp, lstAt, lstPut, Option.map_some, add_ii, List.set_cons_zero, List.set_cons_succ, ifS_ap, andM_ap, tst_ap, eq_ii, lt_ii, gt_ii, ge_ii, len_l, asBl_b, bf_t, bf_f, bf_d, if_true, if_false, ite_true, ite_false, decide_true, decide_false, setM_ap, put_ap, skp_ap, rtM_ap, ri_rt, int_i, abs_i, ixN50, ixN51, ixN52, ixN53, ixN54, walkA_ap, isiM_ap, kwD_ap, newM_ap, ni_ok, ni_ex, fldV_ap, fldM_ap, asgM_ap, parM_ap, parM3_ap, tgN_ap, tgT2, tgT3, tgCons_ap, tgNil_ap, calM_ap, acons_ap, anil_ap, rb_ok, rb_ow, tupM_ap, lstM_ap, slM_ap, noP_ap, prt_ap, forM_ap, rngM1_ap, rngM2_ap, lcM_ap, andV_ap, notV_ap, orV_ap, ifM_ap, orM_ap, notM_ap, tru_ap, tru_b, chn_ap, seqA_l, seqA_t, seqA_f, seqA_s, len_t, len_f, opN_ap, met0_ap, met1_ap, metT_ap, apnM_ap, rtF_ap, ri_nx, ri_ro, sq_bk, sq_ct, sq_ro, mkT_ok, mkL_ok, List.length_append, List.length_singleton, asI, Wp_ok, nxt_nx, nxt_rt, nxt_bk, nxt_ct, trn_nx, trn_ct, trn_bk, trn_rt, ends_nx, ends_rt, ix_t, leA_ii, le_ii, sub_ii, Bool.not_true, Bool.not_false, Bool.false_eq_true, Bool.true_eq_false, eq_bb, ne_bb, eq_ss, ne_ss, raiM_ap, tryM_ap, tr_ok, tr_ex, rb_ex, bo_ex, sq_ex, ri_ex, kwA_ap, drp_ap, Nat.reduceLeDiff, Nat.zero_le, Nat.reduceMul, k, hb, fo]
        rfl
      · refine ⟨ρ', ?_⟩
        rw [asc_int, hk, decide_eq_true (show b < i by omega), Bool.true_and, Bool.true_and, ← ih]
        simp only [runD_ap, List.length_cons, List.length_nil, Nat.reduceAdd, Nat.reduceSub, List.map_cons, List.map_nil, List.replicate_succ, List.replicate_zero, List.cons_append, List.nil_append, seqM_ap, sq_nx, sq_rt, stiM_ap, bnd_ap, bo_ok, op2_ap, op2v_ap, op1_ap, cst_ap, lift_so, ret_ap, pek_ap, lett_ap, pekD, List.getElem?_cons_zero, List.getElem?_cons_succ, ix_l, ix50, ix51, ix52, ix53, ix54, isLst, lstUp, lstAt, lstPut, Option.map_some, add_ii, List.set_cons_zero, List.set_cons_succ, ifS_ap, andM_ap, tst_ap, eq_ii, lt_ii, gt_ii, ge_ii, len_l, asBl_b, bf_t, bf_f, bf_d, if_true, if_false, ite_true, ite_false, decide_true, decide_false, setM_ap, put_ap, skp_ap, rtM_ap, ri_rt, int_i, abs_i, ixN50, ixN51, ixN52, ixN53, ixN54, walkA_ap, isiM_ap, kwD_ap, newM_ap, ni_ok, ni_ex, fldV_ap, fldM_ap, asgM_ap, parM_ap, parM3_ap, tgN_ap, tgT2, tgT3, tgCons_ap, tgNil_ap, calM_ap, acons_ap, anil_ap, rb_ok, rb_ow, tupM_ap, lstM_ap, slM_ap, noP_ap, prt_ap, forM_ap, rngM1_ap, rngM2_ap, lcM_ap, andV_ap, notV_ap, orV_ap, ifM_ap, orM_ap, notM_ap, tru_ap, tru_b, chn_ap, seqA_l, seqA_t, seqA_f, seqA_s, len_t, len_f, opN_ap, met0_ap, met1_ap, metT_ap, apnM_ap, rtF_ap, ri_nx, ri_ro, sq_bk, sq_ct, sq_ro, mkT_ok, mkL_ok, List.length_append, List.length_singleton, asI, Wp_ok, nxt_nx, nxt_rt, nxt_bk, nxt_ct, trn_nx, trn_ct, trn_bk, trn_rt, ends_nx, ends_rt, ix_t, leA_ii, le_ii, sub_ii, Bool.not_true, Bool.not_false, Bool.false_eq_true, Bool.true_eq_false, eq_bb, ne_bb, eq_ss, ne_ss, raiM_ap, tryM_ap, tr_ok, tr_ex, rb_ex, bo_ex, sq_ex, ri_ex, kwA_ap, drp_ap, Nat.reduceLeDiff, Nat.zero_le, Nat.reduceMul, k, hb, fo]
    · have hk : isKey d = false := by simpa using hk
      rw [hk] at k
      refine ⟨[some (.sh v), some (.sh (.int b)), some (.sh d)], ?_⟩
      rw [asc_no hk]
      simp only [runD_ap, List.length_cons, List.length_nil, Nat.reduceAdd, Nat.reduceSub, List.map_cons, List.map_nil, List.replicate_succ, List.replicate_zero, List.cons_append, List.nil_append, seqM_ap, sq_nx, sq_rt, stiM_ap, bnd_ap, bo_ok, op2_ap, op2v_ap, op1_ap, cst_ap, lift_so, ret_ap, pek_ap, lett_ap, pekD, List.getElem?_cons_zero, List.getElem?_cons_succ, ix_l, ix50, ix51, ix52, ix53, ix54, isLst, lstUp, lstAt, lstPut, Option.map_some, add_ii, List.set_cons_zero, List.set_cons_succ, ifS_ap, andM_ap, tst_ap, eq_ii, lt_ii, gt_ii, ge_ii, len_l, asBl_b, bf_t, bf_f, bf_d, if_true, if_false, ite_true, ite_false, decide_true, decide_false, setM_ap, put_ap, skp_ap, rtM_ap, ri_rt, int_i, abs_i, ixN50, ixN51, ixN52, ixN53, ixN54, walkA_ap, isiM_ap, kwD_ap, newM_ap, ni_ok, ni_ex, fldV_ap, fldM_ap, asgM_ap, parM_ap, parM3_ap, tgN_ap, tgT2, tgT3, tgCons_ap, tgNil_ap, calM_ap, acons_ap, anil_ap, rb_ok, rb_ow, tupM_ap, lstM_ap, slM_ap, noP_ap, prt_ap, forM_ap, rngM1_ap, rngM2_ap, lcM_ap, andV_ap, notV_ap, orV_ap, ifM_ap, orM_ap, notM_ap, tru_ap, tru_b, chn_ap, seqA_l, seqA_t, seqA_f, seqA_s, len_t, len_f, opN_ap, met0_ap, met1_ap, metT_ap, apnM_ap, rtF_ap, ri_nx, ri_ro, sq_bk, sq_ct, sq_ro, mkT_ok, mkL_ok, List.length_append, List.length_singleton, asI, Wp_ok, nxt_nx, nxt_rt, nxt_bk, nxt_ct, trn_nx, trn_ct, trn_bk, trn_rt, ends_nx, ends_rt, ix_t, leA_ii, le_ii, sub_ii, Bool.not_true, Bool.not_false, Bool.false_eq_true, Bool.true_eq_false, eq_bb, ne_bb, eq_ss, ne_ss, raiM_ap, tryM_ap, tr_ok, tr_ex, rb_ex, bo_ex, sq_ex, ri_ex, kwA_ap, drp_ap, Nat.reduceLeDiff, Nat.zero_le, Nat.reduceMul, k, fo]
def isSet : D → Bool
  | .tup ds => asc (-1) ds
  | _ => false
theorem is_set_ok {v : D} {μ : Sto} (h : Pv v) : G_is_key_set [v] μ = .ok (.bl (isSet v)) μ := by
  cases h with
  | @tup ds h =>
    have t1 : tyI ocT (.tup ds) μ = some (.b "tuple") := rfl
    have a1 : isAny ktT (.b "tuple") [.b "tuple"] = some true := rfl
    have ng : negD (.int 1) = some (.int (-1)) := rfl
    obtain ⟨ρ', e⟩ := ks_loop (v := .tup ds) (μ := μ) ds (-1) none h
    cases ha : asc (-1) ds with
    | true =>
      rw [ha] at e
      simp only [G_is_key_set, g_is_key_set, runD_ap, List.length_cons, List.length_nil, Nat.reduceAdd, Nat.reduceSub, List.map_cons, List.map_nil, List.replicate_succ, List.replicate_zero, List.cons_append, List.nil_append, seqM_ap, sq_nx, sq_rt, stiM_ap, bnd_ap, bo_ok, op2_ap, op2v_ap, op1_ap, cst_ap, lift_so, ret_ap, pek_ap, lett_ap, pekD, List.getElem?_cons_zero, List.getElem?_cons_succ, ix_l, ix50, ix51, ix52, ix53, ix54, isLst, lstUp, lstAt, lstPut, Option.map_some, add_ii, List.set_cons_zero, List.set_cons_succ, ifS_ap, andM_ap, tst_ap, eq_ii, lt_ii, gt_ii, ge_ii, len_l, asBl_b, bf_t, bf_f, bf_d, if_true, if_false, ite_true, ite_false, decide_true, decide_false, setM_ap, put_ap, skp_ap, rtM_ap, ri_rt, int_i, abs_i, ixN50, ixN51, ixN52, ixN53, ixN54, walkA_ap, isiM_ap, kwD_ap, newM_ap, ni_ok, ni_ex, fldV_ap, fldM_ap, asgM_ap, parM_ap, parM3_ap, tgN_ap, tgT2, tgT3, tgCons_ap, tgNil_ap, calM_ap, acons_ap, anil_ap, rb_ok, rb_ow, tupM_ap, lstM_ap, slM_ap, noP_ap, prt_ap, forM_ap, rngM1_ap, rngM2_ap, lcM_ap, andV_ap, notV_ap, orV_ap, ifM_ap, orM_ap, notM_ap, tru_ap, tru_b, chn_ap, seqA_l, seqA_t, seqA_f, seqA_s, len_t, len_f, opN_ap, met0_ap, met1_ap, metT_ap, apnM_ap, rtF_ap, ri_nx, ri_ro, sq_bk, sq_ct, sq_ro, mkT_ok, mkL_ok, List.length_append, List.length_singleton, asI, Wp_ok, nxt_nx, nxt_rt, nxt_bk, nxt_ct, trn_nx, trn_ct, trn_bk, trn_rt, ends_nx, ends_rt, ix_t, leA_ii, le_ii, sub_ii, Bool.not_true, Bool.not_false, Bool.false_eq_true, Bool.true_eq_false, eq_bb, ne_bb, eq_ss, ne_ss, raiM_ap, tryM_ap, tr_ok, tr_ex, rb_ex, bo_ex, sq_ex, ri_ex, kwA_ap, drp_ap, Nat.reduceLeDiff, Nat.zero_le, Nat.reduceMul, t1, a1, ng, e, isSet, ha]
    | false =>
      rw [ha] at e
      simp only [G_is_key_set, g_is_key_set, runD_ap, List.length_cons, List.length_nil, Nat.reduceAdd, Nat.reduceSub, List.map_cons, List.map_nil, List.replicate_succ, List.replicate_zero, List.cons_append, List.nil_append, seqM_ap, sq_nx, sq_rt, stiM_ap, bnd_ap, bo_ok, op2_ap, op2v_ap, op1_ap, cst_ap, lift_so, ret_ap, pek_ap, lett_ap, pekD, List.getElem?_cons_zero, List.getElem?_cons_succ, ix_l, ix50, ix51, ix52, ix53, ix54, isLst, lstUp, lstAt, lstPut, Option.map_some, add_ii, List.set_cons_zero, List.set_cons_succ, ifS_ap, andM_ap, tst_ap, eq_ii, lt_ii, gt_ii, ge_ii, len_l, asBl_b, bf_t, bf_f, bf_d, if_true, if_false, ite_true, ite_false, decide_true, decide_false, setM_ap, put_ap, skp_ap, rtM_ap, ri_rt, int_i, abs_i, ixN50, ixN51, ixN52, ixN53, ixN54, walkA_ap, isiM_ap, kwD_ap, newM_ap, ni_ok, ni_ex, fldV_ap, fldM_ap, asgM_ap, parM_ap, parM3_ap, tgN_ap, tgT2, tgT3, tgCons_ap, tgNil_ap, calM_ap, acons_ap, anil_ap, rb_ok, rb_ow, tupM_ap, lstM_ap, slM_ap, noP_ap, prt_ap, forM_ap, rngM1_ap, rngM2_ap, lcM_ap, andV_ap, notV_ap, orV_ap, ifM_ap, orM_ap, notM_ap, tru_ap, tru_b, chn_ap, seqA_l, seqA_t, seqA_f, seqA_s, len_t, len_f, opN_ap, met0_ap, met1_ap, metT_ap, apnM_ap, rtF_ap, ri_nx, ri_ro, sq_bk, sq_ct, sq_ro, mkT_ok, mkL_ok, List.length_append, List.length_singleton, asI, Wp_ok, nxt_nx, nxt_rt, nxt_bk, nxt_ct, trn_nx, trn_ct, trn_bk, trn_rt, ends_nx, ends_rt, ix_t, leA_ii, le_ii, sub_ii, Bool.not_true, Bool.not_false, Bool.false_eq_true, Bool.true_eq_false, eq_bb, ne_bb, eq_ss, ne_ss, raiM_ap, tryM_ap, tr_ok, tr_ex, rb_ex, bo_ex, sq_ex, ri_ex, kwA_ap, drp_ap, Nat.reduceLeDiff, Nat.zero_le, Nat.reduceMul, t1, a1, ng, e, isSet, ha]
  | _ => rfl
def isLot (v : D) : Bool := isSet v && (match v with | .tup ds => !ds.isEmpty | _ => false)
theorem is_lot_ok {v : D} {μ : Sto} (h : Pv v) : G_is_lot [v] μ = .ok (.bl (isLot v)) μ := by
  have s := is_set_ok (μ := μ) h
  cases hs : isSet v with
  | false =>
    rw [hs] at s
    have e : isLot v = false := by unfold isLot; rw [hs] <;> rfl
    rw [e]
    simp only [G_is_lot, g_is_lot, runD_ap, List.length_cons, List.length_nil, Nat.reduceAdd, Nat.reduceSub, List.map_cons, List.map_nil, List.replicate_succ, List.replicate_zero, List.cons_append, List.nil_append, seqM_ap, sq_nx, sq_rt, stiM_ap, bnd_ap, bo_ok, op2_ap, op2v_ap, op1_ap, cst_ap, lift_so, ret_ap, pek_ap, lett_ap, pekD, List.getElem?_cons_zero, List.getElem?_cons_succ, ix_l, ix50, ix51, ix52, ix53, ix54, isLst, lstUp, lstAt, lstPut, Option.map_some, add_ii, List.set_cons_zero, List.set_cons_succ, ifS_ap, andM_ap, tst_ap, eq_ii, lt_ii, gt_ii, ge_ii, len_l, asBl_b, bf_t, bf_f, bf_d, if_true, if_false, ite_true, ite_false, decide_true, decide_false, setM_ap, put_ap, skp_ap, rtM_ap, ri_rt, int_i, abs_i, ixN50, ixN51, ixN52, ixN53, ixN54, walkA_ap, isiM_ap, kwD_ap, newM_ap, ni_ok, ni_ex, fldV_ap, fldM_ap, asgM_ap, parM_ap, parM3_ap, tgN_ap, tgT2, tgT3, tgCons_ap, tgNil_ap, calM_ap, acons_ap, anil_ap, rb_ok, rb_ow, tupM_ap, lstM_ap, slM_ap, noP_ap, prt_ap, forM_ap, rngM1_ap, rngM2_ap, lcM_ap, andV_ap, notV_ap, orV_ap, ifM_ap, orM_ap, notM_ap, tru_ap, tru_b, chn_ap, seqA_l, seqA_t, seqA_f, seqA_s, len_t, len_f, opN_ap, met0_ap, met1_ap, metT_ap, apnM_ap, rtF_ap, ri_nx, ri_ro, sq_bk, sq_ct, sq_ro, mkT_ok, mkL_ok, List.length_append, List.length_singleton, asI, Wp_ok, nxt_nx, nxt_rt, nxt_bk, nxt_ct, trn_nx, trn_ct, trn_bk, trn_rt, ends_nx, ends_rt, ix_t, leA_ii, le_ii, sub_ii, Bool.not_true, Bool.not_false, Bool.false_eq_true, Bool.true_eq_false, eq_bb, ne_bb, eq_ss, ne_ss, raiM_ap, tryM_ap, tr_ok, tr_ex, rb_ex, bo_ex, sq_ex, ri_ex, kwA_ap, drp_ap, Nat.reduceLeDiff, Nat.zero_le, Nat.reduceMul, s]
  | true =>
    cases h with
    | @tup ds h =>
      rw [hs] at s
      have gt : gtD (.int ds.length) (.int 0) = some (.bl (decide ((0 : Int) < ds.length))) := rfl
      have e : isLot (.tup ds) = decide ((0 : Int) < ds.length) := by
        unfold isLot
        rw [hs]
        cases ds with
        | nil => rfl
        | cons d ds =>
          rw [decide_eq_true (by rw [List.length_cons]; omega)] <;> rfl
      rw [e]
      simp only [G_is_lot, g_is_lot, runD_ap, List.length_cons, List.length_nil, Nat.reduceAdd, Nat.reduceSub, List.map_cons, List.map_nil, List.replicate_succ, List.replicate_zero, List.cons_append, List.nil_append, seqM_ap, sq_nx, sq_rt, stiM_ap, bnd_ap, bo_ok, op2_ap, op2v_ap, op1_ap, cst_ap, lift_so, ret_ap, pek_ap, lett_ap, pekD, List.getElem?_cons_zero, List.getElem?_cons_succ, ix_l, ix50, ix51, ix52, ix53, ix54, isLst, lstUp, lstAt, lstPut, Option.map_some, add_ii, List.set_cons_zero, List.set_cons_succ, ifS_ap, andM_ap, tst_ap, eq_ii, lt_ii, gt_ii, ge_ii, len_l, asBl_b, bf_t, bf_f, bf_d, if_true, if_false, ite_true, ite_false, decide_true, decide_false, setM_ap, put_ap, skp_ap, rtM_ap, ri_rt, int_i, abs_i, ixN50, ixN51, ixN52, ixN53, ixN54, walkA_ap, isiM_ap, kwD_ap, newM_ap, ni_ok, ni_ex, fldV_ap, fldM_ap, asgM_ap, parM_ap, parM3_ap, tgN_ap, tgT2, tgT3, tgCons_ap, tgNil_ap, calM_ap, acons_ap, anil_ap, rb_ok, rb_ow, tupM_ap, lstM_ap, slM_ap, noP_ap, prt_ap, forM_ap, rngM1_ap, rngM2_ap, lcM_ap, andV_ap, notV_ap, orV_ap, ifM_ap, orM_ap, notM_ap, tru_ap, tru_b, chn_ap, seqA_l, seqA_t, seqA_f, seqA_s, len_t, len_f, opN_ap, met0_ap, met1_ap, metT_ap, apnM_ap, rtF_ap, ri_nx, ri_ro, sq_bk, sq_ct, sq_ro, mkT_ok, mkL_ok, List.length_append, List.length_singleton, asI, Wp_ok, nxt_nx, nxt_rt, nxt_bk, nxt_ct, trn_nx, trn_ct, trn_bk, trn_rt, ends_nx, ends_rt, ix_t, leA_ii, le_ii, sub_ii, Bool.not_true, Bool.not_false, Bool.false_eq_true, Bool.true_eq_false, eq_bb, ne_bb, eq_ss, ne_ss, raiM_ap, tryM_ap, tr_ok, tr_ex, rb_ex, bo_ex, sq_ex, ri_ex, kwA_ap, drp_ap, Nat.reduceLeDiff, Nat.zero_le, Nat.reduceMul, s, gt]
    | _ => cases hs
end L2.DL.K02

namespace L2.DL.K02
open PySem PySem.Spec PyProof.Rows
/-! ### names -/
def letC (c : Nat) : Bool := decide (97 ≤ c) && decide (c ≤ 122)
def figC (c : Nat) : Bool := decide (48 ≤ c) && decide (c ≤ 57)
def headC : List Nat → Bool
  | [] => false
  | c :: _ => letC c
def nameS (s : Str) : Bool := decide (s.length ≤ 12) && headC s.cps.toList && s.cps.toList.all fun c => letC c || figC c
def isName : D → Bool
  | .str s => nameS s
  | _ => false
theorem sgn_a : ("a" : Str) = ⟨#[97]⟩ := rfl
theorem sgn_z : ("z" : Str) = ⟨#[122]⟩ := rfl
theorem sgn_0 : ("0" : Str) = ⟨#[48]⟩ := rfl
theorem sgn_9 : ("9" : Str) = ⟨#[57]⟩ := rfl
theorem is_name_ok {v : D} {μ : Sto} (h : Pv v) : G_is_name [v] μ = .ok (.bl (isName v)) μ := by
  cases h with
  | str s hs hk =>
    have t1 : tyI ocT (.str s) μ = some (.b "str") := rfl
    have a1 : isAny ktT (.b "str") [.b "str"] = some true := rfl
    have hl : s.length ≤ lineN := Nat.le_trans hs (by decide)
    have ln := len_s hl
    have lc := lcT (ρ := [some (.sh (.str s)), none]) (μ := μ) (i := 1) (fe := orV (chn leA leA (cst (.str "a")) (lett 1) (cst (.str "z"))) (chn leA leA (cst (.str "0")) (lett 1) (cst (.str "9")))) (fun c : Nat => D.str ⟨#[c]⟩) (fun c => .bl (letC c || figC c)) s.cps.toList (by rw [len_cps]; show _ < 16777216; omega) (fun c hc => by
      rw [sgn_a, sgn_z, sgn_0, sgn_9]
      simp only [runD_ap, List.length_cons, List.length_nil, Nat.reduceAdd, Nat.reduceSub, List.map_cons, List.map_nil, List.replicate_succ, List.replicate_zero, List.cons_append, List.nil_append, seqM_ap, sq_nx, sq_rt, stiM_ap, bnd_ap, bo_ok, op2_ap, op2v_ap, op1_ap, cst_ap, lift_so, ret_ap, pek_ap, lett_ap, pekD, List.getElem?_cons_zero, List.getElem?_cons_succ, ix_l, ix50, ix51, ix52, ix53, ix54, isLst, lstUp, lstAt, lstPut, Option.map_some, add_ii, List.set_cons_zero, List.set_cons_succ, ifS_ap, andM_ap, tst_ap, eq_ii, lt_ii, gt_ii, ge_ii, len_l, asBl_b, bf_t, bf_f, bf_d, if_true, if_false, ite_true, ite_false, decide_true, decide_false, setM_ap, put_ap, skp_ap, rtM_ap, ri_rt, int_i, abs_i, ixN50, ixN51, ixN52, ixN53, ixN54, walkA_ap, isiM_ap, kwD_ap, newM_ap, ni_ok, ni_ex, fldV_ap, fldM_ap, asgM_ap, parM_ap, parM3_ap, tgN_ap, tgT2, tgT3, tgCons_ap, tgNil_ap, calM_ap, acons_ap, anil_ap, rb_ok, rb_ow, tupM_ap, lstM_ap, slM_ap, noP_ap, prt_ap, forM_ap, rngM1_ap, rngM2_ap, lcM_ap, andV_ap, notV_ap, orV_ap, ifM_ap, orM_ap, notM_ap, tru_ap, tru_b, chn_ap, seqA_l, seqA_t, seqA_f, seqA_s, len_t, len_f, opN_ap, met0_ap, met1_ap, metT_ap, apnM_ap, rtF_ap, ri_nx, ri_ro, sq_bk, sq_ct, sq_ro, mkT_ok, mkL_ok, List.length_append, List.length_singleton, asI, Wp_ok, nxt_nx, nxt_rt, nxt_bk, nxt_ct, trn_nx, trn_ct, trn_bk, trn_rt, ends_nx, ends_rt, ix_t, leA_ii, le_ii, sub_ii, Bool.not_true, Bool.not_false, Bool.false_eq_true, Bool.true_eq_false, eq_bb, ne_bb, eq_ss, ne_ss, raiM_ap, tryM_ap, tr_ok, tr_ex, rb_ex, bo_ex, sq_ex, ri_ex, kwA_ap, drp_ap, Nat.reduceLeDiff, Nat.zero_le, Nat.reduceMul, leA_c, letC, figC]
      by_cases h1 : 97 ≤ c <;> by_cases h2 : c ≤ 122 <;> by_cases h3 : 48 ≤ c <;> simp only [h1, h2, h3, runD_ap, List.length_cons, List.length_nil, Nat.reduceAdd, Nat.reduceSub, List.map_cons, List.map_nil, List.replicate_succ, List.replicate_zero, List.cons_append, List.nil_append, seqM_ap, sq_nx, sq_rt, stiM_ap, bnd_ap, bo_ok, op2_ap, op2v_ap, op1_ap, cst_ap, lift_so, ret_ap, pek_ap, lett_ap, pekD, List.getElem?_cons_zero, List.getElem?_cons_succ, ix_l, ix50, ix51, ix52, ix53, ix54, isLst, lstUp, lstAt, lstPut, Option.map_some, add_ii, List.set_cons_zero, List.set_cons_succ, ifS_ap, andM_ap, tst_ap, eq_ii, lt_ii, gt_ii, ge_ii, len_l, asBl_b, bf_t, bf_f, bf_d, if_true, if_false, ite_true, ite_false, decide_true, decide_false, setM_ap, put_ap, skp_ap, rtM_ap, ri_rt, int_i, abs_i, ixN50, ixN51, ixN52, ixN53, ixN54, walkA_ap, isiM_ap, kwD_ap, newM_ap, ni_ok, ni_ex, fldV_ap, fldM_ap, asgM_ap, parM_ap, parM3_ap, tgN_ap, tgT2, tgT3, tgCons_ap, tgNil_ap, calM_ap, acons_ap, anil_ap, rb_ok, rb_ow, tupM_ap, lstM_ap, slM_ap, noP_ap, prt_ap, forM_ap, rngM1_ap, rngM2_ap, lcM_ap, andV_ap, notV_ap, orV_ap, ifM_ap, orM_ap, notM_ap, tru_ap, tru_b, chn_ap, seqA_l, seqA_t, seqA_f, seqA_s, len_t, len_f, opN_ap, met0_ap, met1_ap, metT_ap, apnM_ap, rtF_ap, ri_nx, ri_ro, sq_bk, sq_ct, sq_ro, mkT_ok, mkL_ok, List.length_append, List.length_singleton, asI, Wp_ok, nxt_nx, nxt_rt, nxt_bk, nxt_ct, trn_nx, trn_ct, trn_bk, trn_rt, ends_nx, ends_rt, ix_t, leA_ii, le_ii, sub_ii, Bool.not_true, Bool.not_false, Bool.false_eq_true, Bool.true_eq_false, eq_bb, ne_bb, eq_ss, ne_ss, raiM_ap, tryM_ap, tr_ok, tr_ex, rb_ex, bo_ex, sq_ex, ri_ex, kwA_ap, drp_ap, Nat.reduceLeDiff, Nat.zero_le, Nat.reduceMul, leA_c, Bool.and_true, Bool.and_false, Bool.or_true, Bool.or_false, Bool.true_and, Bool.false_and, Bool.true_or, Bool.false_or])
    have lc2 := all_bls (fun c : Nat => letC c || figC c) s.cps.toList
    cases hc : s.cps.toList with
    | nil =>
      have l0 : s.length = 0 := by rw [← len_cps, hc] <;> rfl
      have e : isName (.str s) = false := by show nameS s = _; unfold nameS; rw [hc]; simp [headC]
      have c1 : ¬ (1 : Int) ≤ ((0 : Nat) : Int) := by omega
      rw [e]
      rw [l0] at ln
      simp only [G_is_name, g_is_name, runD_ap, List.length_cons, List.length_nil, Nat.reduceAdd, Nat.reduceSub, List.map_cons, List.map_nil, List.replicate_succ, List.replicate_zero, List.cons_append, List.nil_append, seqM_ap, sq_nx, sq_rt, stiM_ap, bnd_ap, bo_ok, op2_ap, op2v_ap, op1_ap, cst_ap, lift_so, ret_ap, pek_ap, lett_ap, pekD, List.getElem?_cons_zero, List.getElem?_cons_succ, ix_l, ix50, ix51, ix52, ix53, ix54, isLst, lstUp, lstAt, lstPut, Option.map_some, add_ii, List.set_cons_zero, List.set_cons_succ, ifS_ap, andM_ap, tst_ap, eq_ii, lt_ii, gt_ii, ge_ii, len_l, asBl_b, bf_t, bf_f, bf_d, if_true, if_false, ite_true, ite_false, decide_true, decide_false, setM_ap, put_ap, skp_ap, rtM_ap, ri_rt, int_i, abs_i, ixN50, ixN51, ixN52, ixN53, ixN54, walkA_ap, isiM_ap, kwD_ap, newM_ap, ni_ok, ni_ex, fldV_ap, fldM_ap, asgM_ap, parM_ap, parM3_ap, tgN_ap, tgT2, tgT3, tgCons_ap, tgNil_ap, calM_ap, acons_ap, anil_ap, rb_ok, rb_ow, tupM_ap, lstM_ap, slM_ap, noP_ap, prt_ap, forM_ap, rngM1_ap, rngM2_ap, lcM_ap, andV_ap, notV_ap, orV_ap, ifM_ap, orM_ap, notM_ap, tru_ap, tru_b, chn_ap, seqA_l, seqA_t, seqA_f, seqA_s, len_t, len_f, opN_ap, met0_ap, met1_ap, metT_ap, apnM_ap, rtF_ap, ri_nx, ri_ro, sq_bk, sq_ct, sq_ro, mkT_ok, mkL_ok, List.length_append, List.length_singleton, asI, Wp_ok, nxt_nx, nxt_rt, nxt_bk, nxt_ct, trn_nx, trn_ct, trn_bk, trn_rt, ends_nx, ends_rt, ix_t, leA_ii, le_ii, sub_ii, Bool.not_true, Bool.not_false, Bool.false_eq_true, Bool.true_eq_false, eq_bb, ne_bb, eq_ss, ne_ss, raiM_ap, tryM_ap, tr_ok, tr_ex, rb_ex, bo_ex, sq_ex, ri_ex, kwA_ap, drp_ap, Nat.reduceLeDiff, Nat.zero_le, Nat.reduceMul, t1, a1, ln, c1]
    | cons c cs =>
      have l0 : s.length = cs.length + 1 := by rw [← len_cps, hc] <;> rfl
      have ix := ix_s hl hc
      have c1 : (1 : Int) ≤ (s.length : Int) := by omega
      by_cases c2 : s.length ≤ 12
      · have c2' : (s.length : Int) ≤ 12 := by omega
        cases h1 : letC c with
        | true =>
          have h1' : 97 ≤ c ∧ c ≤ 122 := by simpa [letC] using h1
          have e : isName (.str s) = s.cps.toList.all fun c => letC c || figC c := by show nameS s = _; unfold nameS; rw [decide_eq_true c2]; simp [headC, hc, h1]
          rw [e]
          simp only [G_is_name, g_is_name, runD_ap, List.length_cons, List.length_nil, Nat.reduceAdd, Nat.reduceSub, List.map_cons, List.map_nil, List.replicate_succ, List.replicate_zero, List.cons_append, List.nil_append, seqM_ap, sq_nx, sq_rt, stiM_ap, bnd_ap, bo_ok, op2_ap, op2v_ap, op1_ap, cst_ap, lift_so, ret_ap, pek_ap, lett_ap, pekD, List.getElem?_cons_zero, List.getElem?_cons_succ, ix_l, ix50, ix51, ix52, ix53, ix54, isLst, lstUp, lstAt, lstPut, Option.map_some, add_ii, List.set_cons_zero, List.set_cons_succ, ifS_ap, andM_ap, tst_ap, eq_ii, lt_ii, gt_ii, ge_ii, len_l, asBl_b, bf_t, bf_f, bf_d, if_true, if_false, ite_true, ite_false, decide_true, decide_false, setM_ap, put_ap, skp_ap, rtM_ap, ri_rt, int_i, abs_i, ixN50, ixN51, ixN52, ixN53, ixN54, walkA_ap, isiM_ap, kwD_ap, newM_ap, ni_ok, ni_ex, fldV_ap, fldM_ap, asgM_ap, parM_ap, parM3_ap, tgN_ap, tgT2, tgT3, tgCons_ap, tgNil_ap, calM_ap, acons_ap, anil_ap, rb_ok, rb_ow, tupM_ap, lstM_ap, slM_ap, noP_ap, prt_ap, forM_ap, rngM1_ap, rngM2_ap, lcM_ap, andV_ap, notV_ap, orV_ap, ifM_ap, orM_ap, notM_ap, tru_ap, tru_b, chn_ap, seqA_l, seqA_t, seqA_f, seqA_s, len_t, len_f, opN_ap, met0_ap, met1_ap, metT_ap, apnM_ap, rtF_ap, ri_nx, ri_ro, sq_bk, sq_ct, sq_ro, mkT_ok, mkL_ok, List.length_append, List.length_singleton, asI, Wp_ok, nxt_nx, nxt_rt, nxt_bk, nxt_ct, trn_nx, trn_ct, trn_bk, trn_rt, ends_nx, ends_rt, ix_t, leA_ii, le_ii, sub_ii, Bool.not_true, Bool.not_false, Bool.false_eq_true, Bool.true_eq_false, eq_bb, ne_bb, eq_ss, ne_ss, raiM_ap, tryM_ap, tr_ok, tr_ex, rb_ex, bo_ex, sq_ex, ri_ex, kwA_ap, drp_ap, Nat.reduceLeDiff, Nat.zero_le, Nat.reduceMul, t1, a1, ln, c1, c2', sgn_a, sgn_z, ix, leA_c, h1'.1, h1'.2]
          rw [sgn_a, sgn_z] at lc
          simp only [runD_ap, List.length_cons, List.length_nil, Nat.reduceAdd, Nat.reduceSub, List.map_cons, List.map_nil, List.replicate_succ, List.replicate_zero, List.cons_append, List.nil_append, seqM_ap, sq_nx, sq_rt, stiM_ap, bnd_ap, bo_ok, op2_ap, op2v_ap, op1_ap, cst_ap, lift_so, ret_ap, pek_ap, lett_ap, pekD, List.getElem?_cons_zero, List.getElem?_cons_succ, ix_l, ix50, ix51, ix52, ix53, ix54, isLst, lstUp, lstAt, lstPut, Option.map_some, add_ii, List.set_cons_zero, List.set_cons_succ, ifS_ap, andM_ap, tst_ap, eq_ii, lt_ii, gt_ii, ge_ii, len_l, asBl_b, bf_t, bf_f, bf_d, if_true, if_false, ite_true, ite_false, decide_true, decide_false, setM_ap, put_ap, skp_ap, rtM_ap, ri_rt, int_i, abs_i, ixN50, ixN51, ixN52, ixN53, ixN54, walkA_ap, isiM_ap, kwD_ap, newM_ap, ni_ok, ni_ex, fldV_ap, fldM_ap, asgM_ap, parM_ap, parM3_ap, tgN_ap, tgT2, tgT3, tgCons_ap, tgNil_ap, calM_ap, acons_ap, anil_ap, rb_ok, rb_ow, tupM_ap, lstM_ap, slM_ap, noP_ap, prt_ap, forM_ap, rngM1_ap, rngM2_ap, lcM_ap, andV_ap, notV_ap, orV_ap, ifM_ap, orM_ap, notM_ap, tru_ap, tru_b, chn_ap, seqA_l, seqA_t, seqA_f, seqA_s, len_t, len_f, opN_ap, met0_ap, met1_ap, metT_ap, apnM_ap, rtF_ap, ri_nx, ri_ro, sq_bk, sq_ct, sq_ro, mkT_ok, mkL_ok, List.length_append, List.length_singleton, asI, Wp_ok, nxt_nx, nxt_rt, nxt_bk, nxt_ct, trn_nx, trn_ct, trn_bk, trn_rt, ends_nx, ends_rt, ix_t, leA_ii, le_ii, sub_ii, Bool.not_true, Bool.not_false, Bool.false_eq_true, Bool.true_eq_false, eq_bb, ne_bb, eq_ss, ne_ss, raiM_ap, tryM_ap, tr_ok, tr_ex, rb_ex, bo_ex, sq_ex, ri_ex, kwA_ap, drp_ap, Nat.reduceLeDiff, Nat.zero_le, Nat.reduceMul, lc, lc2]
        | false =>
          have e : isName (.str s) = false := by show nameS s = _; unfold nameS; rw [decide_eq_true c2]; simp [headC, hc, h1]
          rw [e]
          by_cases k1 : 97 ≤ c
          · have k2 : ¬ c ≤ 122 := fun z => by simp [letC, k1, z] at h1
            simp only [G_is_name, g_is_name, runD_ap, List.length_cons, List.length_nil, Nat.reduceAdd, Nat.reduceSub, List.map_cons, List.map_nil, List.replicate_succ, List.replicate_zero, List.cons_append, List.nil_append, seqM_ap, sq_nx, sq_rt, stiM_ap, bnd_ap, bo_ok, op2_ap, op2v_ap, op1_ap, cst_ap, lift_so, ret_ap, pek_ap, lett_ap, pekD, List.getElem?_cons_zero, List.getElem?_cons_succ, ix_l, ix50, ix51, ix52, ix53, ix54, isLst, lstUp, lstAt, lstPut, Option.map_some, add_ii, List.set_cons_zero, List.set_cons_succ, ifS_ap, andM_ap, tst_ap, eq_ii, lt_ii, gt_ii, ge_ii, len_l, asBl_b, bf_t, bf_f, bf_d, if_true, if_false, ite_true, ite_false, decide_true, decide_false, setM_ap, put_ap, skp_ap, rtM_ap, ri_rt, int_i, abs_i, ixN50, ixN51, ixN52, ixN53, ixN54, walkA_ap, isiM_ap, kwD_ap, newM_ap, ni_ok, ni_ex, fldV_ap, fldM_ap, asgM_ap, parM_ap, parM3_ap, tgN_ap, tgT2, tgT3, tgCons_ap, tgNil_ap, calM_ap, acons_ap, anil_ap, rb_ok, rb_ow, tupM_ap, lstM_ap, slM_ap, noP_ap, prt_ap, forM_ap, rngM1_ap, rngM2_ap, lcM_ap, andV_ap, notV_ap, orV_ap, ifM_ap, orM_ap, notM_ap, tru_ap, tru_b, chn_ap, seqA_l, seqA_t, seqA_f, seqA_s, len_t, len_f, opN_ap, met0_ap, met1_ap, metT_ap, apnM_ap, rtF_ap, ri_nx, ri_ro, sq_bk, sq_ct, sq_ro, mkT_ok, mkL_ok, List.length_append, List.length_singleton, asI, Wp_ok, nxt_nx, nxt_rt, nxt_bk, nxt_ct, trn_nx, trn_ct, trn_bk, trn_rt, ends_nx, ends_rt, ix_t, leA_ii, le_ii, sub_ii, Bool.not_true, Bool.not_false, Bool.false_eq_true, Bool.true_eq_false, eq_bb, ne_bb, eq_ss, ne_ss, raiM_ap, tryM_ap, tr_ok, tr_ex, rb_ex, bo_ex, sq_ex, ri_ex, kwA_ap, drp_ap, Nat.reduceLeDiff, Nat.zero_le, Nat.reduceMul, t1, a1, ln, c1, c2', sgn_a, sgn_z, ix, leA_c, k1, k2]
          · simp only [G_is_name, g_is_name, runD_ap, List.length_cons, List.length_nil, Nat.reduceAdd, Nat.reduceSub, List.map_cons, List.map_nil, List.replicate_succ, List.replicate_zero, List.cons_append, List.nil_append, seqM_ap, sq_nx, sq_rt, stiM_ap, bnd_ap, bo_ok, op2_ap, op2v_ap, op1_ap, cst_ap, lift_so, ret_ap, pek_ap, lett_ap, pekD, List.getElem?_cons_zero, List.getElem?_cons_succ, ix_l, ix50, ix51, ix52, ix53, ix54, isLst, lstUp, lstAt, lstPut, Option.map_some, add_ii, List.set_cons_zero, List.set_cons_succ, ifS_ap, andM_ap, tst_ap, eq_ii, lt_ii, gt_ii, ge_ii, len_l, asBl_b, bf_t, bf_f, bf_d, if_true, if_false, ite_true, ite_false, decide_true, decide_false, setM_ap, put_ap, skp_ap, rtM_ap, ri_rt, int_i, abs_i, ixN50, ixN51, ixN52, ixN53, ixN54, walkA_ap, isiM_ap, kwD_ap, newM_ap, ni_ok, ni_ex, fldV_ap, fldM_ap, asgM_ap, parM_ap, parM3_ap, tgN_ap, tgT2, tgT3, tgCons_ap, tgNil_ap, calM_ap, acons_ap, anil_ap, rb_ok, rb_ow, tupM_ap, lstM_ap, slM_ap, noP_ap, prt_ap, forM_ap, rngM1_ap, rngM2_ap, lcM_ap, andV_ap, notV_ap, orV_ap, ifM_ap, orM_ap, notM_ap, tru_ap, tru_b, chn_ap, seqA_l, seqA_t, seqA_f, seqA_s, len_t, len_f, opN_ap, met0_ap, met1_ap, metT_ap, apnM_ap, rtF_ap, ri_nx, ri_ro, sq_bk, sq_ct, sq_ro, mkT_ok, mkL_ok, List.length_append, List.length_singleton, asI, Wp_ok, nxt_nx, nxt_rt, nxt_bk, nxt_ct, trn_nx, trn_ct, trn_bk, trn_rt, ends_nx, ends_rt, ix_t, leA_ii, le_ii, sub_ii, Bool.not_true, Bool.not_false, Bool.false_eq_true, Bool.true_eq_false, eq_bb, ne_bb, eq_ss, ne_ss, raiM_ap, tryM_ap, tr_ok, tr_ex, rb_ex, bo_ex, sq_ex, ri_ex, kwA_ap, drp_ap, Nat.reduceLeDiff, Nat.zero_le, Nat.reduceMul, t1, a1, ln, c1, c2', sgn_a, sgn_z, ix, leA_c, k1]
      · have c2' : ¬ (s.length : Int) ≤ 12 := by omega
        have e : isName (.str s) = false := by show nameS s = _; unfold nameS; rw [decide_eq_false c2]; simp
        rw [e]
        simp only [G_is_name, g_is_name, runD_ap, List.length_cons, List.length_nil, Nat.reduceAdd, Nat.reduceSub, List.map_cons, List.map_nil, List.replicate_succ, List.replicate_zero, List.cons_append, List.nil_append, seqM_ap, sq_nx, sq_rt, stiM_ap, bnd_ap, bo_ok, op2_ap, op2v_ap, op1_ap, cst_ap, lift_so, ret_ap, pek_ap, lett_ap, pekD, List.getElem?_cons_zero, List.getElem?_cons_succ, ix_l, ix50, ix51, ix52, ix53, ix54, isLst, lstUp, lstAt, lstPut, Option.map_some, add_ii, List.set_cons_zero, List.set_cons_succ, ifS_ap, andM_ap, tst_ap, eq_ii, lt_ii, gt_ii, ge_ii, len_l, asBl_b, bf_t, bf_f, bf_d, if_true, if_false, ite_true, ite_false, decide_true, decide_false, setM_ap, put_ap, skp_ap, rtM_ap, ri_rt, int_i, abs_i, ixN50, ixN51, ixN52, ixN53, ixN54, walkA_ap, isiM_ap, kwD_ap, newM_ap, ni_ok, ni_ex, fldV_ap, fldM_ap, asgM_ap, parM_ap, parM3_ap, tgN_ap, tgT2, tgT3, tgCons_ap, tgNil_ap, calM_ap, acons_ap, anil_ap, rb_ok, rb_ow, tupM_ap, lstM_ap, slM_ap, noP_ap, prt_ap, forM_ap, rngM1_ap, rngM2_ap, lcM_ap, andV_ap, notV_ap, orV_ap, ifM_ap, orM_ap, notM_ap, tru_ap, tru_b, chn_ap, seqA_l, seqA_t, seqA_f, seqA_s, len_t, len_f, opN_ap, met0_ap, met1_ap, metT_ap, apnM_ap, rtF_ap, ri_nx, ri_ro, sq_bk, sq_ct, sq_ro, mkT_ok, mkL_ok, List.length_append, List.length_singleton, asI, Wp_ok, nxt_nx, nxt_rt, nxt_bk, nxt_ct, trn_nx, trn_ct, trn_bk, trn_rt, ends_nx, ends_rt, ix_t, leA_ii, le_ii, sub_ii, Bool.not_true, Bool.not_false, Bool.false_eq_true, Bool.true_eq_false, eq_bb, ne_bb, eq_ss, ne_ss, raiM_ap, tryM_ap, tr_ok, tr_ex, rb_ex, bo_ex, sq_ex, ri_ex, kwA_ap, drp_ap, Nat.reduceLeDiff, Nat.zero_le, Nat.reduceMul, t1, a1, ln, c1, c2']
  | _ => rfl
end L2.DL.K02

namespace L2.DL.K02
open PySem PySem.Spec PyProof.Rows
/-! ### the law's own looks -/
theorem lkey_ok {v : D} {μ : Sto} (h : Pv v) : G_lis_key [v] μ = .ok (.bl (isKey v)) μ := is_key_ok h
def adj : List Int → Bool
  | [] => true
  | a :: r => (match r with
    | [] => true
    | b :: _ => decide (a < b)) && adj r
theorem adj_range : ∀ ns : List Int, ((List.range (ns.length - 1)).all fun k => decide (ns.getD k 0 < ns.getD (k + 1) 0)) = adj ns
  | [] => rfl
  | [a] => rfl
  | a :: b :: r => by
    have ih := adj_range (b :: r)
    have e1 : (a :: b :: r).length - 1 = ((b :: r).length - 1) + 1 := rfl
    rw [e1, List.range_succ_eq_map, List.all_cons, List.all_map]
    show (decide (a < b) && (List.range ((b :: r).length - 1)).all fun k => decide ((b :: r).getD k 0 < (b :: r).getD (k + 1) 0)) = (decide (a < b) && adj (b :: r))
    rw [ih]
theorem asc_adj : ∀ (ns : List Int) (b : Int), (∀ n ∈ ns, 0 ≤ n ∧ n ≤ 999) → asc b (ns.map D.int) = ((match ns with
    | [] => true
    | a :: _ => decide (b < a)) && adj ns)
  | [], b, _ => rfl
  | a :: r, b, h => by
    have ha := h a List.mem_cons_self
    rw [List.map_cons, asc_int, asc_adj r a (fun n hn => h n (List.mem_cons_of_mem _ hn)), decide_eq_true ha.1, decide_eq_true ha.2]
    rfl
theorem keys_ints : ∀ ds : List D, ds.all isKey = true → ∃ ns : List Int, ds = ns.map D.int ∧ ∀ n ∈ ns, 0 ≤ n ∧ n ≤ 999
  | [], _ => ⟨[], rfl, fun _ h => by cases h⟩
  | d :: ds, h => by
    rw [List.all_cons, Bool.and_eq_true] at h
    obtain ⟨ns, e, hn⟩ := keys_ints ds h.2
    cases d with
    | int i =>
      have hi : (decide (0 ≤ i) && decide (i ≤ 999)) = true := h.1
      rw [Bool.and_eq_true, decide_eq_true_iff, decide_eq_true_iff] at hi
      refine ⟨i :: ns, by rw [List.map_cons, e], fun n hm => ?_⟩
      rcases List.mem_cons.mp hm with rfl | hm
      · exact hi
      · exact hn n hm
    | _ => exact Bool.noConfusion h.1
theorem asc_all : ∀ (ds : List D) (b : Int), ds.all isKey = false → asc b ds = false
  | [], _, h => by cases h
  | d :: ds, b, h => by
    rw [List.all_cons] at h
    cases hk : isKey d with
    | false => exact asc_no hk
    | true =>
      rw [hk, Bool.true_and] at h
      cases d with
      | int i => rw [asc_int, asc_all ds i h, Bool.and_false]
      | _ => cases hk
theorem asc_m1 {ns : List Int} (h : ∀ n ∈ ns, 0 ≤ n ∧ n ≤ 999) : asc (-1) (ns.map D.int) = adj ns := by
  rw [asc_adj ns (-1) h]
  cases ns with
  | nil => rfl
  | cons a r =>
    have := h a List.mem_cons_self
    show (decide (-1 < a) && _) = _
    rw [decide_eq_true (by omega), Bool.true_and]
theorem at_int {ns : List Int} {k : Nat} (h : k < ns.length) {i : Int} (hi : i = k) : L2.atI (ns.map D.int) i = some (.int (ns.getD k 0)) := by
  subst hi
  refine atI_nat (by omega) ?_
  rw [Int.toNat_natCast, List.getElem?_map, List.getElem?_eq_getElem h, List.getD_eq_getElem?_getD, List.getElem?_eq_getElem h]
  rfl
theorem rng_1 {n : Nat} (h : n ≤ 1000000) {j : Int} (hj : j.toNat = n) (h1 : j ≤ 1000000) (h2 : -1000000 ≤ j) : rng1 [.int j] = some ((List.range n).map fun k => D.int (0 + (k : Nat))) := by
  show (if inB j = true then some (rngL 0 j) else none) = _
  rw [if_pos (show inB j = true from Nat.ble_eq_true_of_le (by omega))]
  unfold rngL
  rw [Int.sub_zero, hj]
theorem lset_ok {v : D} {μ : Sto} (h : Pv v) (hl : ∀ ds, v = .tup ds → ds.length ≤ 1000) : G_lis_set [v] μ = .ok (.bl (isSet v)) μ := by
  cases h with
  | @tup ds h =>
    have hl := hl ds rfl
    have t1 : tyI ocT (.tup ds) μ = some (.b "tuple") := rfl
    have a1 : isAny ktT (.b "tuple") [.b "tuple"] = some true := rfl
    have lc := lcT (ρ := [some (.sh (.tup ds)), none, none]) (μ := μ) (i := 2) (fe := calM G_lis_key (acons (lett 2) anil)) (fun d : D => d) (fun d => .bl (isKey d)) ds (by show _ < 16777216; omega) (fun d hd => by
      have k := lkey_ok (μ := μ) (h d hd)
      simp only [runD_ap, List.length_cons, List.length_nil, Nat.reduceAdd, Nat.reduceSub, List.map_cons, List.map_nil, List.replicate_succ, List.replicate_zero, List.cons_append, List.nil_append, seqM_ap, sq_nx, sq_rt, stiM_ap, bnd_ap, bo_ok, op2_ap, op2v_ap, op1_ap, cst_ap, lift_so, ret_ap, pek_ap, lett_ap, pekD, List.getElem?_cons_zero, List.getElem?_cons_succ, ix_l, ix50, ix51, ix52, ix53, ix54, isLst, lstUp, lstAt, lstPut, Option.map_some, add_ii, List.set_cons_zero, List.set_cons_succ, ifS_ap, andM_ap, tst_ap, eq_ii, lt_ii, gt_ii, ge_ii, len_l, asBl_b, bf_t, bf_f, bf_d, if_true, if_false, ite_true, ite_false, decide_true, decide_false, setM_ap, put_ap, skp_ap, rtM_ap, ri_rt, int_i, abs_i, ixN50, ixN51, ixN52, ixN53, ixN54, walkA_ap, isiM_ap, kwD_ap, newM_ap, ni_ok, ni_ex, fldV_ap, fldM_ap, asgM_ap, parM_ap, parM3_ap, tgN_ap, tgT2, tgT3, tgCons_ap, tgNil_ap, calM_ap, acons_ap, anil_ap, rb_ok, rb_ow, tupM_ap, lstM_ap, slM_ap, noP_ap, prt_ap, forM_ap, rngM1_ap, rngM2_ap, lcM_ap, andV_ap, notV_ap, orV_ap, ifM_ap, orM_ap, notM_ap, tru_ap, tru_b, chn_ap, seqA_l, seqA_t, seqA_f, seqA_s, len_t, len_f, opN_ap, met0_ap, met1_ap, metT_ap, apnM_ap, rtF_ap, ri_nx, ri_ro, sq_bk, sq_ct, sq_ro, mkT_ok, mkL_ok, List.length_append, List.length_singleton, asI, Wp_ok, nxt_nx, nxt_rt, nxt_bk, nxt_ct, trn_nx, trn_ct, trn_bk, trn_rt, ends_nx, ends_rt, ix_t, leA_ii, le_ii, sub_ii, Bool.not_true, Bool.not_false, Bool.false_eq_true, Bool.true_eq_false, eq_bb, ne_bb, eq_ss, ne_ss, raiM_ap, tryM_ap, tr_ok, tr_ex, rb_ex, bo_ex, sq_ex, ri_ex, kwA_ap, drp_ap, runI_ap, rin_nx, rin_ex, satM_ap, Nat.reduceLeDiff, Nat.zero_le, Nat.reduceMul, k])
    rw [List.map_id'] at lc
    have lc2 := all_bls isKey ds
    cases ha : ds.all isKey with
    | false =>
      have e : isSet (.tup ds) = false := asc_all ds (-1) ha
      rw [ha] at lc2
      rw [e]
      simp only [G_lis_set, g_lis_set, runD_ap, List.length_cons, List.length_nil, Nat.reduceAdd, Nat.reduceSub, List.map_cons, List.map_nil, List.replicate_succ, List.replicate_zero, List.cons_append, List.nil_append, seqM_ap, sq_nx, sq_rt, stiM_ap, bnd_ap, bo_ok, op2_ap, op2v_ap, op1_ap, cst_ap, lift_so, ret_ap, pek_ap, lett_ap, pekD, List.getElem?_cons_zero, List.getElem?_cons_succ, ix_l, ix50, ix51, ix52, ix53, ix54, isLst, lstUp, lstAt, lstPut, Option.map_some, add_ii, List.set_cons_zero, List.set_cons_succ, ifS_ap, andM_ap, tst_ap, eq_ii, lt_ii, gt_ii, ge_ii, len_l, asBl_b, bf_t, bf_f, bf_d, if_true, if_false, ite_true, ite_false, decide_true, decide_false, setM_ap, put_ap, skp_ap, rtM_ap, ri_rt, int_i, abs_i, ixN50, ixN51, ixN52, ixN53, ixN54, walkA_ap, isiM_ap, kwD_ap, newM_ap, ni_ok, ni_ex, fldV_ap, fldM_ap, asgM_ap, parM_ap, parM3_ap, tgN_ap, tgT2, tgT3, tgCons_ap, tgNil_ap, calM_ap, acons_ap, anil_ap, rb_ok, rb_ow, tupM_ap, lstM_ap, slM_ap, noP_ap, prt_ap, forM_ap, rngM1_ap, rngM2_ap, lcM_ap, andV_ap, notV_ap, orV_ap, ifM_ap, orM_ap, notM_ap, tru_ap, tru_b, chn_ap, seqA_l, seqA_t, seqA_f, seqA_s, len_t, len_f, opN_ap, met0_ap, met1_ap, metT_ap, apnM_ap, rtF_ap, ri_nx, ri_ro, sq_bk, sq_ct, sq_ro, mkT_ok, mkL_ok, List.length_append, List.length_singleton, asI, Wp_ok, nxt_nx, nxt_rt, nxt_bk, nxt_ct, trn_nx, trn_ct, trn_bk, trn_rt, ends_nx, ends_rt, ix_t, leA_ii, le_ii, sub_ii, Bool.not_true, Bool.not_false, Bool.false_eq_true, Bool.true_eq_false, eq_bb, ne_bb, eq_ss, ne_ss, raiM_ap, tryM_ap, tr_ok, tr_ex, rb_ex, bo_ex, sq_ex, ri_ex, kwA_ap, drp_ap, runI_ap, rin_nx, rin_ex, satM_ap, Nat.reduceLeDiff, Nat.zero_le, Nat.reduceMul, t1, a1, lc, lc2, shO]
    | true =>
      obtain ⟨ns, rfl, hn⟩ := keys_ints ds ha
      have e : isSet (.tup (ns.map D.int)) = adj ns := asc_m1 hn
      rw [List.length_map] at hl
      rw [ha] at lc2
      rw [e]
      have rg := rng_1 (n := ns.length - 1) (j := ((ns.map D.int).length : Int) - 1) (by omega) (by rw [List.length_map]; omega) (by rw [List.length_map]; omega) (by rw [List.length_map]; omega)
      have lc3 := lcT (ρ := [some (.sh (.tup (ns.map D.int))), none, none]) (μ := μ) (i := 1) (fe := op2 ltA (op2v ixD 0 (lett 1)) (op2v ixD 0 (op2 addD (lett 1) (cst (.int 1))))) (fun k : Nat => D.int (0 + (k : Nat))) (fun k => .bl (decide (ns.getD k 0 < ns.getD (k + 1) 0))) (List.range (ns.length - 1)) (by rw [List.length_range]; show _ < 16777216; omega) (fun k hk => by
        have hk : k < ns.length - 1 := List.mem_range.mp hk
        have i1 := at_int (ns := ns) (k := k) (by omega) (i := 0 + (k : Nat)) (by omega)
        have i2 := at_int (ns := ns) (k := k + 1) (by omega) (i := 0 + (k : Nat) + 1) (by omega)
        simp only [runD_ap, List.length_cons, List.length_nil, Nat.reduceAdd, Nat.reduceSub, List.map_cons, List.map_nil, List.replicate_succ, List.replicate_zero, List.cons_append, List.nil_append, seqM_ap, sq_nx, sq_rt, stiM_ap, bnd_ap, bo_ok, op2_ap, op2v_ap, op1_ap, cst_ap, lift_so, ret_ap, pek_ap, lett_ap, pekD, List.getElem?_cons_zero, List.getElem?_cons_succ, ix_l, ix50, ix51, ix52, ix53, ix54, isLst, lstUp, lstAt, lstPut, Option.map_some, add_ii, List.set_cons_zero, List.set_cons_succ, ifS_ap, andM_ap, tst_ap, eq_ii, lt_ii, gt_ii, ge_ii, len_l, asBl_b, bf_t, bf_f, bf_d, if_true, if_false, ite_true, ite_false, decide_true, decide_false, setM_ap, put_ap, skp_ap, rtM_ap, ri_rt, int_i, abs_i, ixN50, ixN51, ixN52, ixN53, ixN54, walkA_ap, isiM_ap, kwD_ap, newM_ap, ni_ok, ni_ex, fldV_ap, fldM_ap, asgM_ap, parM_ap, parM3_ap, tgN_ap, tgT2, tgT3, tgCons_ap, tgNil_ap, calM_ap, acons_ap, anil_ap, rb_ok, rb_ow, tupM_ap, lstM_ap, slM_ap, noP_ap, prt_ap, forM_ap, rngM1_ap, rngM2_ap, lcM_ap, andV_ap, notV_ap, orV_ap, ifM_ap, orM_ap, notM_ap, tru_ap, tru_b, chn_ap, seqA_l, seqA_t, seqA_f, seqA_s, len_t, len_f, opN_ap, met0_ap, met1_ap, metT_ap, apnM_ap, rtF_ap, ri_nx, ri_ro, sq_bk, sq_ct, sq_ro, mkT_ok, mkL_ok, List.length_append, List.length_singleton, asI, Wp_ok, nxt_nx, nxt_rt, nxt_bk, nxt_ct, trn_nx, trn_ct, trn_bk, trn_rt, ends_nx, ends_rt, ix_t, leA_ii, le_ii, sub_ii, Bool.not_true, Bool.not_false, Bool.false_eq_true, Bool.true_eq_false, eq_bb, ne_bb, eq_ss, ne_ss, raiM_ap, tryM_ap, tr_ok, tr_ex, rb_ex, bo_ex, sq_ex, ri_ex, kwA_ap, drp_ap, runI_ap, rin_nx, rin_ex, satM_ap, Nat.reduceLeDiff, Nat.zero_le, Nat.reduceMul, i1, i2])
      have lc4 := all_bls (fun k : Nat => decide (ns.getD k 0 < ns.getD (k + 1) 0)) (List.range (ns.length - 1))
      rw [adj_range] at lc4
      simp only [G_lis_set, g_lis_set, runD_ap, List.length_cons, List.length_nil, Nat.reduceAdd, Nat.reduceSub, List.map_cons, List.map_nil, List.replicate_succ, List.replicate_zero, List.cons_append, List.nil_append, seqM_ap, sq_nx, sq_rt, stiM_ap, bnd_ap, bo_ok, op2_ap, op2v_ap, op1_ap, cst_ap, lift_so, ret_ap, pek_ap, lett_ap, pekD, List.getElem?_cons_zero, List.getElem?_cons_succ, ix_l, ix50, ix51, ix52, ix53, ix54, isLst, lstUp, lstAt, lstPut, Option.map_some, add_ii, List.set_cons_zero, List.set_cons_succ, ifS_ap, andM_ap, tst_ap, eq_ii, lt_ii, gt_ii, ge_ii, len_l, asBl_b, bf_t, bf_f, bf_d, if_true, if_false, ite_true, ite_false, decide_true, decide_false, setM_ap, put_ap, skp_ap, rtM_ap, ri_rt, int_i, abs_i, ixN50, ixN51, ixN52, ixN53, ixN54, walkA_ap, isiM_ap, kwD_ap, newM_ap, ni_ok, ni_ex, fldV_ap, fldM_ap, asgM_ap, parM_ap, parM3_ap, tgN_ap, tgT2, tgT3, tgCons_ap, tgNil_ap, calM_ap, acons_ap, anil_ap, rb_ok, rb_ow, tupM_ap, lstM_ap, slM_ap, noP_ap, prt_ap, forM_ap, rngM1_ap, rngM2_ap, lcM_ap, andV_ap, notV_ap, orV_ap, ifM_ap, orM_ap, notM_ap, tru_ap, tru_b, chn_ap, seqA_l, seqA_t, seqA_f, seqA_s, len_t, len_f, opN_ap, met0_ap, met1_ap, metT_ap, apnM_ap, rtF_ap, ri_nx, ri_ro, sq_bk, sq_ct, sq_ro, mkT_ok, mkL_ok, List.length_append, List.length_singleton, asI, Wp_ok, nxt_nx, nxt_rt, nxt_bk, nxt_ct, trn_nx, trn_ct, trn_bk, trn_rt, ends_nx, ends_rt, ix_t, leA_ii, le_ii, sub_ii, Bool.not_true, Bool.not_false, Bool.false_eq_true, Bool.true_eq_false, eq_bb, ne_bb, eq_ss, ne_ss, raiM_ap, tryM_ap, tr_ok, tr_ex, rb_ex, bo_ex, sq_ex, ri_ex, kwA_ap, drp_ap, runI_ap, rin_nx, rin_ex, satM_ap, Nat.reduceLeDiff, Nat.zero_le, Nat.reduceMul, t1, a1, lc, lc2, shO, rg, lc3, lc4]
  | _ => rfl
theorem low_mem (c : Nat) : decide (c ∈ (("abcdefghijklmnopqrstuvwxyz" : Str)).cps.toList) = letC c := by
  have e : (("abcdefghijklmnopqrstuvwxyz" : Str)).cps.toList = [97, 98, 99, 100, 101, 102, 103, 104, 105, 106, 107, 108, 109, 110, 111, 112, 113, 114, 115, 116, 117, 118, 119, 120, 121, 122] := rfl
  rw [e]
  unfold letC
  rw [← Bool.decide_and]
  refine decide_eq_decide.mpr ?_
  simp only [List.mem_cons, List.not_mem_nil, or_false]
  omega
theorem fig_mem (c : Nat) : decide (c ∈ (("0123456789" : Str)).cps.toList) = figC c := by
  have e : (("0123456789" : Str)).cps.toList = [48, 49, 50, 51, 52, 53, 54, 55, 56, 57] := rfl
  rw [e]
  unfold figC
  rw [← Bool.decide_and]
  refine decide_eq_decide.mpr ?_
  simp only [List.mem_cons, List.not_mem_nil, or_false]
  omega
theorem not_name (cs : List Nat) : (cs.filter fun c => !letC c && !figC c).isEmpty = cs.all fun c => letC c || figC c := by
  induction cs with
  | nil => rfl
  | cons c cs ih =>
    rw [List.all_cons, ← ih]
    cases h1 : letC c <;> cases h2 : figC c <;> simp [h1, h2]
theorem lname_ok {v : D} {μ : Sto} (h : Pv v) : G_lis_name [v] μ = .ok (.bl (isName v)) μ := by
  cases h with
  | str s hs hk =>
    have t1 : tyI ocT (.str s) μ = some (.b "str") := rfl
    have a1 : isAny ktT (.b "str") [.b "str"] = some true := rfl
    have hl : s.length ≤ lineN := Nat.le_trans hs (by decide)
    have ln := len_s hl
    have em := eq_empty s
    have gt : gtD (.int s.length) (.int 12) = some (.bl (decide ((12 : Int) < s.length))) := rfl
    have lc := lc1 (ρ := [some (.sh (.str s)), some (.sh (.str "abcdefghijklmnopqrstuvwxyz")), none]) (μ := μ) (i := 2) (ft := andM (tst (op2 ninD (lett 2) (pek 1))) (tst (op2 ninD (lett 2) (cst (.str "0123456789"))))) (fe := lett 2) (fun c : Nat => D.str ⟨#[c]⟩) (fun c => !letC c && !figC c) (fun c => D.str ⟨#[c]⟩) s.cps.toList (by rw [len_cps]; show _ < 16777216; omega) (fun c hc => by
      have n1 := nin_c c "abcdefghijklmnopqrstuvwxyz"
      have n2 := nin_c c "0123456789"
      rw [low_mem] at n1
      rw [fig_mem] at n2
      refine ⟨?_, fun _ => by simp only [runD_ap, List.length_cons, List.length_nil, Nat.reduceAdd, Nat.reduceSub, List.map_cons, List.map_nil, List.replicate_succ, List.replicate_zero, List.cons_append, List.nil_append, seqM_ap, sq_nx, sq_rt, stiM_ap, bnd_ap, bo_ok, op2_ap, op2v_ap, op1_ap, cst_ap, lift_so, ret_ap, pek_ap, lett_ap, pekD, List.getElem?_cons_zero, List.getElem?_cons_succ, ix_l, ix50, ix51, ix52, ix53, ix54, isLst, lstUp, lstAt, lstPut, Option.map_some, add_ii, List.set_cons_zero, List.set_cons_succ, ifS_ap, andM_ap, tst_ap, eq_ii, lt_ii, gt_ii, ge_ii, len_l, asBl_b, bf_t, bf_f, bf_d, if_true, if_false, ite_true, ite_false, decide_true, decide_false, setM_ap, put_ap, skp_ap, rtM_ap, ri_rt, int_i, abs_i, ixN50, ixN51, ixN52, ixN53, ixN54, walkA_ap, isiM_ap, kwD_ap, newM_ap, ni_ok, ni_ex, fldV_ap, fldM_ap, asgM_ap, parM_ap, parM3_ap, tgN_ap, tgT2, tgT3, tgCons_ap, tgNil_ap, calM_ap, acons_ap, anil_ap, rb_ok, rb_ow, tupM_ap, lstM_ap, slM_ap, noP_ap, prt_ap, forM_ap, rngM1_ap, rngM2_ap, lcM_ap, andV_ap, notV_ap, orV_ap, ifM_ap, orM_ap, notM_ap, tru_ap, tru_b, chn_ap, seqA_l, seqA_t, seqA_f, seqA_s, len_t, len_f, opN_ap, met0_ap, met1_ap, metT_ap, apnM_ap, rtF_ap, ri_nx, ri_ro, sq_bk, sq_ct, sq_ro, mkT_ok, mkL_ok, List.length_append, List.length_singleton, asI, Wp_ok, nxt_nx, nxt_rt, nxt_bk, nxt_ct, trn_nx, trn_ct, trn_bk, trn_rt, ends_nx, ends_rt, ix_t, leA_ii, le_ii, sub_ii, Bool.not_true, Bool.not_false, Bool.false_eq_true, Bool.true_eq_false, eq_bb, ne_bb, eq_ss, ne_ss, raiM_ap, tryM_ap, tr_ok, tr_ex, rb_ex, bo_ex, sq_ex, ri_ex, kwA_ap, drp_ap, runI_ap, rin_nx, rin_ex, satM_ap, Nat.reduceLeDiff, Nat.zero_le, Nat.reduceMul]⟩
      cases h1 : letC c <;> cases h2 : figC c <;> rw [h1] at n1 <;> rw [h2] at n2 <;> simp only [runD_ap, List.length_cons, List.length_nil, Nat.reduceAdd, Nat.reduceSub, List.map_cons, List.map_nil, List.replicate_succ, List.replicate_zero, List.cons_append, List.nil_append, seqM_ap, sq_nx, sq_rt, stiM_ap, bnd_ap, bo_ok, op2_ap, op2v_ap, op1_ap, cst_ap, lift_so, ret_ap, pek_ap, lett_ap, pekD, List.getElem?_cons_zero, List.getElem?_cons_succ, ix_l, ix50, ix51, ix52, ix53, ix54, isLst, lstUp, lstAt, lstPut, Option.map_some, add_ii, List.set_cons_zero, List.set_cons_succ, ifS_ap, andM_ap, tst_ap, eq_ii, lt_ii, gt_ii, ge_ii, len_l, asBl_b, bf_t, bf_f, bf_d, if_true, if_false, ite_true, ite_false, decide_true, decide_false, setM_ap, put_ap, skp_ap, rtM_ap, ri_rt, int_i, abs_i, ixN50, ixN51, ixN52, ixN53, ixN54, walkA_ap, isiM_ap, kwD_ap, newM_ap, ni_ok, ni_ex, fldV_ap, fldM_ap, asgM_ap, parM_ap, parM3_ap, tgN_ap, tgT2, tgT3, tgCons_ap, tgNil_ap, calM_ap, acons_ap, anil_ap, rb_ok, rb_ow, tupM_ap, lstM_ap, slM_ap, noP_ap, prt_ap, forM_ap, rngM1_ap, rngM2_ap, lcM_ap, andV_ap, notV_ap, orV_ap, ifM_ap, orM_ap, notM_ap, tru_ap, tru_b, chn_ap, seqA_l, seqA_t, seqA_f, seqA_s, len_t, len_f, opN_ap, met0_ap, met1_ap, metT_ap, apnM_ap, rtF_ap, ri_nx, ri_ro, sq_bk, sq_ct, sq_ro, mkT_ok, mkL_ok, List.length_append, List.length_singleton, asI, Wp_ok, nxt_nx, nxt_rt, nxt_bk, nxt_ct, trn_nx, trn_ct, trn_bk, trn_rt, ends_nx, ends_rt, ix_t, leA_ii, le_ii, sub_ii, Bool.not_true, Bool.not_false, Bool.false_eq_true, Bool.true_eq_false, eq_bb, ne_bb, eq_ss, ne_ss, raiM_ap, tryM_ap, tr_ok, tr_ex, rb_ex, bo_ex, sq_ex, ri_ex, kwA_ap, drp_ap, runI_ap, rin_nx, rin_ex, satM_ap, Nat.reduceLeDiff, Nat.zero_le, Nat.reduceMul, n1, n2, Bool.and_true, Bool.and_false, Bool.true_and, Bool.false_and])
    have en := eq_ln (flat_sgn (cs := s.cps.toList.filter fun c => !letC c && !figC c) (fun c hc => strOk_mem hk c (List.mem_filter.mp hc).1))
    rw [List.isEmpty_map, not_name] at en
    cases hc : s.cps.toList with
    | nil =>
      have se : s = "" := str_nil.mpr hc
      have e : isName (.str s) = false := by show nameS s = _; unfold nameS; rw [hc]; simp [headC]
      rw [decide_eq_true se] at em
      rw [e]
      simp only [G_lis_name, g_lis_name, runD_ap, List.length_cons, List.length_nil, Nat.reduceAdd, Nat.reduceSub, List.map_cons, List.map_nil, List.replicate_succ, List.replicate_zero, List.cons_append, List.nil_append, seqM_ap, sq_nx, sq_rt, stiM_ap, bnd_ap, bo_ok, op2_ap, op2v_ap, op1_ap, cst_ap, lift_so, ret_ap, pek_ap, lett_ap, pekD, List.getElem?_cons_zero, List.getElem?_cons_succ, ix_l, ix50, ix51, ix52, ix53, ix54, isLst, lstUp, lstAt, lstPut, Option.map_some, add_ii, List.set_cons_zero, List.set_cons_succ, ifS_ap, andM_ap, tst_ap, eq_ii, lt_ii, gt_ii, ge_ii, len_l, asBl_b, bf_t, bf_f, bf_d, if_true, if_false, ite_true, ite_false, decide_true, decide_false, setM_ap, put_ap, skp_ap, rtM_ap, ri_rt, int_i, abs_i, ixN50, ixN51, ixN52, ixN53, ixN54, walkA_ap, isiM_ap, kwD_ap, newM_ap, ni_ok, ni_ex, fldV_ap, fldM_ap, asgM_ap, parM_ap, parM3_ap, tgN_ap, tgT2, tgT3, tgCons_ap, tgNil_ap, calM_ap, acons_ap, anil_ap, rb_ok, rb_ow, tupM_ap, lstM_ap, slM_ap, noP_ap, prt_ap, forM_ap, rngM1_ap, rngM2_ap, lcM_ap, andV_ap, notV_ap, orV_ap, ifM_ap, orM_ap, notM_ap, tru_ap, tru_b, chn_ap, seqA_l, seqA_t, seqA_f, seqA_s, len_t, len_f, opN_ap, met0_ap, met1_ap, metT_ap, apnM_ap, rtF_ap, ri_nx, ri_ro, sq_bk, sq_ct, sq_ro, mkT_ok, mkL_ok, List.length_append, List.length_singleton, asI, Wp_ok, nxt_nx, nxt_rt, nxt_bk, nxt_ct, trn_nx, trn_ct, trn_bk, trn_rt, ends_nx, ends_rt, ix_t, leA_ii, le_ii, sub_ii, Bool.not_true, Bool.not_false, Bool.false_eq_true, Bool.true_eq_false, eq_bb, ne_bb, eq_ss, ne_ss, raiM_ap, tryM_ap, tr_ok, tr_ex, rb_ex, bo_ex, sq_ex, ri_ex, kwA_ap, drp_ap, runI_ap, rin_nx, rin_ex, satM_ap, Nat.reduceLeDiff, Nat.zero_le, Nat.reduceMul, t1, a1, em]
    | cons c cs =>
      have sn : ¬ s = "" := fun z => by rw [str_nil.mp z] at hc; cases hc
      rw [decide_eq_false sn] at em
      have ix := ix_s hl hc
      have ic := in_c c "abcdefghijklmnopqrstuvwxyz"
      rw [low_mem] at ic
      by_cases c2 : s.length ≤ 12
      · have c2' : ¬ (12 : Int) < s.length := by omega
        cases h1 : letC c with
        | true =>
          rw [h1] at ic
          have e : isName (.str s) = s.cps.toList.all fun c => letC c || figC c := by show nameS s = _; unfold nameS; rw [decide_eq_true c2]; simp [headC, hc, h1]
          rw [e]
          simp only [G_lis_name, g_lis_name, runD_ap, List.length_cons, List.length_nil, Nat.reduceAdd, Nat.reduceSub, List.map_cons, List.map_nil, List.replicate_succ, List.replicate_zero, List.cons_append, List.nil_append, seqM_ap, sq_nx, sq_rt, stiM_ap, bnd_ap, bo_ok, op2_ap, op2v_ap, op1_ap, cst_ap, lift_so, ret_ap, pek_ap, lett_ap, pekD, List.getElem?_cons_zero, List.getElem?_cons_succ, ix_l, ix50, ix51, ix52, ix53, ix54, isLst, lstUp, lstAt, lstPut, Option.map_some, add_ii, List.set_cons_zero, List.set_cons_succ, ifS_ap, andM_ap, tst_ap, eq_ii, lt_ii, gt_ii, ge_ii, len_l, asBl_b, bf_t, bf_f, bf_d, if_true, if_false, ite_true, ite_false, decide_true, decide_false, setM_ap, put_ap, skp_ap, rtM_ap, ri_rt, int_i, abs_i, ixN50, ixN51, ixN52, ixN53, ixN54, walkA_ap, isiM_ap, kwD_ap, newM_ap, ni_ok, ni_ex, fldV_ap, fldM_ap, asgM_ap, parM_ap, parM3_ap, tgN_ap, tgT2, tgT3, tgCons_ap, tgNil_ap, calM_ap, acons_ap, anil_ap, rb_ok, rb_ow, tupM_ap, lstM_ap, slM_ap, noP_ap, prt_ap, forM_ap, rngM1_ap, rngM2_ap, lcM_ap, andV_ap, notV_ap, orV_ap, ifM_ap, orM_ap, notM_ap, tru_ap, tru_b, chn_ap, seqA_l, seqA_t, seqA_f, seqA_s, len_t, len_f, opN_ap, met0_ap, met1_ap, metT_ap, apnM_ap, rtF_ap, ri_nx, ri_ro, sq_bk, sq_ct, sq_ro, mkT_ok, mkL_ok, List.length_append, List.length_singleton, asI, Wp_ok, nxt_nx, nxt_rt, nxt_bk, nxt_ct, trn_nx, trn_ct, trn_bk, trn_rt, ends_nx, ends_rt, ix_t, leA_ii, le_ii, sub_ii, Bool.not_true, Bool.not_false, Bool.false_eq_true, Bool.true_eq_false, eq_bb, ne_bb, eq_ss, ne_ss, raiM_ap, tryM_ap, tr_ok, tr_ex, rb_ex, bo_ex, sq_ex, ri_ex, kwA_ap, drp_ap, runI_ap, rin_nx, rin_ex, satM_ap, Nat.reduceLeDiff, Nat.zero_le, Nat.reduceMul, t1, a1, em, ln, gt, c2', ix, ic, lc, en, shO]
        | false =>
          rw [h1] at ic
          have e : isName (.str s) = false := by show nameS s = _; unfold nameS; rw [decide_eq_true c2]; simp [headC, hc, h1]
          rw [e]
          simp only [G_lis_name, g_lis_name, runD_ap, List.length_cons, List.length_nil, Nat.reduceAdd, Nat.reduceSub, List.map_cons, List.map_nil, List.replicate_succ, List.replicate_zero, List.cons_append, List.nil_append, seqM_ap, sq_nx, sq_rt, stiM_ap, bnd_ap, bo_ok, op2_ap, op2v_ap, op1_ap, cst_ap, lift_so, ret_ap, pek_ap, lett_ap, pekD, List.getElem?_cons_zero, List.getElem?_cons_succ, ix_l, ix50, ix51, ix52, ix53, ix54, isLst, lstUp, lstAt, lstPut, Option.map_some, add_ii, List.set_cons_zero, List.set_cons_succ, ifS_ap, andM_ap, tst_ap, eq_ii, lt_ii, gt_ii, ge_ii, len_l, asBl_b, bf_t, bf_f, bf_d, if_true, if_false, ite_true, ite_false, decide_true, decide_false, setM_ap, put_ap, skp_ap, rtM_ap, ri_rt, int_i, abs_i, ixN50, ixN51, ixN52, ixN53, ixN54, walkA_ap, isiM_ap, kwD_ap, newM_ap, ni_ok, ni_ex, fldV_ap, fldM_ap, asgM_ap, parM_ap, parM3_ap, tgN_ap, tgT2, tgT3, tgCons_ap, tgNil_ap, calM_ap, acons_ap, anil_ap, rb_ok, rb_ow, tupM_ap, lstM_ap, slM_ap, noP_ap, prt_ap, forM_ap, rngM1_ap, rngM2_ap, lcM_ap, andV_ap, notV_ap, orV_ap, ifM_ap, orM_ap, notM_ap, tru_ap, tru_b, chn_ap, seqA_l, seqA_t, seqA_f, seqA_s, len_t, len_f, opN_ap, met0_ap, met1_ap, metT_ap, apnM_ap, rtF_ap, ri_nx, ri_ro, sq_bk, sq_ct, sq_ro, mkT_ok, mkL_ok, List.length_append, List.length_singleton, asI, Wp_ok, nxt_nx, nxt_rt, nxt_bk, nxt_ct, trn_nx, trn_ct, trn_bk, trn_rt, ends_nx, ends_rt, ix_t, leA_ii, le_ii, sub_ii, Bool.not_true, Bool.not_false, Bool.false_eq_true, Bool.true_eq_false, eq_bb, ne_bb, eq_ss, ne_ss, raiM_ap, tryM_ap, tr_ok, tr_ex, rb_ex, bo_ex, sq_ex, ri_ex, kwA_ap, drp_ap, runI_ap, rin_nx, rin_ex, satM_ap, Nat.reduceLeDiff, Nat.zero_le, Nat.reduceMul, t1, a1, em, ln, gt, c2', ix, ic]
      · have c2' : (12 : Int) < s.length := by omega
        have e : isName (.str s) = false := by show nameS s = _; unfold nameS; rw [decide_eq_false c2]; simp
        rw [e]
        simp only [G_lis_name, g_lis_name, runD_ap, List.length_cons, List.length_nil, Nat.reduceAdd, Nat.reduceSub, List.map_cons, List.map_nil, List.replicate_succ, List.replicate_zero, List.cons_append, List.nil_append, seqM_ap, sq_nx, sq_rt, stiM_ap, bnd_ap, bo_ok, op2_ap, op2v_ap, op1_ap, cst_ap, lift_so, ret_ap, pek_ap, lett_ap, pekD, List.getElem?_cons_zero, List.getElem?_cons_succ, ix_l, ix50, ix51, ix52, ix53, ix54, isLst, lstUp, lstAt, lstPut, Option.map_some, add_ii, List.set_cons_zero, List.set_cons_succ, ifS_ap, andM_ap, tst_ap, eq_ii, lt_ii, gt_ii, ge_ii, len_l, asBl_b, bf_t, bf_f, bf_d, if_true, if_false, ite_true, ite_false, decide_true, decide_false, setM_ap, put_ap, skp_ap, rtM_ap, ri_rt, int_i, abs_i, ixN50, ixN51, ixN52, ixN53, ixN54, walkA_ap, isiM_ap, kwD_ap, newM_ap, ni_ok, ni_ex, fldV_ap, fldM_ap, asgM_ap, parM_ap, parM3_ap, tgN_ap, tgT2, tgT3, tgCons_ap, tgNil_ap, calM_ap, acons_ap, anil_ap, rb_ok, rb_ow, tupM_ap, lstM_ap, slM_ap, noP_ap, prt_ap, forM_ap, rngM1_ap, rngM2_ap, lcM_ap, andV_ap, notV_ap, orV_ap, ifM_ap, orM_ap, notM_ap, tru_ap, tru_b, chn_ap, seqA_l, seqA_t, seqA_f, seqA_s, len_t, len_f, opN_ap, met0_ap, met1_ap, metT_ap, apnM_ap, rtF_ap, ri_nx, ri_ro, sq_bk, sq_ct, sq_ro, mkT_ok, mkL_ok, List.length_append, List.length_singleton, asI, Wp_ok, nxt_nx, nxt_rt, nxt_bk, nxt_ct, trn_nx, trn_ct, trn_bk, trn_rt, ends_nx, ends_rt, ix_t, leA_ii, le_ii, sub_ii, Bool.not_true, Bool.not_false, Bool.false_eq_true, Bool.true_eq_false, eq_bb, ne_bb, eq_ss, ne_ss, raiM_ap, tryM_ap, tr_ok, tr_ex, rb_ex, bo_ex, sq_ex, ri_ex, kwA_ap, drp_ap, runI_ap, rin_nx, rin_ex, satM_ap, Nat.reduceLeDiff, Nat.zero_le, Nat.reduceMul, t1, a1, em, ln, gt, c2']
  | _ => rfl
/-- what the four say -/
def jdg (v : D) : D := .lst [.bl (isKey v), .bl (isSet v), .bl (isLot v), .bl (isName v)]
theorem judged_ok {v : D} {μ : Sto} {b : Bool} (h : Pv v) : G_ljudged [v, .bl b] μ = .ok (jdg v) μ := by
  have k1 := is_key_ok (μ := μ) h
  have k2 := is_set_ok (μ := μ) h
  have k3 := is_lot_ok (μ := μ) h
  have k4 := is_name_ok (μ := μ) h
  have p : pick [0] ([v]) = [v] := rfl
  have mk : mkL [.bl (isKey v), .bl (isSet v), .bl (isLot v), .bl (isName v)] = some (jdg v) := rfl
  cases b <;> simp only [G_ljudged, g_ljudged, runD_ap, List.length_cons, List.length_nil, Nat.reduceAdd, Nat.reduceSub, List.map_cons, List.map_nil, List.replicate_succ, List.replicate_zero, List.cons_append, List.nil_append, seqM_ap, sq_nx, sq_rt, stiM_ap, bnd_ap, bo_ok, op2_ap, op2v_ap, op1_ap, cst_ap, lift_so, ret_ap, pek_ap, lett_ap, pekD, List.getElem?_cons_zero, List.getElem?_cons_succ, ix_l, ix50, ix51, ix52, ix53, ix54, isLst, lstUp, lstAt, lstPut, Option.map_some, add_ii, List.set_cons_zero, List.set_cons_succ, ifS_ap, andM_ap, tst_ap, eq_ii, lt_ii, gt_ii, ge_ii, len_l, asBl_b, bf_t, bf_f, bf_d, if_true, if_false, ite_true, ite_false, decide_true, decide_false, setM_ap, put_ap, skp_ap, rtM_ap, ri_rt, int_i, abs_i, ixN50, ixN51, ixN52, ixN53, ixN54, walkA_ap, isiM_ap, kwD_ap, newM_ap, ni_ok, ni_ex, fldV_ap, fldM_ap, asgM_ap, parM_ap, parM3_ap, tgN_ap, tgT2, tgT3, tgCons_ap, tgNil_ap, calM_ap, acons_ap, anil_ap, rb_ok, rb_ow, tupM_ap, lstM_ap, slM_ap, noP_ap, prt_ap, forM_ap, rngM1_ap, rngM2_ap, lcM_ap, andV_ap, notV_ap, orV_ap, ifM_ap, orM_ap, notM_ap, tru_ap, tru_b, chn_ap, seqA_l, seqA_t, seqA_f, seqA_s, len_t, len_f, opN_ap, met0_ap, met1_ap, metT_ap, apnM_ap, rtF_ap, ri_nx, ri_ro, sq_bk, sq_ct, sq_ro, mkT_ok, mkL_ok, List.length_append, List.length_singleton, asI, Wp_ok, nxt_nx, nxt_rt, nxt_bk, nxt_ct, trn_nx, trn_ct, trn_bk, trn_rt, ends_nx, ends_rt, ix_t, leA_ii, le_ii, sub_ii, Bool.not_true, Bool.not_false, Bool.false_eq_true, Bool.true_eq_false, eq_bb, ne_bb, eq_ss, ne_ss, raiM_ap, tryM_ap, tr_ok, tr_ex, rb_ex, bo_ex, sq_ex, ri_ex, kwA_ap, drp_ap, runI_ap, rin_nx, rin_ex, satM_ap, Nat.reduceLeDiff, Nat.zero_le, Nat.reduceMul, k1, k2, k3, k4, p, mk, and_self, jdg]
end L2.DL.K02

namespace L2.DL.K02
open PySem PySem.Spec PyProof.Rows
/-! ### a drawn key set -/
theorem lg {t : Int} (h0 : 0 ≤ t) (h1 : t ≤ 1000000) : t.natAbs.log2 < 9000 := by
  by_cases z : t.natAbs = 0
  · rw [z]; decide
  · exact Nat.lt_of_lt_of_le ((Nat.log2_lt z (k := 20)).mpr (by omega)) (by decide)
theorem Bag.up {n k : Int} {μ : Sto} (B : Bag n μ) (h : n ≤ k) : Bag k μ := by
  obtain ⟨cs, p, r, m, j, e, h1, h2, h3, h4, h5, h6⟩ := B
  exact ⟨cs, p, r, m, j, e, h1, h2, h3, h4, h5, by omega⟩
theorem nodup_le : ∀ {xs ys : List Int}, xs.Nodup → (∀ x ∈ xs, x ∈ ys) → xs.length ≤ ys.length
  | [], _, _, _ => Nat.zero_le _
  | x :: xs, ys, h, s => by
    rw [List.nodup_cons] at h
    have hx := s x List.mem_cons_self
    have ih := nodup_le (xs := xs) (ys := ys.erase x) h.2 (fun y hy => (List.mem_erase_of_ne (fun e => h.1 (by rw [← e]; exact hy))).mpr (s y (List.mem_cons_of_mem _ hy)))
    rw [List.length_erase_of_mem hx] at ih
    have := List.length_pos_of_mem hx
    rw [List.length_cons]
    omega
theorem emod_inj {w d i j : Int} (h0 : 0 ≤ i) (h1 : i < w) (h2 : 0 ≤ j) (h3 : j < w) (h : (d + i) % w = (d + j) % w) : i = j := by
  have e : (i - j) % w = 0 := by
    have := Int.emod_emod_of_dvd
    have q : (d + i - (d + j)) % w = 0 := Int.emod_eq_emod_iff_emod_sub_eq_zero.mp h
    have e2 : d + i - (d + j) = i - j := by omega
    rw [e2] at q
    exact q
  have dv : w ∣ (i - j) := Int.dvd_of_emod_eq_zero e
  obtain ⟨k, hk⟩ := dv
  have : k = 0 := by
    rcases Int.lt_trichotomy k 0 with z | z | z
    · have : w * k ≤ w * (-1) := Int.mul_le_mul_of_nonneg_left (by omega) (by omega)
      omega
    · exact z
    · have : w * 1 ≤ w * k := Int.mul_le_mul_of_nonneg_left (by omega) (by omega)
      omega
  rw [this, Int.mul_zero] at hk
  omega
theorem free {w d low : Int} {many : Nat} {fs : List Int} (hw : (many : Int) ≤ w) (hf : fs.length < many) : ∃ j : Nat, j < many ∧ low + (d + j) % w ∉ fs := by
  apply Classical.byContradiction
  intro hn
  have all : ∀ j : Nat, j < many → low + (d + j) % w ∈ fs := fun j hj => Classical.byContradiction fun z => hn ⟨j, hj, z⟩
  have nd : ((List.range many).map fun j : Nat => low + (d + j) % w).Nodup := by
    rw [List.nodup_iff_pairwise_ne, List.pairwise_map]
    refine List.Pairwise.imp_of_mem ?_ (List.nodup_iff_pairwise_ne.mp List.nodup_range)
    intro a b ha hb ne e
    have ha := List.mem_range.mp ha
    have hb := List.mem_range.mp hb
    have := emod_inj (w := w) (d := d) (i := a) (j := b) (by omega) (by omega) (by omega) (by omega) (by omega)
    omega
  have := nodup_le (ys := fs) nd (fun x hx => by
    obtain ⟨j, hj, rfl⟩ := List.mem_map.mp hx
    exact all j (List.mem_range.mp hj))
  rw [List.length_map, List.length_range] at this
  omega
abbrev kIn : Mo Fl := (seqM (ifS (tst (op2 ninD (op2 addD (lett 3) (pek 6)) (pek 4))) (ret .bk) skp)
    (setM 6 (op2 modD (op1 intD (op2 addD (lett 6) (cst (.int 1)))) (pek 2))))
abbrev kEnv (many w low : Int) (fs : List Int) (e5 e6 e7 : Option Ent) : Env := [some (.sh (.cell 0)), some (.sh (.int many)), some (.sh (.int w)), some (.sh (.int low)), some (.ow (.lst (fs.map D.int))), e5, e6, e7]
theorem probe {many w low : Int} {fs : List Int} {μ : Sto} {e5 : Option Ent} (hw : 0 < w) : ∀ (ts : List D) (d : Int) (e7 : Option Ent), 0 ≤ d → d < w → (∃ j : Nat, j < ts.length ∧ low + (d + j) % w ∉ fs) →
    ∃ d' e7', 0 ≤ d' ∧ d' < w ∧ low + d' ∉ fs ∧ forL (tgN 7) kIn ts (kEnv many w low fs e5 (some (.sh (.int d))) e7) μ = .ok .nx (kEnv many w low fs e5 (some (.sh (.int d'))) e7') μ
  | [], d, e7, _, _, ⟨j, hj, _⟩ => by cases hj
  | t :: ts, d, e7, h0, h1, ⟨j, hj, hn⟩ => by
    rw [forL_cons]
    have nn := nin_intsL (low + d) fs
    by_cases hm : low + d ∈ fs
    · rw [decide_eq_true hm] at nn
      have j0 : j ≠ 0 := fun z => by
        subst z
        apply hn
        rw [show d + ((0 : Nat) : Int) = d by omega, Int.emod_eq_of_lt h0 h1]
        exact hm
      obtain ⟨j', rfl⟩ := Nat.exists_eq_succ_of_ne_zero j0
      have r0 := Int.emod_nonneg (d + 1) (by omega : w ≠ 0)
      have r1 := Int.emod_lt_of_pos (d + 1) hw
      obtain ⟨d', e7', g1, g2, g3, g4⟩ := probe (many := many) (μ := μ) (e5 := e5) hw ts ((d + 1) % w) (some (.sh t)) r0 r1 ⟨j', by rw [List.length_cons] at hj; omega, by
        rw [Int.emod_add_emod]
        rw [show d + 1 + (j' : Int) = d + ((j' + 1 : Nat) : Int) by omega]
        exact hn⟩
      refine ⟨d', e7', g1, g2, g3, ?_⟩
      rw [← g4]
      simp only [runD_ap, List.length_cons, List.length_nil, Nat.reduceAdd, Nat.reduceSub, List.map_cons, List.map_nil, List.replicate_succ, List.replicate_zero, List.cons_append, List.nil_append, seqM_ap, sq_nx, sq_rt, stiM_ap, bnd_ap, bo_ok, op2_ap, op2v_ap, op1_ap, cst_ap, lift_so, ret_ap, pek_ap, lett_ap, pekD, List.getElem?_cons_zero, List.getElem?_cons_succ, ix_l, ix50, ix51, ix52, ix53, ix54, isLst, lstUp, lstAt, lstPut, Option.map_some, add_ii, List.set_cons_zero, List.set_cons_succ, ifS_ap, andM_ap, tst_ap, eq_ii, lt_ii, gt_ii, ge_ii, len_l, asBl_b, bf_t, bf_f, bf_d, if_true, if_false, ite_true, ite_false, decide_true, decide_false, setM_ap, put_ap, skp_ap, rtM_ap, ri_rt, int_i, abs_i, ixN50, ixN51, ixN52, ixN53, ixN54, walkA_ap, isiM_ap, kwD_ap, newM_ap, ni_ok, ni_ex, fldV_ap, fldM_ap, asgM_ap, parM_ap, parM3_ap, tgN_ap, tgT2, tgT3, tgCons_ap, tgNil_ap, calM_ap, acons_ap, anil_ap, rb_ok, rb_ow, tupM_ap, lstM_ap, slM_ap, noP_ap, prt_ap, forM_ap, rngM1_ap, rngM2_ap, lcM_ap, andV_ap, notV_ap, orV_ap, ifM_ap, orM_ap, notM_ap, tru_ap, tru_b, chn_ap, seqA_l, seqA_t, seqA_f, seqA_s, len_t, len_f, opN_ap, met0_ap, met1_ap, metT_ap, apnM_ap, rtF_ap, ri_nx, ri_ro, sq_bk, sq_ct, sq_ro, mkT_ok, mkL_ok, List.length_append, List.length_singleton, asI, Wp_ok, nxt_nx, nxt_rt, nxt_bk, nxt_ct, trn_nx, trn_ct, trn_bk, trn_rt, ends_nx, ends_rt, ix_t, leA_ii, le_ii, sub_ii, Bool.not_true, Bool.not_false, Bool.false_eq_true, Bool.true_eq_false, eq_bb, ne_bb, eq_ss, ne_ss, raiM_ap, tryM_ap, tr_ok, tr_ex, rb_ex, bo_ex, sq_ex, ri_ex, kwA_ap, drp_ap, Nat.reduceLeDiff, Nat.zero_le, Nat.reduceMul, nn, mod_ii hw, fo]
    · rw [decide_eq_false hm] at nn
      refine ⟨d, some (.sh t), h0, h1, hm, ?_⟩
      simp only [runD_ap, List.length_cons, List.length_nil, Nat.reduceAdd, Nat.reduceSub, List.map_cons, List.map_nil, List.replicate_succ, List.replicate_zero, List.cons_append, List.nil_append, seqM_ap, sq_nx, sq_rt, stiM_ap, bnd_ap, bo_ok, op2_ap, op2v_ap, op1_ap, cst_ap, lift_so, ret_ap, pek_ap, lett_ap, pekD, List.getElem?_cons_zero, List.getElem?_cons_succ, ix_l, ix50, ix51, ix52, ix53, ix54, isLst, lstUp, lstAt, lstPut, Option.map_some, add_ii, List.set_cons_zero, List.set_cons_succ, ifS_ap, andM_ap, tst_ap, eq_ii, lt_ii, gt_ii, ge_ii, len_l, asBl_b, bf_t, bf_f, bf_d, if_true, if_false, ite_true, ite_false, decide_true, decide_false, setM_ap, put_ap, skp_ap, rtM_ap, ri_rt, int_i, abs_i, ixN50, ixN51, ixN52, ixN53, ixN54, walkA_ap, isiM_ap, kwD_ap, newM_ap, ni_ok, ni_ex, fldV_ap, fldM_ap, asgM_ap, parM_ap, parM3_ap, tgN_ap, tgT2, tgT3, tgCons_ap, tgNil_ap, calM_ap, acons_ap, anil_ap, rb_ok, rb_ow, tupM_ap, lstM_ap, slM_ap, noP_ap, prt_ap, forM_ap, rngM1_ap, rngM2_ap, lcM_ap, andV_ap, notV_ap, orV_ap, ifM_ap, orM_ap, notM_ap, tru_ap, tru_b, chn_ap, seqA_l, seqA_t, seqA_f, seqA_s, len_t, len_f, opN_ap, met0_ap, met1_ap, metT_ap, apnM_ap, rtF_ap, ri_nx, ri_ro, sq_bk, sq_ct, sq_ro, mkT_ok, mkL_ok, List.length_append, List.length_singleton, asI, Wp_ok, nxt_nx, nxt_rt, nxt_bk, nxt_ct, trn_nx, trn_ct, trn_bk, trn_rt, ends_nx, ends_rt, ix_t, leA_ii, le_ii, sub_ii, Bool.not_true, Bool.not_false, Bool.false_eq_true, Bool.true_eq_false, eq_bb, ne_bb, eq_ss, ne_ss, raiM_ap, tryM_ap, tr_ok, tr_ex, rb_ex, bo_ex, sq_ex, ri_ex, kwA_ap, drp_ap, Nat.reduceLeDiff, Nat.zero_le, Nat.reduceMul, nn, fo]
abbrev kOut : Mo Fl := (seqM (setM 6 (calM G_ldraw (acons (lett 0) (acons (lett 2) anil))))
    (seqM (forM (rngM1 (acons (lett 1) anil)) (tgN 7) kIn) (apnM 4 (op2 addD (lett 3) (pek 6)))))
theorem key_step {many d d' w low : Int} {fs : List Int} {μ μ1 : Sto} {t : D} {e6 e7 e7' : Option Ent} {rs : List D} (x1 : G_ldraw [.cell 0, .int w] μ = .ok (.int d) μ1) (rn : rng1 [.int many] = some rs) (hll : (fs.map D.int).length < lineN)
    (p3 : forL (tgN 7) kIn rs (kEnv many w low fs (some (.sh t)) (some (.sh (.int d))) e7) μ1 = .ok .nx (kEnv many w low fs (some (.sh t)) (some (.sh (.int d'))) e7') μ1) :
    kOut (kEnv many w low fs (some (.sh t)) e6 e7) μ = .ok .nx (kEnv many w low (fs ++ [low + d']) (some (.sh t)) (some (.sh (.int d'))) e7') μ1 := by
  have app : fs.map D.int ++ [D.int (low + d')] = (fs ++ [low + d']).map D.int := by rw [List.map_append] <;> rfl
  simp only [runD_ap, List.length_cons, List.length_nil, Nat.reduceAdd, Nat.reduceSub, List.map_cons, List.map_nil, List.replicate_succ, List.replicate_zero, List.cons_append, List.nil_append, seqM_ap, sq_nx, sq_rt, stiM_ap, bnd_ap, bo_ok, op2_ap, op2v_ap, op1_ap, cst_ap, lift_so, ret_ap, pek_ap, lett_ap, pekD, List.getElem?_cons_zero, List.getElem?_cons_succ, ix_l, ix50, ix51, ix52, ix53, ix54, isLst, lstUp, lstAt, lstPut, Option.map_some, add_ii, List.set_cons_zero, List.set_cons_succ, ifS_ap, andM_ap, tst_ap, eq_ii, lt_ii, gt_ii, ge_ii, len_l, asBl_b, bf_t, bf_f, bf_d, if_true, if_false, ite_true, ite_false, decide_true, decide_false, setM_ap, put_ap, skp_ap, rtM_ap, ri_rt, int_i, abs_i, ixN50, ixN51, ixN52, ixN53, ixN54, walkA_ap, isiM_ap, kwD_ap, newM_ap, ni_ok, ni_ex, fldV_ap, fldM_ap, asgM_ap, parM_ap, parM3_ap, tgN_ap, tgT2, tgT3, tgCons_ap, tgNil_ap, calM_ap, acons_ap, anil_ap, rb_ok, rb_ow, tupM_ap, lstM_ap, slM_ap, noP_ap, prt_ap, forM_ap, rngM1_ap, rngM2_ap, lcM_ap, andV_ap, notV_ap, orV_ap, ifM_ap, orM_ap, notM_ap, tru_ap, tru_b, chn_ap, seqA_l, seqA_t, seqA_f, seqA_s, len_t, len_f, opN_ap, met0_ap, met1_ap, metT_ap, apnM_ap, rtF_ap, ri_nx, ri_ro, sq_bk, sq_ct, sq_ro, mkT_ok, mkL_ok, List.length_append, List.length_singleton, asI, Wp_ok, nxt_nx, nxt_rt, nxt_bk, nxt_ct, trn_nx, trn_ct, trn_bk, trn_rt, ends_nx, ends_rt, ix_t, leA_ii, le_ii, sub_ii, Bool.not_true, Bool.not_false, Bool.false_eq_true, Bool.true_eq_false, eq_bb, ne_bb, eq_ss, ne_ss, raiM_ap, tryM_ap, tr_ok, tr_ex, rb_ex, bo_ex, sq_ex, ri_ex, kwA_ap, drp_ap, Nat.reduceLeDiff, Nat.zero_le, Nat.reduceMul, x1, rn, p3, fo, hll, app]
theorem key_turns {many : Nat} {w low : Int} (hm : many ≤ 1000) (hw0 : 0 < w) (hw : (many : Int) ≤ w) (hw1 : w ≤ 1000) (ts : List D) : ∀ (fs : List Int) (n : Int) (μ : Sto) (e5 e6 e7 : Option Ent), Bag n μ → n + ts.length < 990000 → fs.length + ts.length ≤ many →
    fs.Nodup → (∀ f ∈ fs, low ≤ f ∧ f < low + w) → ∃ fs' μ' f5 f6 f7, forL (tgN 5) kOut ts (kEnv many w low fs e5 e6 e7) μ = .ok .nx (kEnv many w low fs' f5 f6 f7) μ' ∧ Bag (n + ts.length) μ' ∧ fs'.length = fs.length + ts.length ∧ fs'.Nodup ∧ ∀ f ∈ fs', low ≤ f ∧ f < low + w := by
  induction ts with
  | nil =>
    intro fs n μ e5 e6 e7 B _ _ nd rg
    exact ⟨fs, μ, e5, e6, e7, rfl, B.up (by simp), by simp, nd, rg⟩
  | cons t ts ih =>
    intro fs n μ e5 e6 e7 B hn hl nd rg
    rw [List.length_cons] at hn hl
    obtain ⟨d, μ1, x1, d0, d1, B1⟩ := draw_ok (top := w) B (by omega) hw0 (lg (by omega) (by omega))
    have rn := rng_1 (n := many) (j := (many : Int)) (by omega) (by omega) (by omega) (by omega)
    obtain ⟨d', e7', p0, p1, p2, p3⟩ := probe (many := many) (low := low) (fs := fs) (μ := μ1) (e5 := some (.sh t)) hw0 ((List.range many).map fun k => D.int (0 + (k : Nat))) d e7 d0 d1 (by
      rw [List.length_map, List.length_range]
      exact free hw (by omega))
    have hll : (fs.map D.int).length < lineN := by
      rw [List.length_map]
      show _ < 16777216
      omega
    have nd' : (fs ++ [low + d']).Nodup := by
      rw [List.nodup_append]
      refine ⟨nd, List.nodup_cons.mpr ⟨List.not_mem_nil, List.nodup_nil⟩, fun a ha b hb => ?_⟩
      rw [List.mem_singleton] at hb
      subst hb
      exact fun e => p2 (e ▸ ha)
    have rg' : ∀ f ∈ fs ++ [low + d'], low ≤ f ∧ f < low + w := fun f hf => by
      rcases List.mem_append.mp hf with z | z
      · exact rg f z
      · rw [List.mem_singleton] at z
        omega
    have ln' : (fs ++ [low + d']).length = fs.length + 1 := by rw [List.length_append, List.length_singleton]
    obtain ⟨fs', μ', f5, f6, f7, q1, q2, q3, q4, q5⟩ := ih (fs ++ [low + d']) (n + 1) μ1 (some (.sh t)) (some (.sh (.int d'))) e7' B1 (by omega) (by omega) nd' rg'
    refine ⟨fs', μ', f5, f6, f7, ?_, q2.up (by rw [List.length_cons]; omega), by rw [q3, ln', List.length_cons]; omega, q4, q5⟩
    rw [forL_cons, ← q1]
    show fo (kOut (kEnv many w low fs (some (.sh t)) e6 e7) μ) _ _ _ = _
    rw [key_step x1 rn hll p3]
    rfl
end L2.DL.K02

namespace L2.DL.K02
open PySem PySem.Spec PyProof.Rows
/-- ascending keys -/
def KS (ks : List Int) : Prop := ks.Pairwise (· < ·) ∧ ∀ k ∈ ks, 0 ≤ k ∧ k ≤ 999
theorem max_2 {w : Int} (h : 0 ≤ w) : max2D [.int 1, .int w] = some (.int (if w > 1 then w else 1)) := rfl
theorem keys_run {many w v d lo : Int} {fs : List Int} {μ μ1 μ2 μ3 μ4 : Sto} {f5 f6 f7 : Option Ent} {rs : List D} (x1 : G_lof [.cell 0, .lst [.int many, .int (many + 2), .int (many + 10), .int 1000, .int 1000]] μ = .ok (.int w) μ1) (mx : max2D [.int 1, .int w] = some (.int v))
    (x2 : G_ldraw [.cell 0, .int (1001 - v)] μ1 = .ok (.int d) μ2) (x3 : G_lof [.cell 0, .lst [.int 0, .int (1000 - v), .int d]] μ2 = .ok (.int lo) μ3) (rn : rng1 [.int many] = some rs)
    (q1 : forL (tgN 5) kOut rs [some (.sh (.cell 0)), some (.sh (.int many)), some (.sh (.int v)), some (.sh (.int lo)), some (.ow (.lst [])), none, none, none] μ3 = .ok .nx (kEnv many v lo fs f5 f6 f7) μ4) : G_lkeys [.cell 0, .int many] μ = .ok (.tup ((srtI fs).map D.int)) μ4 := by
  have st := srt_l fs
  have tp : tupleD (.lst ((srtI fs).map D.int)) = some (.tup ((srtI fs).map D.int)) := rfl
  simp only [G_lkeys, g_lkeys, runD_ap, List.length_cons, List.length_nil, Nat.reduceAdd, Nat.reduceSub, List.map_cons, List.map_nil, List.replicate_succ, List.replicate_zero, List.cons_append, List.nil_append, seqM_ap, sq_nx, sq_rt, stiM_ap, bnd_ap, bo_ok, op2_ap, op2v_ap, op1_ap, cst_ap, lift_so, ret_ap, pek_ap, lett_ap, pekD, List.getElem?_cons_zero, List.getElem?_cons_succ, ix_l, ix50, ix51, ix52, ix53, ix54, isLst, lstUp, lstAt, lstPut, Option.map_some, add_ii, List.set_cons_zero, List.set_cons_succ, ifS_ap, andM_ap, tst_ap, eq_ii, lt_ii, gt_ii, ge_ii, len_l, asBl_b, bf_t, bf_f, bf_d, if_true, if_false, ite_true, ite_false, decide_true, decide_false, setM_ap, put_ap, skp_ap, rtM_ap, ri_rt, int_i, abs_i, ixN50, ixN51, ixN52, ixN53, ixN54, walkA_ap, isiM_ap, kwD_ap, newM_ap, ni_ok, ni_ex, fldV_ap, fldM_ap, asgM_ap, parM_ap, parM3_ap, tgN_ap, tgT2, tgT3, tgCons_ap, tgNil_ap, calM_ap, acons_ap, anil_ap, rb_ok, rb_ow, tupM_ap, lstM_ap, slM_ap, noP_ap, prt_ap, forM_ap, rngM1_ap, rngM2_ap, lcM_ap, andV_ap, notV_ap, orV_ap, ifM_ap, orM_ap, notM_ap, tru_ap, tru_b, chn_ap, seqA_l, seqA_t, seqA_f, seqA_s, len_t, len_f, opN_ap, met0_ap, met1_ap, metT_ap, apnM_ap, rtF_ap, ri_nx, ri_ro, sq_bk, sq_ct, sq_ro, mkT_ok, mkL_ok, List.length_append, List.length_singleton, asI, Wp_ok, nxt_nx, nxt_rt, nxt_bk, nxt_ct, trn_nx, trn_ct, trn_bk, trn_rt, ends_nx, ends_rt, ix_t, leA_ii, le_ii, sub_ii, Bool.not_true, Bool.not_false, Bool.false_eq_true, Bool.true_eq_false, eq_bb, ne_bb, eq_ss, ne_ss, raiM_ap, tryM_ap, tr_ok, tr_ex, rb_ex, bo_ex, sq_ex, ri_ex, kwA_ap, drp_ap, Nat.reduceLeDiff, Nat.zero_le, Nat.reduceMul, x1, mx, x2, x3, setF_ap, rn, q1, st, tp]
theorem keys_ok {n : Int} {μ : Sto} {many : Nat} (B : Bag n μ) (hn : n < 900000) (hm : many ≤ 900) : ∃ ks μ', G_lkeys [.cell 0, .int many] μ = .ok (.tup (ks.map D.int)) μ' ∧ ks.length = many ∧ KS ks ∧ Bag (n + 3 + many) μ' := by
  obtain ⟨w, μ1, hw, x1, B1⟩ := of_lst (ds := [.int many, .int (many + 2), .int (many + 10), .int 1000, .int 1000]) B (by omega) (by simp) (by simp)
  obtain ⟨w, rfl, w0, w1⟩ : ∃ i : Int, w = .int i ∧ (many : Int) ≤ i ∧ i ≤ 1000 := by
    simp only [List.mem_cons, List.not_mem_nil, or_false] at hw
    rcases hw with rfl | rfl | rfl | rfl | rfl <;> exact ⟨_, rfl, by omega, by omega⟩
  obtain ⟨v, hv⟩ : ∃ v : Int, v = if w > 1 then w else 1 := ⟨_, rfl⟩
  have v0 : 0 < v := by rw [hv]; split <;> omega
  have v1 : (many : Int) ≤ v := by rw [hv]; split <;> omega
  have v2 : v ≤ 1000 := by rw [hv]; split <;> omega
  have mx : max2D [.int 1, .int w] = some (.int v) := by rw [hv]; rfl
  obtain ⟨d, μ2, x2, d0, d1, B2⟩ := draw_ok (top := 1001 - v) B1 (by omega) (by omega) (lg (by omega) (by omega))
  obtain ⟨lo, μ3, hl, x3, B3⟩ := of_lst (ds := [.int 0, .int (1000 - v), .int d]) B2 (by omega) (by simp) (by simp)
  obtain ⟨lo, rfl, l0, l1⟩ : ∃ i : Int, lo = .int i ∧ 0 ≤ i ∧ i ≤ 1000 - v := by
    simp only [List.mem_cons, List.not_mem_nil, or_false] at hl
    rcases hl with rfl | rfl | rfl <;> exact ⟨_, rfl, by omega, by omega⟩
  have rn := rng_1 (n := many) (j := (many : Int)) (by omega) (by omega) (by omega) (by omega)
  obtain ⟨fs, μ4, f5, f6, f7, q1, q2, q3, q4, q5⟩ := key_turns (many := many) (by omega) v0 v1 v2 ((List.range many).map fun k => D.int (0 + (k : Nat))) [] (n + 3) μ3 none none none (low := lo) (B3.up (by omega)) (by rw [List.length_map, List.length_range]; omega) (by rw [List.length_map, List.length_range, List.length_nil]; omega) List.nodup_nil (fun f hf => by cases hf)
  rw [List.length_map, List.length_range] at q2 q3
  rw [List.length_nil, Nat.zero_add] at q3
  have e0 : (([] : List Int).map D.int) = [] := rfl
  have st := srt_l fs
  have tp : tupleD (.lst ((srtI fs).map D.int)) = some (.tup ((srtI fs).map D.int)) := rfl
  refine ⟨srtI fs, μ4, ?_, by rw [(srtI_perm fs).length_eq, q3], ⟨?_, fun k hk => ?_⟩, q2⟩
  · exact keys_run x1 mx x2 x3 rn q1
  · have up := srtI_up fs
    have nd : (srtI fs).Nodup := (srtI_perm fs).nodup_iff.mpr q4
    rw [List.nodup_iff_pairwise_ne] at nd
    exact (up.and nd).imp fun h => by omega
  · have := q5 k ((srtI_perm fs).mem_iff.mp hk)
    omega
theorem KS.nodup {ks : List Int} (h : KS ks) : ks.Nodup := by
  rw [List.nodup_iff_pairwise_ne]
  exact h.1.imp fun h => by omega
end L2.DL.K02

namespace L2.DL.K02
open PySem PySem.Spec PyProof.Rows
/-! ### values of other kinds -/
/-- the size of a value's text -/
def Sz (w dp : Nat) (d : D) : Prop := ∃ p, toN d = some p ∧ p.showable = true ∧ p.leavesShort 64 = true ∧ p.weight ≤ w ∧ p.depth ≤ dp
theorem Sz.mono {w w' dp dp' : Nat} {d : D} (h : Sz w dp d) (h1 : w ≤ w') (h2 : dp ≤ dp') : Sz w' dp' d := by
  obtain ⟨p, a, b, c, e, f⟩ := h
  exact ⟨p, a, b, c, Nat.le_trans e h1, Nat.le_trans f h2⟩
theorem sz_non {w dp : Nat} : Sz w dp .non := ⟨.none, rfl, rfl, rfl, Nat.zero_le _, Nat.zero_le _⟩
theorem sz_bl {w dp : Nat} {b : Bool} : Sz w dp (.bl b) := ⟨.bool b, rfl, rfl, rfl, Nat.zero_le _, Nat.zero_le _⟩
theorem sz_int {w dp : Nat} {i : Int} (h : i.natAbs < 10 ^ 12) (hw : 50 ≤ w) : Sz w dp (.int i) := by
  have l : i.natAbs.log2 ≤ 41 := by
    by_cases z : i.natAbs = 0
    · rw [z]; decide
    · exact Nat.le_of_lt_succ ((Nat.log2_lt z (k := 42)).mpr (Nat.lt_trans h (by decide)))
  refine ⟨.int i, rfl, decide_eq_true (by omega), decide_eq_true (Nat.le_trans (PyData.shown_int_le h) (by decide)), ?_, Nat.zero_le _⟩
  show (if i == 0 then 0 else i.natAbs.log2 + 1) ≤ w
  split <;> omega
theorem sz_big {w dp : Nat} (hw : 150 ≤ w) : Sz w dp (.int (10 ^ 39)) := ⟨.int (10 ^ 39), rfl, by decide +kernel, by decide +kernel, Nat.le_trans (by decide +kernel) hw, Nat.zero_le _⟩
theorem sz_str {w dp : Nat} {s : Str} (k : PyData.strOk s = true) (h : s.length ≤ w) : Sz w dp (.str s) := by
  refine ⟨.str s, rfl, rfl, ?_, h, Nat.zero_le _⟩
  show (s.cps.toList.all fun c => decide (c < 16 ^ 8)) = true
  rw [List.all_eq_true]
  intro c hc
  have := strOk_mem k c hc
  exact decide_eq_true (by omega)
theorem szs {w dp : Nat} : ∀ {ds : List D}, (∀ d ∈ ds, Sz w dp d) → ∃ ps, toNs ds = some ps ∧ PyData.showableAll ps = true ∧ PyData.leavesShortAll 64 ps = true ∧ PyData.weightAll ps ≤ ds.length * (w + 1) ∧ PyData.depthAll ps ≤ dp
  | [], _ => ⟨[], rfl, rfl, rfl, Nat.zero_le _, Nat.zero_le _⟩
  | d :: ds, h => by
    obtain ⟨p, a1, a2, a3, a4, a5⟩ := h d List.mem_cons_self
    obtain ⟨ps, b1, b2, b3, b4, b5⟩ := szs (ds := ds) fun x hx => h x (List.mem_cons_of_mem _ hx)
    refine ⟨p :: ps, by unfold toNs; rw [a1, b1], ?_, ?_, ?_, ?_⟩
    · show (p.showable && PyData.showableAll ps) = true
      rw [a2, b2] <;> rfl
    · show (p.leavesShort 64 && PyData.leavesShortAll 64 ps) = true
      rw [a3, b3] <;> rfl
    · show p.weight + 1 + PyData.weightAll ps ≤ _
      rw [List.length_cons, Nat.succ_mul]
      omega
    · show max p.depth (PyData.depthAll ps) ≤ dp
      exact Nat.max_le.mpr ⟨a5, b5⟩
theorem sz_tup {w dp W : Nat} {ds : List D} (h : ∀ d ∈ ds, Sz w dp d) (hW : ds.length * (w + 1) ≤ W) : Sz W (dp + 1) (.tup ds) := by
  obtain ⟨ps, b1, b2, b3, b4, b5⟩ := szs h
  exact ⟨.tuple ps, by show (toNs ds).map _ = _; rw [b1] <;> rfl, b2, b3, Nat.le_trans b4 hW, Nat.succ_le_succ b5⟩
theorem sz_lst {w dp W : Nat} {ds : List D} (h : ∀ d ∈ ds, Sz w dp d) (hW : ds.length * (w + 1) ≤ W) : Sz W (dp + 1) (.lst ds) := by
  obtain ⟨ps, b1, b2, b3, b4, b5⟩ := szs h
  exact ⟨.list ps, by show (toNs ds).map _ = _; rw [b1] <;> rfl, b2, b3, Nat.le_trans b4 hW, Nat.succ_le_succ b5⟩
theorem sz_repr {d : D} (h : Sz 200000 60 d) : ∃ t, reprN d = some (.str t) := by
  obtain ⟨p, a, b, c, e, f⟩ := h
  exact ⟨_, reprN_fits a b c e f⟩
theorem Sm.le {n m : Nat} {d : D} (h : Sm n d) (k : n ≤ m) : Sm m d := by
  induction k with
  | refl => exact h
  | step _ ih => exact ih.up
/-- a value that is told alike, is the same as itself and has a text -/
structure Gw (n w : Nat) (v : D) : Prop where
  pv : Pv v
  sm : Sm n v
  sz : Sz w n v
theorem Gw.mono {n m w w' : Nat} {v : D} (h : Gw n w v) (h1 : n ≤ m) (h2 : w ≤ w') : Gw m w' v := ⟨h.pv, h.sm.le h1, h.sz.mono h2 h1⟩
theorem gw_non : Gw 1 50 .non := ⟨.non, .non _, sz_non⟩
theorem gw_bl (b : Bool) : Gw 1 50 (.bl b) := ⟨.bl b, .bl _ b, sz_bl⟩
theorem gw_int {i : Int} (h0 : -100000 ≤ i) (h1 : i ≤ 100000) : Gw 1 50 (.int i) := ⟨.int i, .int _ i, sz_int (Nat.lt_of_le_of_lt (m := 100000) (by omega) (by decide)) (by decide)⟩
theorem gw_big : Gw 1 150 (.int (10 ^ 39)) := ⟨.int _, .int _ _, sz_big (by decide)⟩
theorem gw_str {s : Str} (k : PyData.strOk s = true) (h : s.length ≤ 50) : Gw 1 50 (.str s) := ⟨.str s (by omega) k, .str _ s, sz_str k h⟩
theorem gw_tup {n w W : Nat} {ds : List D} (h : ∀ d ∈ ds, Gw n w d) (hl : ds.length ≤ 1000) (hW : ds.length * (w + 1) ≤ W) : Gw (n + 1) W (.tup ds) := ⟨.tup fun d hd => (h d hd).pv, .tup _ hl fun d hd => (h d hd).sm, sz_tup (fun d hd => (h d hd).sz) hW⟩
theorem gw_lst {n w W : Nat} {ds : List D} (h : ∀ d ∈ ds, Gw n w d) (hl : ds.length ≤ 1000) (hW : ds.length * (w + 1) ≤ W) : Gw (n + 1) W (.lst ds) := ⟨.lst fun d hd => (h d hd).pv, .lst _ hl fun d hd => (h d hd).sm, sz_lst (fun d hd => (h d hd).sz) hW⟩
theorem gw_dct0 : Gw 1 50 (.dct [] []) := ⟨.dct _ _, .dct _ List.nodup_nil rfl, ⟨.dict [], rfl, rfl, rfl, by decide, by decide⟩⟩
theorem gw_dct1 {k : Int} (h0 : -100000 ≤ k) (h1 : k ≤ 100000) : Gw 1 110 (.dct [.inl k] [.int 1]) := by
  obtain ⟨p, a1, a2, a3, a4, a5⟩ := sz_int (w := 50) (dp := 0) (i := k) (Nat.lt_of_le_of_lt (m := 100000) (by omega) (by decide)) (by decide)
  have e : p = .int k := (Option.some.inj a1).symm
  subst e
  refine ⟨.dct _ _, .dct _ (List.nodup_cons.mpr ⟨List.not_mem_nil, List.nodup_nil⟩) rfl, ⟨.dict [(.int k, .int 1)], rfl, ?_, ?_, ?_, ?_⟩⟩
  · show (PyData.showable (.int k) && PyData.showable (.int 1) && PyData.showableKv []) = true
    rw [a2] <;> rfl
  · show (PyData.leavesShort 64 (.int k) && PyData.leavesShort 64 (.int 1) && PyData.leavesShortKv 64 []) = true
    rw [a3]
    decide +kernel
  · show PyData.weight (.int k) + PyData.weight (.int 1) + 2 + PyData.weightKv [] ≤ 110
    have : PyData.weight (.int 1) + 2 + PyData.weightKv [] ≤ 50 := by decide +kernel
    omega
  · exact Nat.le_refl 1
theorem gw_one {n w : Nat} {v : D} (h : Gw n w v) : Gw (n + 1) (w + 1) (.tup [v]) := gw_tup (fun d hd => List.mem_singleton.mp hd ▸ h) (by simp) (by simp)
theorem gw_oneL {n w : Nat} {v : D} (h : Gw n w v) : Gw (n + 1) (w + 1) (.lst [v]) := gw_lst (fun d hd => List.mem_singleton.mp hd ▸ h) (by simp) (by simp)
theorem gw_keys {ks : List Int} (h : ∀ k ∈ ks, 0 ≤ k ∧ k ≤ 999) : ∀ d ∈ ks.map D.int, Gw 1 50 d := fun d hd => by
  obtain ⟨k, hk, rfl⟩ := List.mem_map.mp hd
  have := h k hk
  exact gw_int (by omega) (by omega)
theorem ofString_ok (t : String) : PyData.strOk (Str.ofString t) = true := by
  unfold PyData.strOk
  rw [Array.all_eq_true_iff_forall_mem]
  intro c hc
  rw [← Array.mem_toList_iff] at hc
  have e : (Str.ofString t).cps.toList = t.toList.map (·.toNat) := by
    rw [Str.ofString_eq_toList, List.toList_toArray]
  rw [e] at hc
  obtain ⟨ch, _, rfl⟩ := List.mem_map.mp hc
  have := ch.valid
  have : ch.toNat < 0x110000 := by
    rcases ch.valid with z | z
    · have : ch.val.toNat < 0xd800 := z
      show ch.val.toNat < _
      omega
    · exact z.2
  exact decide_eq_true this
/-- the text of a key -/
theorem str_key {k : Int} (h0 : -100000 ≤ k) (h1 : k ≤ 100000) : strD (.int k) = some (.str (toString k)) ∧ PyData.strOk (toString k) = true ∧ (toString k : Str).length ≤ 13 := by
  have hb : k.natAbs < 10 ^ 12 := Nat.lt_of_le_of_lt (m := 100000) (by omega) (by decide)
  have l : k.natAbs.log2 < 1920 := by
    by_cases z : k.natAbs = 0
    · rw [z]; decide
    · exact Nat.lt_of_lt_of_le ((Nat.log2_lt z (k := 42)).mpr (Nat.lt_trans hb (by decide))) (by decide)
  refine ⟨if_pos l, ?_, PyData.shown_int_le hb⟩
  exact ofString_ok _
end L2.DL.K02

namespace L2.DL.K02
open PySem PySem.Spec PyProof.Rows
/-! ### drawn values -/
def numMenu (d1 d2 : Int) : List D := [.int 0, .int 1, .int 999, .int 1000, .int (-1), .int (-999), .int (10 ^ 39), .int 1001, .int d1, .int (d2 - 500), .bl true, .bl false, .non, .str "7", .tup [.int 7], .lst [.int 7], .dct [] [], .tup []]
theorem num_run {d1 d2 : Int} {v : D} {μ μ1 μ2 μ3 : Sto} (x1 : G_ldraw [.cell 0, .int 1000] μ = .ok (.int d1) μ1) (x2 : G_ldraw [.cell 0, .int 2000] μ1 = .ok (.int d2) μ2) (x3 : G_lof [.cell 0, .lst (numMenu d1 d2)] μ2 = .ok v μ3) : G_lnumber [.cell 0] μ = .ok v μ3 := by
  have n1 : negD (.int 1) = some (.int (-1)) := rfl
  have n2 : negD (.int 999) = some (.int (-999)) := rfl
  have p : powC 10 39 = true := by decide
  have z : ((39 : Int).toNat) = 39 := rfl
  unfold numMenu at x3
  simp only [G_lnumber, g_lnumber, runD_ap, List.length_cons, List.length_nil, Nat.reduceAdd, Nat.reduceSub, List.map_cons, List.map_nil, List.replicate_succ, List.replicate_zero, List.cons_append, List.nil_append, seqM_ap, sq_nx, sq_rt, stiM_ap, bnd_ap, bo_ok, op2_ap, op2v_ap, op1_ap, cst_ap, lift_so, ret_ap, pek_ap, lett_ap, pekD, List.getElem?_cons_zero, List.getElem?_cons_succ, ix_l, ix50, ix51, ix52, ix53, ix54, isLst, lstUp, lstAt, lstPut, Option.map_some, add_ii, List.set_cons_zero, List.set_cons_succ, ifS_ap, andM_ap, tst_ap, eq_ii, lt_ii, gt_ii, ge_ii, len_l, asBl_b, bf_t, bf_f, bf_d, if_true, if_false, ite_true, ite_false, decide_true, decide_false, setM_ap, put_ap, skp_ap, rtM_ap, ri_rt, int_i, abs_i, ixN50, ixN51, ixN52, ixN53, ixN54, walkA_ap, isiM_ap, kwD_ap, newM_ap, ni_ok, ni_ex, fldV_ap, fldM_ap, asgM_ap, parM_ap, parM3_ap, tgN_ap, tgT2, tgT3, tgCons_ap, tgNil_ap, calM_ap, acons_ap, anil_ap, rb_ok, rb_ow, tupM_ap, lstM_ap, slM_ap, noP_ap, prt_ap, forM_ap, rngM1_ap, rngM2_ap, lcM_ap, andV_ap, notV_ap, orV_ap, ifM_ap, orM_ap, notM_ap, tru_ap, tru_b, chn_ap, seqA_l, seqA_t, seqA_f, seqA_s, len_t, len_f, opN_ap, met0_ap, met1_ap, metT_ap, apnM_ap, rtF_ap, ri_nx, ri_ro, sq_bk, sq_ct, sq_ro, mkT_ok, mkL_ok, List.length_append, List.length_singleton, asI, Wp_ok, nxt_nx, nxt_rt, nxt_bk, nxt_ct, trn_nx, trn_ct, trn_bk, trn_rt, ends_nx, ends_rt, ix_t, leA_ii, le_ii, sub_ii, Bool.not_true, Bool.not_false, Bool.false_eq_true, Bool.true_eq_false, eq_bb, ne_bb, eq_ss, ne_ss, raiM_ap, tryM_ap, tr_ok, tr_ex, rb_ex, bo_ex, sq_ex, ri_ex, kwA_ap, drp_ap, Nat.reduceLeDiff, Nat.zero_le, Nat.reduceMul, n1, n2, pow_ii p, z, x1, x2, newD_ap, x3]
theorem num_gw {d1 d2 : Int} (h0 : 0 ≤ d1) (h1 : d1 < 1000) (h2 : 0 ≤ d2) (h3 : d2 < 2000) : ∀ v ∈ numMenu d1 d2, Gw 2 150 v := by
  intro v hv
  simp only [numMenu, List.mem_cons, List.not_mem_nil, or_false] at hv
  rcases hv with rfl | rfl | rfl | rfl | rfl | rfl | rfl | rfl | rfl | rfl | rfl | rfl | rfl | rfl | rfl | rfl | rfl | rfl
  · exact (gw_int (by decide) (by decide)).mono (by decide) (by decide)
  · exact (gw_int (by decide) (by decide)).mono (by decide) (by decide)
  · exact (gw_int (by decide) (by decide)).mono (by decide) (by decide)
  · exact (gw_int (by decide) (by decide)).mono (by decide) (by decide)
  · exact (gw_int (by decide) (by decide)).mono (by decide) (by decide)
  · exact (gw_int (by decide) (by decide)).mono (by decide) (by decide)
  · exact gw_big.mono (by decide) (by decide)
  · exact (gw_int (by decide) (by decide)).mono (by decide) (by decide)
  · exact (gw_int (by omega) (by omega)).mono (by decide) (by decide)
  · exact (gw_int (by omega) (by omega)).mono (by decide) (by decide)
  · exact (gw_bl true).mono (by decide) (by decide)
  · exact (gw_bl false).mono (by decide) (by decide)
  · exact gw_non.mono (by decide) (by decide)
  · exact (gw_str (ofString_ok "7") (by decide +kernel)).mono (by decide) (by decide)
  · exact (gw_one (gw_int (by decide) (by decide))).mono (by decide) (by decide)
  · exact (gw_oneL (gw_int (by decide) (by decide))).mono (by decide) (by decide)
  · exact gw_dct0.mono (by decide) (by decide)
  · exact (gw_tup (n := 1) (w := 50) (W := 50) (fun d hd => by cases hd) (by decide) (by decide)).mono (by decide) (by decide)
theorem num_ok {n : Int} {μ : Sto} (B : Bag n μ) (hn : n < 900000) : ∃ v μ', G_lnumber [.cell 0] μ = .ok v μ' ∧ Gw 2 150 v ∧ Bag (n + 3) μ' := by
  obtain ⟨d1, μ1, x1, a0, a1, B1⟩ := draw_ok (top := 1000) B (by omega) (by decide) (by decide)
  obtain ⟨d2, μ2, x2, b0, b1, B2⟩ := draw_ok (top := 2000) B1 (by omega) (by decide) (by decide)
  obtain ⟨v, μ3, hv, x3, B3⟩ := of_lst (ds := numMenu d1 d2) B2 (by omega) (by show (0 : Nat) < 18; decide) (by show (18 : Nat) ≤ 1000; decide)
  exact ⟨v, μ3, num_run x1 x2 x3, num_gw a0 a1 b0 b1 v hv, B3.up (by omega)⟩
/-! a key that is none of a key set -/
abbrev sIn : Mo Fl := (seqM (ifS (tst (op2 ninD (lett 2) (pek 1))) (ret .bk) skp) (setM 2 (op2 modD (op1 intD (op2 addD (lett 2) (cst (.int 1)))) (cst (.int 1000)))))
theorem strange_loop {ks : List Int} {μ : Sto} (ts : List D) : ∀ (f : Int) (e3 : Option Ent), 0 ≤ f → f ≤ 999 → ∃ f' e3', 0 ≤ f' ∧ f' ≤ 999 ∧ forL (tgN 3) sIn ts [some (.sh (.cell 0)), some (.sh (.tup (ks.map D.int))), some (.sh (.int f)), e3] μ = .ok .nx [some (.sh (.cell 0)), some (.sh (.tup (ks.map D.int))), some (.sh (.int f')), e3'] μ := by
  induction ts with
  | nil => exact fun f e3 h0 h1 => ⟨f, e3, h0, h1, rfl⟩
  | cons t ts ih =>
    intro f e3 h0 h1
    have nn := nin_ints f ks
    have q6 : (0 : Int) < 1000 := by decide
    by_cases hm : f ∈ ks
    · rw [decide_eq_true hm] at nn
      obtain ⟨f', e3', a0, a1, e⟩ := ih ((f + 1) % 1000) (some (.sh t)) (Int.emod_nonneg _ (by decide)) (by have := Int.emod_lt_of_pos (f + 1) q6; omega)
      refine ⟨f', e3', a0, a1, ?_⟩
      rw [forL_cons, ← e]
      simp only [runD_ap, List.length_cons, List.length_nil, Nat.reduceAdd, Nat.reduceSub, List.map_cons, List.map_nil, List.replicate_succ, List.replicate_zero, List.cons_append, List.nil_append, seqM_ap, sq_nx, sq_rt, stiM_ap, bnd_ap, bo_ok, op2_ap, op2v_ap, op1_ap, cst_ap, lift_so, ret_ap, pek_ap, lett_ap, pekD, List.getElem?_cons_zero, List.getElem?_cons_succ, ix_l, ix50, ix51, ix52, ix53, ix54, isLst, lstUp, lstAt, lstPut, Option.map_some, add_ii, List.set_cons_zero, List.set_cons_succ, ifS_ap, andM_ap, tst_ap, eq_ii, lt_ii, gt_ii, ge_ii, len_l, asBl_b, bf_t, bf_f, bf_d, if_true, if_false, ite_true, ite_false, decide_true, decide_false, setM_ap, put_ap, skp_ap, rtM_ap, ri_rt, int_i, abs_i, ixN50, ixN51, ixN52, ixN53, ixN54, walkA_ap, isiM_ap, kwD_ap, newM_ap, ni_ok, ni_ex, fldV_ap, fldM_ap, asgM_ap, parM_ap, parM3_ap, tgN_ap, tgT2, tgT3, tgCons_ap, tgNil_ap, calM_ap, acons_ap, anil_ap, rb_ok, rb_ow, tupM_ap, lstM_ap, slM_ap, noP_ap, prt_ap, forM_ap, rngM1_ap, rngM2_ap, lcM_ap, andV_ap, notV_ap, orV_ap, ifM_ap, orM_ap, notM_ap, tru_ap, tru_b, chn_ap, seqA_l, seqA_t, seqA_f, seqA_s, len_t, len_f, opN_ap, met0_ap, met1_ap, metT_ap, apnM_ap, rtF_ap, ri_nx, ri_ro, sq_bk, sq_ct, sq_ro, mkT_ok, mkL_ok, List.length_append, List.length_singleton, asI, Wp_ok, nxt_nx, nxt_rt, nxt_bk, nxt_ct, trn_nx, trn_ct, trn_bk, trn_rt, ends_nx, ends_rt, ix_t, leA_ii, le_ii, sub_ii, Bool.not_true, Bool.not_false, Bool.false_eq_true, Bool.true_eq_false, eq_bb, ne_bb, eq_ss, ne_ss, raiM_ap, tryM_ap, tr_ok, tr_ex, rb_ex, bo_ex, sq_ex, ri_ex, kwA_ap, drp_ap, Nat.reduceLeDiff, Nat.zero_le, Nat.reduceMul, nn, mod_ii q6, fo]
    · rw [decide_eq_false hm] at nn
      refine ⟨f, some (.sh t), h0, h1, ?_⟩
      rw [forL_cons]
      simp only [runD_ap, List.length_cons, List.length_nil, Nat.reduceAdd, Nat.reduceSub, List.map_cons, List.map_nil, List.replicate_succ, List.replicate_zero, List.cons_append, List.nil_append, seqM_ap, sq_nx, sq_rt, stiM_ap, bnd_ap, bo_ok, op2_ap, op2v_ap, op1_ap, cst_ap, lift_so, ret_ap, pek_ap, lett_ap, pekD, List.getElem?_cons_zero, List.getElem?_cons_succ, ix_l, ix50, ix51, ix52, ix53, ix54, isLst, lstUp, lstAt, lstPut, Option.map_some, add_ii, List.set_cons_zero, List.set_cons_succ, ifS_ap, andM_ap, tst_ap, eq_ii, lt_ii, gt_ii, ge_ii, len_l, asBl_b, bf_t, bf_f, bf_d, if_true, if_false, ite_true, ite_false, decide_true, decide_false, setM_ap, put_ap, skp_ap, rtM_ap, ri_rt, int_i, abs_i, ixN50, ixN51, ixN52, ixN53, ixN54, walkA_ap, isiM_ap, kwD_ap, newM_ap, ni_ok, ni_ex, fldV_ap, fldM_ap, asgM_ap, parM_ap, parM3_ap, tgN_ap, tgT2, tgT3, tgCons_ap, tgNil_ap, calM_ap, acons_ap, anil_ap, rb_ok, rb_ow, tupM_ap, lstM_ap, slM_ap, noP_ap, prt_ap, forM_ap, rngM1_ap, rngM2_ap, lcM_ap, andV_ap, notV_ap, orV_ap, ifM_ap, orM_ap, notM_ap, tru_ap, tru_b, chn_ap, seqA_l, seqA_t, seqA_f, seqA_s, len_t, len_f, opN_ap, met0_ap, met1_ap, metT_ap, apnM_ap, rtF_ap, ri_nx, ri_ro, sq_bk, sq_ct, sq_ro, mkT_ok, mkL_ok, List.length_append, List.length_singleton, asI, Wp_ok, nxt_nx, nxt_rt, nxt_bk, nxt_ct, trn_nx, trn_ct, trn_bk, trn_rt, ends_nx, ends_rt, ix_t, leA_ii, le_ii, sub_ii, Bool.not_true, Bool.not_false, Bool.false_eq_true, Bool.true_eq_false, eq_bb, ne_bb, eq_ss, ne_ss, raiM_ap, tryM_ap, tr_ok, tr_ex, rb_ex, bo_ex, sq_ex, ri_ex, kwA_ap, drp_ap, Nat.reduceLeDiff, Nat.zero_le, Nat.reduceMul, nn, fo]
theorem strange_run {ks : List Int} {d f f' : Int} {μ μ1 μ2 : Sto} {e3' : Option Ent} {rs : List D} (x1 : G_ldraw [.cell 0, .int 1000] μ = .ok (.int d) μ1) (ad : addD (.lst (ks.map D.int)) (.lst [.int 0, .int 999, .int d]) = some (.lst (ks.map D.int ++ [.int 0, .int 999, .int d])))
    (x2 : G_lof [.cell 0, .lst (ks.map D.int ++ [.int 0, .int 999, .int d])] μ1 = .ok (.int f) μ2) (rn : rng1 [.int (((ks.map D.int).length : Int) + 1)] = some rs)
    (q : forL (tgN 3) sIn rs [some (.sh (.cell 0)), some (.sh (.tup (ks.map D.int))), some (.sh (.int f)), none] μ2 = .ok .nx [some (.sh (.cell 0)), some (.sh (.tup (ks.map D.int))), some (.sh (.int f')), e3'] μ2) : G_lstranger [.cell 0, .tup (ks.map D.int)] μ = .ok (.int f') μ2 := by
  have ls : listD (.tup (ks.map D.int)) = some (.lst (ks.map D.int)) := rfl
  simp only [G_lstranger, g_lstranger, runD_ap, List.length_cons, List.length_nil, Nat.reduceAdd, Nat.reduceSub, List.map_cons, List.map_nil, List.replicate_succ, List.replicate_zero, List.cons_append, List.nil_append, seqM_ap, sq_nx, sq_rt, stiM_ap, bnd_ap, bo_ok, op2_ap, op2v_ap, op1_ap, cst_ap, lift_so, ret_ap, pek_ap, lett_ap, pekD, List.getElem?_cons_zero, List.getElem?_cons_succ, ix_l, ix50, ix51, ix52, ix53, ix54, isLst, lstUp, lstAt, lstPut, Option.map_some, add_ii, List.set_cons_zero, List.set_cons_succ, ifS_ap, andM_ap, tst_ap, eq_ii, lt_ii, gt_ii, ge_ii, len_l, asBl_b, bf_t, bf_f, bf_d, if_true, if_false, ite_true, ite_false, decide_true, decide_false, setM_ap, put_ap, skp_ap, rtM_ap, ri_rt, int_i, abs_i, ixN50, ixN51, ixN52, ixN53, ixN54, walkA_ap, isiM_ap, kwD_ap, newM_ap, ni_ok, ni_ex, fldV_ap, fldM_ap, asgM_ap, parM_ap, parM3_ap, tgN_ap, tgT2, tgT3, tgCons_ap, tgNil_ap, calM_ap, acons_ap, anil_ap, rb_ok, rb_ow, tupM_ap, lstM_ap, slM_ap, noP_ap, prt_ap, forM_ap, rngM1_ap, rngM2_ap, lcM_ap, andV_ap, notV_ap, orV_ap, ifM_ap, orM_ap, notM_ap, tru_ap, tru_b, chn_ap, seqA_l, seqA_t, seqA_f, seqA_s, len_t, len_f, opN_ap, met0_ap, met1_ap, metT_ap, apnM_ap, rtF_ap, ri_nx, ri_ro, sq_bk, sq_ct, sq_ro, mkT_ok, mkL_ok, List.length_append, List.length_singleton, asI, Wp_ok, nxt_nx, nxt_rt, nxt_bk, nxt_ct, trn_nx, trn_ct, trn_bk, trn_rt, ends_nx, ends_rt, ix_t, leA_ii, le_ii, sub_ii, Bool.not_true, Bool.not_false, Bool.false_eq_true, Bool.true_eq_false, eq_bb, ne_bb, eq_ss, ne_ss, raiM_ap, tryM_ap, tr_ok, tr_ex, rb_ex, bo_ex, sq_ex, ri_ex, kwA_ap, drp_ap, Nat.reduceLeDiff, Nat.zero_le, Nat.reduceMul, ls, x1, ad, x2, rn, q]
theorem strange_ok {n : Int} {μ : Sto} {ks : List Int} (B : Bag n μ) (hn : n < 900000) (hk : ∀ k ∈ ks, 0 ≤ k ∧ k ≤ 999) (hl : ks.length ≤ 500) : ∃ f μ', G_lstranger [.cell 0, .tup (ks.map D.int)] μ = .ok (.int f) μ' ∧ 0 ≤ f ∧ f ≤ 999 ∧ Bag (n + 2) μ' := by
  obtain ⟨d, μ1, x1, d0, d1, B1⟩ := draw_ok (top := 1000) B (by omega) (by decide) (by decide)
  obtain ⟨f, μ2, hf, x2, B2⟩ := of_lst (ds := ks.map D.int ++ [.int 0, .int 999, .int d]) B1 (by omega) (by rw [List.length_append]; show 0 < _ + 3; omega) (by rw [List.length_append, List.length_map]; show ks.length + 3 ≤ 1000; omega)
  obtain ⟨f, rfl, f0, f1⟩ : ∃ i : Int, f = .int i ∧ 0 ≤ i ∧ i ≤ 999 := by
    rcases List.mem_append.mp hf with z | z
    · obtain ⟨k, hk', rfl⟩ := List.mem_map.mp z
      exact ⟨k, rfl, hk k hk'⟩
    · simp only [List.mem_cons, List.not_mem_nil, or_false] at z
      rcases z with rfl | rfl | rfl
      · exact ⟨0, rfl, by decide, by decide⟩
      · exact ⟨999, rfl, by decide, by decide⟩
      · exact ⟨d, rfl, d0, by omega⟩
  have rn := rng_1 (n := ks.length + 1) (j := ((ks.map D.int).length : Int) + 1) (by omega) (by rw [List.length_map]; omega) (by rw [List.length_map]; omega) (by rw [List.length_map]; omega)
  obtain ⟨f', e3', a0, a1, q⟩ := strange_loop (ks := ks) (μ := μ2) ((List.range (ks.length + 1)).map fun k => D.int (0 + (k : Nat))) f none f0 f1
  exact ⟨f', μ2, strange_run x1 (add_ll (by rw [List.length_map]; show ks.length + 3 ≤ 1000000; omega)) x2 rn q, a0, a1, B2.up (by omega)⟩
end L2.DL.K02

namespace L2.DL.K02
open PySem PySem.Spec PyProof.Rows
/-! ### a value that is no key of a key set -/
def oddA (f : Int) : List D := [.non, .bl true, .bl false, .int (-1), .int 1000, .int (10 ^ 39), .str "", .str "1", .str (toString f), .int f, .int f, .tup [.int f], .lst [.int f], .tup [], .dct [] [], .dct [.inl f] [.int 1]]
def oddB (near : Int) (ks : List Int) : List D := [.str (toString near), .tup [.int near], .lst [.int near], .int (-1 - near), .int (near + 1000), .lst [.tup (ks.map D.int)], .tup (ks.map D.int)]
theorem odd_run0 {f : Int} {more : List D} {v : D} {μ μ1 μ2 : Sto} (x1 : G_lstranger [.cell 0, .tup []] μ = .ok (.int f) μ1) (sf : strD (.int f) = some (.str (toString f))) (ad : addD (.lst (oddA f)) (.lst more) = some (.lst (oddA f ++ more)))
    (x2 : G_lof [.cell 0, .lst (oddA f ++ more)] μ1 = .ok v μ2) : G_lodd [.cell 0, .tup [], .lst more] μ = .ok v μ2 := by
  have n1 : negD (.int 1) = some (.int (-1)) := rfl
  have p : powC 10 39 = true := by decide
  have z : ((39 : Int).toNat) = 39 := rfl
  have kd : keyD (.int f) = some (.inl f) := rfl
  have nd : (([Sum.inl f] : List Key).Nodup) := List.nodup_cons.mpr ⟨List.not_mem_nil, List.nodup_nil⟩
  have ne : neD (.tup []) (.tup []) = some (.bl false) := ne_tn rfl
  obtain ⟨ms, hms⟩ : ∃ ms, oddA f ++ more = ms := ⟨_, rfl⟩
  rw [hms] at ad x2
  unfold oddA at ad
  simp only [G_lodd, g_lodd, runD_ap, List.length_cons, List.length_nil, Nat.reduceAdd, Nat.reduceSub, List.map_cons, List.map_nil, List.replicate_succ, List.replicate_zero, List.cons_append, List.nil_append, seqM_ap, sq_nx, sq_rt, stiM_ap, bnd_ap, bo_ok, op2_ap, op2v_ap, op1_ap, cst_ap, lift_so, ret_ap, pek_ap, lett_ap, pekD, List.getElem?_cons_zero, List.getElem?_cons_succ, ix_l, ix50, ix51, ix52, ix53, ix54, isLst, lstUp, lstAt, lstPut, Option.map_some, add_ii, List.set_cons_zero, List.set_cons_succ, ifS_ap, andM_ap, tst_ap, eq_ii, lt_ii, gt_ii, ge_ii, len_l, asBl_b, bf_t, bf_f, bf_d, if_true, if_false, ite_true, ite_false, decide_true, decide_false, setM_ap, put_ap, skp_ap, rtM_ap, ri_rt, int_i, abs_i, ixN50, ixN51, ixN52, ixN53, ixN54, walkA_ap, isiM_ap, kwD_ap, newM_ap, ni_ok, ni_ex, fldV_ap, fldM_ap, asgM_ap, parM_ap, parM3_ap, tgN_ap, tgT2, tgT3, tgCons_ap, tgNil_ap, calM_ap, acons_ap, anil_ap, rb_ok, rb_ow, tupM_ap, lstM_ap, slM_ap, noP_ap, prt_ap, forM_ap, rngM1_ap, rngM2_ap, lcM_ap, andV_ap, notV_ap, orV_ap, ifM_ap, orM_ap, notM_ap, tru_ap, tru_b, chn_ap, seqA_l, seqA_t, seqA_f, seqA_s, len_t, len_f, opN_ap, met0_ap, met1_ap, metT_ap, apnM_ap, rtF_ap, ri_nx, ri_ro, sq_bk, sq_ct, sq_ro, mkT_ok, mkL_ok, List.length_append, List.length_singleton, asI, Wp_ok, nxt_nx, nxt_rt, nxt_bk, nxt_ct, trn_nx, trn_ct, trn_bk, trn_rt, ends_nx, ends_rt, ix_t, leA_ii, le_ii, sub_ii, Bool.not_true, Bool.not_false, Bool.false_eq_true, Bool.true_eq_false, eq_bb, ne_bb, eq_ss, ne_ss, raiM_ap, tryM_ap, tr_ok, tr_ex, rb_ex, bo_ex, sq_ex, ri_ex, kwA_ap, drp_ap, Nat.reduceLeDiff, Nat.zero_le, Nat.reduceMul, x1, n1, pow_ii p, z, sf, dspM_ap, prsM_cons, prsM_nil, newD_ap, kd, nd, and_self, ne, ad, x2]
theorem odd_run1 {f near : Int} {ks : List Int} {more : List D} {v : D} {μ μ1 μ2 μ3 : Sto} (hk : ks ≠ []) (x1 : G_lstranger [.cell 0, .tup (ks.map D.int)] μ = .ok (.int f) μ1) (sf : strD (.int f) = some (.str (toString f))) (x3 : G_lof [.cell 0, .tup (ks.map D.int)] μ1 = .ok (.int near) μ2)
    (sn : strD (.int near) = some (.str (toString near))) (ab : addD (.lst (oddA f)) (.lst (oddB near ks)) = some (.lst (oddA f ++ oddB near ks))) (ad : addD (.lst (oddA f ++ oddB near ks)) (.lst more) = some (.lst (oddA f ++ oddB near ks ++ more)))
    (x2 : G_lof [.cell 0, .lst (oddA f ++ oddB near ks ++ more)] μ2 = .ok v μ3) : G_lodd [.cell 0, .tup (ks.map D.int), .lst more] μ = .ok v μ3 := by
  have n1 : negD (.int 1) = some (.int (-1)) := rfl
  have p : powC 10 39 = true := by decide
  have z : ((39 : Int).toNat) = 39 := rfl
  have kd : keyD (.int f) = some (.inl f) := rfl
  have nd : (([Sum.inl f] : List Key).Nodup) := List.nodup_cons.mpr ⟨List.not_mem_nil, List.nodup_nil⟩
  have ne : neD (.tup (ks.map D.int)) (.tup []) = some (.bl true) := by
    rw [ne_tn (flat_int ks), List.isEmpty_map]
    cases ks with
    | nil => exact (hk rfl).elim
    | cons _ _ => rfl
  obtain ⟨ms, hms⟩ : ∃ ms, oddA f ++ oddB near ks = ms := ⟨_, rfl⟩
  rw [hms] at ab ad x2
  unfold oddA oddB at ab
  simp only [G_lodd, g_lodd, runD_ap, List.length_cons, List.length_nil, Nat.reduceAdd, Nat.reduceSub, List.map_cons, List.map_nil, List.replicate_succ, List.replicate_zero, List.cons_append, List.nil_append, seqM_ap, sq_nx, sq_rt, stiM_ap, bnd_ap, bo_ok, op2_ap, op2v_ap, op1_ap, cst_ap, lift_so, ret_ap, pek_ap, lett_ap, pekD, List.getElem?_cons_zero, List.getElem?_cons_succ, ix_l, ix50, ix51, ix52, ix53, ix54, isLst, lstUp, lstAt, lstPut, Option.map_some, add_ii, List.set_cons_zero, List.set_cons_succ, ifS_ap, andM_ap, tst_ap, eq_ii, lt_ii, gt_ii, ge_ii, len_l, asBl_b, bf_t, bf_f, bf_d, if_true, if_false, ite_true, ite_false, decide_true, decide_false, setM_ap, put_ap, skp_ap, rtM_ap, ri_rt, int_i, abs_i, ixN50, ixN51, ixN52, ixN53, ixN54, walkA_ap, isiM_ap, kwD_ap, newM_ap, ni_ok, ni_ex, fldV_ap, fldM_ap, asgM_ap, parM_ap, parM3_ap, tgN_ap, tgT2, tgT3, tgCons_ap, tgNil_ap, calM_ap, acons_ap, anil_ap, rb_ok, rb_ow, tupM_ap, lstM_ap, slM_ap, noP_ap, prt_ap, forM_ap, rngM1_ap, rngM2_ap, lcM_ap, andV_ap, notV_ap, orV_ap, ifM_ap, orM_ap, notM_ap, tru_ap, tru_b, chn_ap, seqA_l, seqA_t, seqA_f, seqA_s, len_t, len_f, opN_ap, met0_ap, met1_ap, metT_ap, apnM_ap, rtF_ap, ri_nx, ri_ro, sq_bk, sq_ct, sq_ro, mkT_ok, mkL_ok, List.length_append, List.length_singleton, asI, Wp_ok, nxt_nx, nxt_rt, nxt_bk, nxt_ct, trn_nx, trn_ct, trn_bk, trn_rt, ends_nx, ends_rt, ix_t, leA_ii, le_ii, sub_ii, Bool.not_true, Bool.not_false, Bool.false_eq_true, Bool.true_eq_false, eq_bb, ne_bb, eq_ss, ne_ss, raiM_ap, tryM_ap, tr_ok, tr_ex, rb_ex, bo_ex, sq_ex, ri_ex, kwA_ap, drp_ap, Nat.reduceLeDiff, Nat.zero_le, Nat.reduceMul, x1, n1, pow_ii p, z, sf, dspM_ap, prsM_cons, prsM_nil, newD_ap, kd, nd, and_self, ne, x3, sn, ab, ad, x2]
theorem oddA_gw {f : Int} (h0 : 0 ≤ f) (h1 : f ≤ 999) : ∀ v ∈ oddA f, Gw 2 150 v := by
  obtain ⟨_, k, l⟩ := str_key (k := f) (by omega) (by omega)
  intro v hv
  simp only [oddA, List.mem_cons, List.not_mem_nil, or_false] at hv
  rcases hv with rfl | rfl | rfl | rfl | rfl | rfl | rfl | rfl | rfl | rfl | rfl | rfl | rfl | rfl | rfl | rfl
  · exact gw_non.mono (by decide) (by decide)
  · exact (gw_bl true).mono (by decide) (by decide)
  · exact (gw_bl false).mono (by decide) (by decide)
  · exact (gw_int (by decide) (by decide)).mono (by decide) (by decide)
  · exact (gw_int (by decide) (by decide)).mono (by decide) (by decide)
  · exact gw_big.mono (by decide) (by decide)
  · exact (gw_str (ofString_ok "") (by decide +kernel)).mono (by decide) (by decide)
  · exact (gw_str (ofString_ok "1") (by decide +kernel)).mono (by decide) (by decide)
  · exact (gw_str k (by omega)).mono (by decide) (by decide)
  · exact (gw_int (by omega) (by omega)).mono (by decide) (by decide)
  · exact (gw_int (by omega) (by omega)).mono (by decide) (by decide)
  · exact (gw_one (gw_int (by omega) (by omega))).mono (by decide) (by decide)
  · exact (gw_oneL (gw_int (by omega) (by omega))).mono (by decide) (by decide)
  · exact (gw_tup (n := 1) (w := 50) (W := 50) (fun d hd => by cases hd) (by decide) (by decide)).mono (by decide) (by decide)
  · exact gw_dct0.mono (by decide) (by decide)
  · exact (gw_dct1 (by omega) (by omega)).mono (by decide) (by decide)
theorem gw_kt {ks : List Int} (h : ∀ k ∈ ks, 0 ≤ k ∧ k ≤ 999) (hl : ks.length ≤ 500) : Gw 2 30000 (.tup (ks.map D.int)) := gw_tup (gw_keys h) (by rw [List.length_map]; omega) (by rw [List.length_map]; omega)
theorem oddB_gw {near : Int} {ks : List Int} (h0 : 0 ≤ near) (h1 : near ≤ 999) (h : ∀ k ∈ ks, 0 ≤ k ∧ k ≤ 999) (hl : ks.length ≤ 500) : ∀ v ∈ oddB near ks, Gw 3 31000 v := by
  obtain ⟨_, k, l⟩ := str_key (k := near) (by omega) (by omega)
  intro v hv
  simp only [oddB, List.mem_cons, List.not_mem_nil, or_false] at hv
  rcases hv with rfl | rfl | rfl | rfl | rfl | rfl | rfl
  · exact (gw_str k (by omega)).mono (by decide) (by decide)
  · exact (gw_one (gw_int (by omega) (by omega))).mono (by decide) (by decide)
  · exact (gw_oneL (gw_int (by omega) (by omega))).mono (by decide) (by decide)
  · exact (gw_int (by omega) (by omega)).mono (by decide) (by decide)
  · exact (gw_int (by omega) (by omega)).mono (by decide) (by decide)
  · exact (gw_oneL (gw_kt h hl)).mono (by decide) (by decide)
  · exact (gw_kt h hl).mono (by decide) (by decide)
theorem odd_ok {n : Int} {μ : Sto} {ks : List Int} {more : List D} (B : Bag n μ) (hn : n < 900000) (hk : ∀ k ∈ ks, 0 ≤ k ∧ k ≤ 999) (hl : ks.length ≤ 500) (hm : ∀ v ∈ more, Gw 3 31000 v) (hml : more.length ≤ 50) : ∃ v μ', G_lodd [.cell 0, .tup (ks.map D.int), .lst more] μ = .ok v μ' ∧ Gw 3 31000 v ∧ Bag (n + 4) μ' := by
  obtain ⟨f, μ1, x1, f0, f1, B1⟩ := strange_ok B hn hk hl
  have sf := (str_key (k := f) (by omega) (by omega)).1
  have lA : (oddA f).length = 16 := rfl
  by_cases he : ks = []
  · subst he
    obtain ⟨v, μ2, hv, x2, B2⟩ := of_lst (ds := oddA f ++ more) B1 (by omega) (by rw [List.length_append, lA]; omega) (by rw [List.length_append, lA]; omega)
    refine ⟨v, μ2, odd_run0 x1 sf (add_ll (by rw [lA]; omega)) x2, ?_, B2.up (by omega)⟩
    rcases List.mem_append.mp hv with z | z
    · exact (oddA_gw f0 f1 v z).mono (by decide) (by decide)
    · exact hm v z
  · have lp := List.length_pos_iff.mpr he
    obtain ⟨near, μ2, hne, x3, B2⟩ := of_tup (ds := ks.map D.int) B1 (by omega) (by rw [List.length_map]; exact lp) (by rw [List.length_map]; omega)
    obtain ⟨near, hnm, rfl⟩ := List.mem_map.mp hne
    have kn := hk near hnm
    have sn := (str_key (k := near) (by omega) (by omega)).1
    have lB : (oddB near ks).length = 7 := rfl
    obtain ⟨v, μ3, hv, x2, B3⟩ := of_lst (ds := oddA f ++ oddB near ks ++ more) B2 (by omega) (by rw [List.length_append, List.length_append, lA, lB]; omega) (by rw [List.length_append, List.length_append, lA, lB]; omega)
    refine ⟨v, μ3, odd_run1 he x1 sf x3 sn (add_ll (by rw [lA, lB]; decide)) (add_ll (by rw [List.length_append, lA, lB]; omega)) x2, ?_, B3.up (by omega)⟩
    rcases List.mem_append.mp hv with z | z
    · rcases List.mem_append.mp z with z | z
      · exact (oddA_gw f0 f1 v z).mono (by decide) (by decide)
      · exact oddB_gw kn.1 kn.2 hk hl v z
    · exact hm v z
end L2.DL.K02

namespace L2.DL.K02
open PySem PySem.Spec PyProof.Rows
/-! ### a drawn string -/
/-- an ASCII text of at most so many signs -/
def Asc (n : Nat) (s : Str) : Prop := s.length ≤ n ∧ ∀ c ∈ s.cps.toList, c < 128
theorem Asc.ok {n : Nat} {s : Str} (h : Asc n s) : PyData.strOk s = true := by
  unfold PyData.strOk
  rw [Array.all_eq_true_iff_forall_mem]
  intro c hc
  have := h.2 c (Array.mem_toList_iff.mpr hc)
  exact decide_eq_true (by omega)
theorem Asc.app {n m k : Nat} {s t : Str} (h : Asc n s) (h' : Asc m t) (hk : n + m ≤ k) : Asc k (s ++ t) := by
  have e : (s ++ t).cps.toList = s.cps.toList ++ t.cps.toList := by rw [Str.cps_append, Array.toList_append]
  refine ⟨?_, fun c hc => ?_⟩
  · have l : (s ++ t).length = s.length + t.length := by
      rw [← len_cps, e, List.length_append, len_cps, len_cps]
    have := h.1
    have := h'.1
    omega
  · rw [e] at hc
    exact (List.mem_append.mp hc).elim (h.2 c) (h'.2 c)
theorem Asc.cut {n : Nat} {s : Str} {lo hi : Option Int} (h : Asc n s) : Asc n (cutS s lo hi) := by
  have e : (cutS s lo hi).cps.toList = (s.cps.toList.drop (HT.sIx s.cps.toList.length 0 lo)).take (HT.sIx s.cps.toList.length s.cps.toList.length hi - HT.sIx s.cps.toList.length 0 lo) := by
    unfold cutS
    rw [List.toList_toArray, len_cps]
  refine ⟨?_, fun c hc => ?_⟩
  · rw [← len_cps, e, List.length_take, List.length_drop]
    have := h.1
    rw [← len_cps] at this
    omega
  · rw [e] at hc
    exact h.2 c (List.mem_of_mem_drop (List.mem_of_mem_take hc))
theorem asc_sgn {c : Nat} (h : c < 128) : Asc 1 ⟨#[c]⟩ := ⟨Nat.le_refl 1, fun d hd => by
  have hd : d ∈ [c] := hd
  rw [List.mem_singleton] at hd
  omega⟩
/-- a sign of a text -/
theorem of_str {n : Int} {μ : Sto} {s : Str} (B : Bag n μ) (hn : n < 1000000) (h0 : 0 < s.length) (h1 : s.length ≤ 1000) : ∃ c μ', c ∈ s.cps.toList ∧ G_lof [.cell 0, .str s] μ = .ok (.str ⟨#[c]⟩) μ' ∧ Bag (n + 1) μ' := by
  have hl : s.length ≤ lineN := Nat.le_trans h1 (by decide)
  obtain ⟨i, μ', x, i0, i1, B'⟩ := draw_ok (top := s.length) B hn (by omega) (lg (by omega) (by omega))
  have hi : i.toNat < s.cps.toList.length := by rw [len_cps]; omega
  have q : L2.atI s.cps.toList i = some s.cps.toList[i.toNat] := by
    unfold L2.atI L2.ixN
    rw [if_pos i0, if_pos (by rw [len_cps]; omega)]
    exact List.getElem?_eq_getElem hi
  have ix : ixD (.str s) (.int i) = some (.str ⟨#[s.cps.toList[i.toNat]]⟩) := by
    show (if s.length ≤ lineN then (L2.atI s.cps.toList i).map _ else none) = _
    rw [if_pos hl, q]
    rfl
  have ln := len_s hl
  refine ⟨s.cps.toList[i.toNat], μ', List.getElem_mem hi, ?_, B'⟩
  simp only [G_lof, g_lof, runD_ap, List.length_cons, List.length_nil, Nat.reduceAdd, Nat.reduceSub, List.map_cons, List.map_nil, List.replicate_succ, List.replicate_zero, List.cons_append, List.nil_append, seqM_ap, sq_nx, sq_rt, stiM_ap, bnd_ap, bo_ok, op2_ap, op2v_ap, op1_ap, cst_ap, lift_so, ret_ap, pek_ap, lett_ap, pekD, List.getElem?_cons_zero, List.getElem?_cons_succ, ix_l, ix50, ix51, ix52, ix53, ix54, isLst, lstUp, lstAt, lstPut, Option.map_some, add_ii, List.set_cons_zero, List.set_cons_succ, ifS_ap, andM_ap, tst_ap, eq_ii, lt_ii, gt_ii, ge_ii, len_l, asBl_b, bf_t, bf_f, bf_d, if_true, if_false, ite_true, ite_false, decide_true, decide_false, setM_ap, put_ap, skp_ap, rtM_ap, ri_rt, int_i, abs_i, ixN50, ixN51, ixN52, ixN53, ixN54, walkA_ap, isiM_ap, kwD_ap, newM_ap, ni_ok, ni_ex, fldV_ap, fldM_ap, asgM_ap, parM_ap, parM3_ap, tgN_ap, tgT2, tgT3, tgCons_ap, tgNil_ap, calM_ap, acons_ap, anil_ap, rb_ok, rb_ow, tupM_ap, lstM_ap, slM_ap, noP_ap, prt_ap, forM_ap, rngM1_ap, rngM2_ap, lcM_ap, andV_ap, notV_ap, orV_ap, ifM_ap, orM_ap, notM_ap, tru_ap, tru_b, chn_ap, seqA_l, seqA_t, seqA_f, seqA_s, len_t, len_f, opN_ap, met0_ap, met1_ap, metT_ap, apnM_ap, rtF_ap, ri_nx, ri_ro, sq_bk, sq_ct, sq_ro, mkT_ok, mkL_ok, List.length_append, List.length_singleton, asI, Wp_ok, nxt_nx, nxt_rt, nxt_bk, nxt_ct, trn_nx, trn_ct, trn_bk, trn_rt, ends_nx, ends_rt, ix_t, leA_ii, le_ii, sub_ii, Bool.not_true, Bool.not_false, Bool.false_eq_true, Bool.true_eq_false, eq_bb, ne_bb, eq_ss, ne_ss, raiM_ap, tryM_ap, tr_ok, tr_ex, rb_ex, bo_ex, sq_ex, ri_ex, kwA_ap, drp_ap, Nat.reduceLeDiff, Nat.zero_le, Nat.reduceMul, ln, x, ix]
theorem sgns {ρ : Env} {s : Str} (h0 : 0 < s.length) (h1 : s.length ≤ 100) (hc : ∀ c ∈ s.cps.toList, c < 128) (e0 : ρ[0]? = some (some (.sh (.cell 0)))) (e1 : ρ[1]? = some (some (.sh (.str s)))) (ts : List D) : ∀ (acc : List D) (n : Int) (μ : Sto), Bag n μ → n + ts.length < 900000 → acc.length + ts.length < 1000 →
    ∃ (cs : List Nat) (μ' : Sto), lcGo [4] (tgN 4) (ret true) (calM G_lof (acons (lett 0) (acons (lett 1) anil))) ts acc (ρ.set 4 none) μ = .ok (acc ++ txts (cs.map fun c : Nat => (⟨#[c]⟩ : Str))) (ρ.set 4 none) μ' ∧ cs.length = ts.length ∧ (∀ c ∈ cs, c < 128) ∧ Bag (n + ts.length) μ' := by
  induction ts with
  | nil =>
    intro acc n μ B _ _
    refine ⟨[], μ, ?_, rfl, (fun c h => nomatch h), B.up (by show n ≤ n + ((0 : Nat) : Int); omega)⟩
    show O.ok acc (ρ.set 4 none) μ = O.ok (acc ++ []) (ρ.set 4 none) μ
    rw [List.append_nil]
  | cons t ts ih =>
    intro acc n μ B hn hl
    rw [List.length_cons] at hn hl
    obtain ⟨c, μ1, hcm, x, B1⟩ := of_str (s := s) B (by omega) h0 (by omega)
    obtain ⟨cs, μ', q1, q2, q3, q4⟩ := ih (acc ++ [.str ⟨#[c]⟩]) (n + 1) μ1 B1 (by omega) (by rw [List.length_append, List.length_singleton]; omega)
    refine ⟨c :: cs, μ', ?_, by rw [List.length_cons, List.length_cons, q2], fun d hd => ?_, q4.up (by rw [List.length_cons]; omega)⟩
    · have a0 : (ρ.set 4 (some (.sh t)))[0]? = some (some (.sh (.cell 0))) := by rw [List.getElem?_set_ne (by decide)]; exact e0
      have a1 : (ρ.set 4 (some (.sh t)))[1]? = some (some (.sh (.str s))) := by rw [List.getElem?_set_ne (by decide)]; exact e1
      have g : tgN 4 t (ρ.set 4 none) μ = .ok () (ρ.set 4 (some (.sh t))) μ := by rw [tgN_ap, List.set_set]
      have f : calM G_lof (acons (lett 0) (acons (lett 1) anil)) (ρ.set 4 (some (.sh t))) μ = .ok (.str ⟨#[c]⟩) (ρ.set 4 (some (.sh t))) μ1 := by
        simp only [calM_ap, acons_ap, lett_ap, a0, a1, bo_ok, bnd_ap, anil_ap, ret_ap, x, rb_ok]
      have w : wipD (ρ.set 4 (some (.sh t))) [4] = ρ.set 4 none := by show (ρ.set 4 _).set 4 none = _; rw [List.set_set]
      unfold lcGo
      simp only [g, ret_ap, f]
      rw [if_pos (Nat.lt_trans (m := 1000) (by omega) (by decide)), w, q1, List.append_assoc]
      rfl
    · rcases List.mem_cons.mp hd with rfl | hd
      · exact hc _ hcm
      · exact q3 d hd
theorem asc_join : ∀ cs : List Nat, (∀ c ∈ cs, c < 128) → Asc cs.length (Str.join "" (cs.map fun c : Nat => (⟨#[c]⟩ : Str)))
  | [], _ => ⟨Nat.le_refl 0, fun c h => by cases h⟩
  | [c], h => asc_sgn (h c List.mem_cons_self)
  | c :: d :: cs, h => by
    have ih := asc_join (d :: cs) (fun x hx => h x (List.mem_cons_of_mem _ hx))
    have e : Str.join "" ((c :: d :: cs).map fun c : Nat => (⟨#[c]⟩ : Str)) = ⟨#[c]⟩ ++ "" ++ Str.join "" ((d :: cs).map fun c : Nat => (⟨#[c]⟩ : Str)) := rfl
    rw [e]
    refine Asc.app (Asc.app (asc_sgn (h c List.mem_cons_self)) (m := 0) ⟨Nat.le_refl 0, fun c h => by cases h⟩ (Nat.le_refl 1)) ih ?_
    simp only [List.length_cons]
    omega
theorem join_ok (cs : List Nat) (hl : cs.length ≤ 100) (h : ∀ c ∈ cs, c < 128) : ∃ s, joinD (.str "") [.lst (txts (cs.map fun c : Nat => (⟨#[c]⟩ : Str)))] = some (.str s) ∧ Asc cs.length s := by
  have e := strsOf_strs (cs.map fun c : Nat => (⟨#[c]⟩ : Str))
  have sm : ∀ cs : List Nat, ((cs.map fun c : Nat => (⟨#[c]⟩ : Str)).map fun x : Str => x.length).sum = cs.length := fun cs => by
    induction cs with
    | nil => rfl
    | cons c cs ih =>
      rw [List.map_cons, List.map_cons, List.sum_cons, ih, List.length_cons]
      show 1 + _ = _
      omega
  refine ⟨Txt.join "" (cs.map fun c : Nat => (⟨#[c]⟩ : Str)), ?_, ?_⟩
  · show (match strsOf (txts (cs.map fun c : Nat => (⟨#[c]⟩ : Str))) with
      | some ys => if (ys.map fun x : Str => x.length).sum + ys.length * ("" : Str).length ≤ 16777216 then some (D.str (Txt.join "" ys)) else none
      | none => none) = _
    rw [e]
    show (if _ then _ else _) = _
    rw [if_pos (by rw [sm]; show cs.length + _ * 0 ≤ _; omega)]
  · show Asc _ (Builtin.Str.glued _ _)
    rw [PySem.StrLaws.glued_eq_join]
    exact asc_join cs h
end L2.DL.K02

namespace L2.DL.K02
open PySem PySem.Spec PyProof.Rows
abbrev wSig : List D := [.str "ab", .str "abz019", .str "self", .str "m0", .str "p0x12", .str "none9"]
abbrev wLen : List D := [.int 0, .int 1, .int 2, .int 5, .int 10, .int 11, .int 12, .int 13]
abbrev wCh : List D := [.str "A", .str "Z", .str "_", .str " ", .str "-", .str "\n", .str ".", .str "{", .str "@", .str "[", .str "/", .str ":", .str "0", .str "", .str "9"]
abbrev wMenu (s : Str) : List D := [.str s, .str s, .str s, .str "", .str (cutS s (some 1) none), .tup [.str s], .lst [.str s], .str "self", .str "true", .str "1a"]
def ascB (n : Nat) (s : Str) : Bool := Nat.ble s.length n && s.cps.toList.all fun c => Nat.blt c 128
theorem ascB_ok {n : Nat} {s : Str} (h : ascB n s = true) : Asc n s := by
  unfold ascB at h
  rw [Bool.and_eq_true, List.all_eq_true] at h
  exact ⟨Nat.le_of_ble_eq_true h.1, fun c hc => Nat.le_of_ble_eq_true (h.2 c hc)⟩
theorem wMenu_gw {s : Str} (h : Asc 40 s) : ∀ v ∈ wMenu s, Gw 2 200 v := by
  have g : Gw 1 50 (.str s) := gw_str h.ok (Nat.le_trans h.1 (by decide))
  intro v hv
  simp only [wMenu, List.mem_cons, List.not_mem_nil, or_false] at hv
  rcases hv with rfl | rfl | rfl | rfl | rfl | rfl | rfl | rfl | rfl | rfl
  · exact g.mono (by decide) (by decide)
  · exact g.mono (by decide) (by decide)
  · exact g.mono (by decide) (by decide)
  · exact (gw_str (ofString_ok "") (by decide +kernel)).mono (by decide) (by decide)
  · exact (gw_str (h.cut (lo := some 1) (hi := none)).ok (Nat.le_trans (h.cut (lo := some 1) (hi := none)).1 (by decide))).mono (by decide) (by decide)
  · exact (gw_one g).mono (by decide) (by decide)
  · exact (gw_oneL g).mono (by decide) (by decide)
  · exact (gw_str (ofString_ok "self") (by decide +kernel)).mono (by decide) (by decide)
  · exact (gw_str (ofString_ok "true") (by decide +kernel)).mono (by decide) (by decide)
  · exact (gw_str (ofString_ok "1a") (by decide +kernel)).mono (by decide) (by decide)
theorem sl_s {s : Str} {lo hi : OI} (h : s.length ≤ 1000) : slD (.str s) lo hi = some (.str (cutS s lo hi)) := if_pos (Nat.le_trans h (by decide))
theorem word_ok {n : Int} {μ : Sto} (B : Bag n μ) (hn : n < 800000) : ∃ v μ', G_lword [.cell 0] μ = .ok v μ' ∧ Gw 2 200 v ∧ Bag (n + 30) μ' := Rw.ex (by
  refine Rw_run rfl ?_
  obtain ⟨d, μ1, hd, x1, B1⟩ := of_lst (ds := wSig) B (by omega) (by decide) (by decide)
  obtain ⟨sg, rfl, sg0, sg1⟩ : ∃ s : Str, d = .str s ∧ 0 < s.length ∧ Asc 10 s := by
    simp only [List.mem_cons, List.not_mem_nil, or_false] at hd
    rcases hd with rfl | rfl | rfl | rfl | rfl | rfl <;> exact ⟨_, rfl, by decide +kernel, ascB_ok (by decide +kernel)⟩
  obtain ⟨c, μ2, hc, x2, B2⟩ := of_str (s := "azmqx") B1 (by omega) (by decide +kernel) (by decide +kernel)
  have hc : c < 128 := (ascB_ok (n := 5) (s := "azmqx") (by decide +kernel)).2 c hc
  obtain ⟨k, μ3, hk, x3, B3⟩ := of_lst (ds := wLen) B2 (by omega) (by decide) (by decide)
  obtain ⟨k, rfl, hk⟩ : ∃ i : Nat, k = .int (i : Nat) ∧ i ≤ 13 := by
    simp only [List.mem_cons, List.not_mem_nil, or_false] at hk
    rcases hk with rfl | rfl | rfl | rfl | rfl | rfl | rfl | rfl
    · exact ⟨0, rfl, by decide⟩
    · exact ⟨1, rfl, by decide⟩
    · exact ⟨2, rfl, by decide⟩
    · exact ⟨5, rfl, by decide⟩
    · exact ⟨10, rfl, by decide⟩
    · exact ⟨11, rfl, by decide⟩
    · exact ⟨12, rfl, by decide⟩
    · exact ⟨13, rfl, by decide⟩
  have rn := rng_1 (n := k) (j := (k : Int)) (by omega) (by omega) (by omega) (by omega)
  obtain ⟨cs, μ4, q1, q2, q3, B4⟩ := sgns (ρ := [some (.sh (.cell 0)), some (.sh (.str sg)), none, none, none]) (s := sg) sg0 (Nat.le_trans sg1.1 (by decide)) sg1.2 rfl rfl ((List.range k).map fun i => D.int (0 + (i : Nat))) [] (n + 3) μ3 (B3.up (by omega)) (by rw [List.length_map, List.length_range]; omega) (by rw [List.length_map, List.length_range, List.length_nil]; omega)
  rw [List.length_map, List.length_range] at q2 B4
  obtain ⟨s0, j, a0⟩ := join_ok cs (by omega) q3
  have x4 : lcAll [4] (tgN 4) (ret true) (calM G_lof (acons (lett 0) (acons (lett 1) anil))) ((List.range k).map fun i => D.int (0 + (i : Nat))) [some (.sh (.cell 0)), some (.sh (.str sg)), none, none, none] μ3 = .ok (.lst (txts (cs.map fun c : Nat => (⟨#[c]⟩ : Str)))) [some (.sh (.cell 0)), some (.sh (.str sg)), none, none, none] μ4 := by
    unfold lcAll
    have e5 : wipD [some (Ent.sh (.cell 0)), some (.sh (.str sg)), none, none, none] [4] = [some (Ent.sh (.cell 0)), some (.sh (.str sg)), none, none, none].set 4 none := rfl
    rw [e5, q1]
    rfl
  have a1 : Asc 14 (⟨#[c]⟩ ++ s0) := Asc.app (asc_sgn hc) a0 (by omega)
  have l0 := a0.1
  have ad : addD (.str ⟨#[c]⟩) (.str s0) = some (.str (⟨#[c]⟩ ++ s0)) := add_ss (by show 1 + s0.length ≤ 1000000; omega)
  have is : isStr (.str "") = some () := rfl
  obtain ⟨s1, e1⟩ : ∃ s1, (⟨#[c]⟩ ++ s0 : Str) = s1 := ⟨_, rfl⟩
  rw [e1] at ad a1
  obtain ⟨b, μ5, x5, b0, b1, B5⟩ := draw_ok (top := 2) B4 (by omega) (by decide) (by decide)
  have fin : ∀ (s : Str) (e3 e4 : Option Ent) (m : Int) (μ : Sto), Asc 40 s → Bag m μ → m ≤ n + 27 → Wp (rtM (calM G_lof (acons (lett 0) (acons (lstM (acons (lett 2) (acons (lett 2) (acons (lett 2) (acons (cst (.str "")) (acons (slM (lett 2) (prt (cst (.int 1))) noP) (acons (tupM (acons (lett 2) anil)) (acons (lstM (acons (lett 2) anil)) (acons (cst (.str "self")) (acons (cst (.str "true")) (acons (cst (.str "1a")) anil))))))))))) anil))) [some (.sh (.cell 0)), some (.sh (.str sg)), some (.sh (.str s)), e3, e4] μ) (ends fun v μ' => Gw 2 200 v ∧ Bag (n + 30) μ') := by
    intro s e3 e4 m μ ha Bm hm
    obtain ⟨v, μ', hv, x, B'⟩ := of_lst (ds := wMenu s) Bm (by omega) (by show (0 : Nat) < 10; decide) (by show (10 : Nat) ≤ 1000; decide)
    have sl := sl_s (s := s) (lo := some 1) (hi := none) (Nat.le_trans ha.1 (by decide))
    simp only [runD_ap, List.length_cons, List.length_nil, Nat.reduceAdd, Nat.reduceSub, List.map_cons, List.map_nil, List.replicate_succ, List.replicate_zero, List.cons_append, List.nil_append, seqM_ap, sq_nx, sq_rt, stiM_ap, bnd_ap, bo_ok, op2_ap, op2v_ap, op1_ap, cst_ap, lift_so, ret_ap, pek_ap, lett_ap, pekD, List.getElem?_cons_zero, List.getElem?_cons_succ, ix_l, ix50, ix51, ix52, ix53, ix54, isLst, lstUp, lstAt, lstPut, Option.map_some, add_ii, List.set_cons_zero, List.set_cons_succ, ifS_ap, andM_ap, tst_ap, eq_ii, lt_ii, gt_ii, ge_ii, len_l, asBl_b, bf_t, bf_f, bf_d, if_true, if_false, ite_true, ite_false, decide_true, decide_false, setM_ap, put_ap, skp_ap, rtM_ap, ri_rt, int_i, abs_i, ixN50, ixN51, ixN52, ixN53, ixN54, walkA_ap, isiM_ap, kwD_ap, newM_ap, ni_ok, ni_ex, fldV_ap, fldM_ap, asgM_ap, parM_ap, parM3_ap, tgN_ap, tgT2, tgT3, tgCons_ap, tgNil_ap, calM_ap, acons_ap, anil_ap, rb_ok, rb_ow, tupM_ap, lstM_ap, slM_ap, noP_ap, prt_ap, forM_ap, rngM1_ap, rngM2_ap, lcM_ap, andV_ap, notV_ap, orV_ap, ifM_ap, orM_ap, notM_ap, tru_ap, tru_b, chn_ap, seqA_l, seqA_t, seqA_f, seqA_s, len_t, len_f, opN_ap, met0_ap, met1_ap, metT_ap, apnM_ap, rtF_ap, ri_nx, ri_ro, sq_bk, sq_ct, sq_ro, mkT_ok, mkL_ok, List.length_append, List.length_singleton, asI, Wp_ok, nxt_nx, nxt_rt, nxt_bk, nxt_ct, trn_nx, trn_ct, trn_bk, trn_rt, ends_nx, ends_rt, ix_t, leA_ii, le_ii, sub_ii, Bool.not_true, Bool.not_false, Bool.false_eq_true, Bool.true_eq_false, eq_bb, ne_bb, eq_ss, ne_ss, raiM_ap, tryM_ap, tr_ok, tr_ex, rb_ex, bo_ex, sq_ex, ri_ex, kwA_ap, drp_ap, Nat.reduceLeDiff, Nat.zero_le, Nat.reduceMul, sl, x]
    exact ⟨wMenu_gw ha v hv, B'.up (by omega)⟩
  by_cases hb : b = 0
  · obtain ⟨ch, μ6, hch, x6, B6⟩ := of_lst (ds := wCh) B5 (by omega) (by decide) (by decide)
    obtain ⟨ch, rfl, ach⟩ : ∃ s : Str, ch = .str s ∧ Asc 1 s := by
      simp only [List.mem_cons, List.not_mem_nil, or_false] at hch
      rcases hch with rfl | rfl | rfl | rfl | rfl | rfl | rfl | rfl | rfl | rfl | rfl | rfl | rfl | rfl | rfl <;> exact ⟨_, rfl, ascB_ok (by decide +kernel)⟩
    have l1 : 0 < s1.length := by
      rw [← e1, ← len_cps, show ((⟨#[c]⟩ ++ s0 : Str)).cps.toList = [c] ++ s0.cps.toList by rw [Str.cps_append, Array.toList_append], List.length_append]
      show 0 < 1 + _
      omega
    have ln := len_s (s := s1) (Nat.le_trans a1.1 (by decide))
    have l14 := a1.1
    obtain ⟨i, μ7, x7, i0, i1, B7⟩ := draw_ok (top := s1.length) B6 (by omega) (by omega) (lg (by omega) (by omega))
    obtain ⟨j2, μ8, x8, j0, j1, B8⟩ := draw_ok (top := 2) B7 (by omega) (by decide) (by decide)
    have sa := sl_s (s := s1) (lo := none) (hi := some i) (Nat.le_trans a1.1 (by decide))
    have sb := sl_s (s := s1) (lo := some (i + j2)) (hi := none) (Nat.le_trans a1.1 (by decide))
    have k1 := a1.cut (lo := none) (hi := some i)
    have k2 := a1.cut (lo := some (i + j2)) (hi := none)
    have k3 := Asc.app k1 ach (k := 15) (by decide)
    have a5 : addD (.str (cutS s1 none (some i))) (.str ch) = some (.str (cutS s1 none (some i) ++ ch)) := add_ss (by have := k1.1; have := ach.1; omega)
    have a6 : addD (.str (cutS s1 none (some i) ++ ch)) (.str (cutS s1 (some (i + j2)) none)) = some (.str (cutS s1 none (some i) ++ ch ++ cutS s1 (some (i + j2)) none)) := add_ss (by have := k3.1; have := k2.1; omega)
    have f := fin (cutS s1 none (some i) ++ ch ++ cutS s1 (some (i + j2)) none) (some (.sh (.str ch))) (some (.sh (.int i))) (n + 24) μ8 (Asc.app k3 k2 (by decide)) (B8.up (by omega)) (by omega)
    simp only [g_lword, runD_ap, List.length_cons, List.length_nil, Nat.reduceAdd, Nat.reduceSub, List.map_cons, List.map_nil, List.replicate_succ, List.replicate_zero, List.cons_append, List.nil_append, seqM_ap, sq_nx, sq_rt, stiM_ap, bnd_ap, bo_ok, op2_ap, op2v_ap, op1_ap, cst_ap, lift_so, ret_ap, pek_ap, lett_ap, pekD, List.getElem?_cons_zero, List.getElem?_cons_succ, ix_l, ix50, ix51, ix52, ix53, ix54, isLst, lstUp, lstAt, lstPut, Option.map_some, add_ii, List.set_cons_zero, List.set_cons_succ, ifS_ap, andM_ap, tst_ap, eq_ii, lt_ii, gt_ii, ge_ii, len_l, asBl_b, bf_t, bf_f, bf_d, if_true, if_false, ite_true, ite_false, decide_true, decide_false, setM_ap, put_ap, skp_ap, rtM_ap, ri_rt, int_i, abs_i, ixN50, ixN51, ixN52, ixN53, ixN54, walkA_ap, isiM_ap, kwD_ap, newM_ap, ni_ok, ni_ex, fldV_ap, fldM_ap, asgM_ap, parM_ap, parM3_ap, tgN_ap, tgT2, tgT3, tgCons_ap, tgNil_ap, calM_ap, acons_ap, anil_ap, rb_ok, rb_ow, tupM_ap, lstM_ap, slM_ap, noP_ap, prt_ap, forM_ap, rngM1_ap, rngM2_ap, lcM_ap, andV_ap, notV_ap, orV_ap, ifM_ap, orM_ap, notM_ap, tru_ap, tru_b, chn_ap, seqA_l, seqA_t, seqA_f, seqA_s, len_t, len_f, opN_ap, met0_ap, met1_ap, metT_ap, apnM_ap, rtF_ap, ri_nx, ri_ro, sq_bk, sq_ct, sq_ro, mkT_ok, mkL_ok, List.length_append, List.length_singleton, asI, Wp_ok, nxt_nx, nxt_rt, nxt_bk, nxt_ct, trn_nx, trn_ct, trn_bk, trn_rt, ends_nx, ends_rt, ix_t, leA_ii, le_ii, sub_ii, Bool.not_true, Bool.not_false, Bool.false_eq_true, Bool.true_eq_false, eq_bb, ne_bb, eq_ss, ne_ss, raiM_ap, tryM_ap, tr_ok, tr_ex, rb_ex, bo_ex, sq_ex, ri_ex, kwA_ap, drp_ap, Nat.reduceLeDiff, Nat.zero_le, Nat.reduceMul, x1, x2, x3, rn, is, x4, j, ad, x5, hb, x6, ln, x7, sa, a5, x8, sb, a6]
    simp only [runD_ap, List.length_cons, List.length_nil, Nat.reduceAdd, Nat.reduceSub, List.map_cons, List.map_nil, List.replicate_succ, List.replicate_zero, List.cons_append, List.nil_append, seqM_ap, sq_nx, sq_rt, stiM_ap, bnd_ap, bo_ok, op2_ap, op2v_ap, op1_ap, cst_ap, lift_so, ret_ap, pek_ap, lett_ap, pekD, List.getElem?_cons_zero, List.getElem?_cons_succ, ix_l, ix50, ix51, ix52, ix53, ix54, isLst, lstUp, lstAt, lstPut, Option.map_some, add_ii, List.set_cons_zero, List.set_cons_succ, ifS_ap, andM_ap, tst_ap, eq_ii, lt_ii, gt_ii, ge_ii, len_l, asBl_b, bf_t, bf_f, bf_d, if_true, if_false, ite_true, ite_false, decide_true, decide_false, setM_ap, put_ap, skp_ap, rtM_ap, ri_rt, int_i, abs_i, ixN50, ixN51, ixN52, ixN53, ixN54, walkA_ap, isiM_ap, kwD_ap, newM_ap, ni_ok, ni_ex, fldV_ap, fldM_ap, asgM_ap, parM_ap, parM3_ap, tgN_ap, tgT2, tgT3, tgCons_ap, tgNil_ap, calM_ap, acons_ap, anil_ap, rb_ok, rb_ow, tupM_ap, lstM_ap, slM_ap, noP_ap, prt_ap, forM_ap, rngM1_ap, rngM2_ap, lcM_ap, andV_ap, notV_ap, orV_ap, ifM_ap, orM_ap, notM_ap, tru_ap, tru_b, chn_ap, seqA_l, seqA_t, seqA_f, seqA_s, len_t, len_f, opN_ap, met0_ap, met1_ap, metT_ap, apnM_ap, rtF_ap, ri_nx, ri_ro, sq_bk, sq_ct, sq_ro, mkT_ok, mkL_ok, List.length_append, List.length_singleton, asI, Wp_ok, nxt_nx, nxt_rt, nxt_bk, nxt_ct, trn_nx, trn_ct, trn_bk, trn_rt, ends_nx, ends_rt, ix_t, leA_ii, le_ii, sub_ii, Bool.not_true, Bool.not_false, Bool.false_eq_true, Bool.true_eq_false, eq_bb, ne_bb, eq_ss, ne_ss, raiM_ap, tryM_ap, tr_ok, tr_ex, rb_ex, bo_ex, sq_ex, ri_ex, kwA_ap, drp_ap, Nat.reduceLeDiff, Nat.zero_le, Nat.reduceMul] at f
    exact f
  · have f := fin s1 none none (n + 20) μ5 ⟨Nat.le_trans a1.1 (by decide), a1.2⟩ (B5.up (by omega)) (by omega)
    simp only [g_lword, runD_ap, List.length_cons, List.length_nil, Nat.reduceAdd, Nat.reduceSub, List.map_cons, List.map_nil, List.replicate_succ, List.replicate_zero, List.cons_append, List.nil_append, seqM_ap, sq_nx, sq_rt, stiM_ap, bnd_ap, bo_ok, op2_ap, op2v_ap, op1_ap, cst_ap, lift_so, ret_ap, pek_ap, lett_ap, pekD, List.getElem?_cons_zero, List.getElem?_cons_succ, ix_l, ix50, ix51, ix52, ix53, ix54, isLst, lstUp, lstAt, lstPut, Option.map_some, add_ii, List.set_cons_zero, List.set_cons_succ, ifS_ap, andM_ap, tst_ap, eq_ii, lt_ii, gt_ii, ge_ii, len_l, asBl_b, bf_t, bf_f, bf_d, if_true, if_false, ite_true, ite_false, decide_true, decide_false, setM_ap, put_ap, skp_ap, rtM_ap, ri_rt, int_i, abs_i, ixN50, ixN51, ixN52, ixN53, ixN54, walkA_ap, isiM_ap, kwD_ap, newM_ap, ni_ok, ni_ex, fldV_ap, fldM_ap, asgM_ap, parM_ap, parM3_ap, tgN_ap, tgT2, tgT3, tgCons_ap, tgNil_ap, calM_ap, acons_ap, anil_ap, rb_ok, rb_ow, tupM_ap, lstM_ap, slM_ap, noP_ap, prt_ap, forM_ap, rngM1_ap, rngM2_ap, lcM_ap, andV_ap, notV_ap, orV_ap, ifM_ap, orM_ap, notM_ap, tru_ap, tru_b, chn_ap, seqA_l, seqA_t, seqA_f, seqA_s, len_t, len_f, opN_ap, met0_ap, met1_ap, metT_ap, apnM_ap, rtF_ap, ri_nx, ri_ro, sq_bk, sq_ct, sq_ro, mkT_ok, mkL_ok, List.length_append, List.length_singleton, asI, Wp_ok, nxt_nx, nxt_rt, nxt_bk, nxt_ct, trn_nx, trn_ct, trn_bk, trn_rt, ends_nx, ends_rt, ix_t, leA_ii, le_ii, sub_ii, Bool.not_true, Bool.not_false, Bool.false_eq_true, Bool.true_eq_false, eq_bb, ne_bb, eq_ss, ne_ss, raiM_ap, tryM_ap, tr_ok, tr_ex, rb_ex, bo_ex, sq_ex, ri_ex, kwA_ap, drp_ap, Nat.reduceLeDiff, Nat.zero_le, Nat.reduceMul, x1, x2, x3, rn, is, x4, j, ad, x5, hb]
    simp only [runD_ap, List.length_cons, List.length_nil, Nat.reduceAdd, Nat.reduceSub, List.map_cons, List.map_nil, List.replicate_succ, List.replicate_zero, List.cons_append, List.nil_append, seqM_ap, sq_nx, sq_rt, stiM_ap, bnd_ap, bo_ok, op2_ap, op2v_ap, op1_ap, cst_ap, lift_so, ret_ap, pek_ap, lett_ap, pekD, List.getElem?_cons_zero, List.getElem?_cons_succ, ix_l, ix50, ix51, ix52, ix53, ix54, isLst, lstUp, lstAt, lstPut, Option.map_some, add_ii, List.set_cons_zero, List.set_cons_succ, ifS_ap, andM_ap, tst_ap, eq_ii, lt_ii, gt_ii, ge_ii, len_l, asBl_b, bf_t, bf_f, bf_d, if_true, if_false, ite_true, ite_false, decide_true, decide_false, setM_ap, put_ap, skp_ap, rtM_ap, ri_rt, int_i, abs_i, ixN50, ixN51, ixN52, ixN53, ixN54, walkA_ap, isiM_ap, kwD_ap, newM_ap, ni_ok, ni_ex, fldV_ap, fldM_ap, asgM_ap, parM_ap, parM3_ap, tgN_ap, tgT2, tgT3, tgCons_ap, tgNil_ap, calM_ap, acons_ap, anil_ap, rb_ok, rb_ow, tupM_ap, lstM_ap, slM_ap, noP_ap, prt_ap, forM_ap, rngM1_ap, rngM2_ap, lcM_ap, andV_ap, notV_ap, orV_ap, ifM_ap, orM_ap, notM_ap, tru_ap, tru_b, chn_ap, seqA_l, seqA_t, seqA_f, seqA_s, len_t, len_f, opN_ap, met0_ap, met1_ap, metT_ap, apnM_ap, rtF_ap, ri_nx, ri_ro, sq_bk, sq_ct, sq_ro, mkT_ok, mkL_ok, List.length_append, List.length_singleton, asI, Wp_ok, nxt_nx, nxt_rt, nxt_bk, nxt_ct, trn_nx, trn_ct, trn_bk, trn_rt, ends_nx, ends_rt, ix_t, leA_ii, le_ii, sub_ii, Bool.not_true, Bool.not_false, Bool.false_eq_true, Bool.true_eq_false, eq_bb, ne_bb, eq_ss, ne_ss, raiM_ap, tryM_ap, tr_ok, tr_ex, rb_ex, bo_ex, sq_ex, ri_ex, kwA_ap, drp_ap, Nat.reduceLeDiff, Nat.zero_le, Nat.reduceMul] at f
    exact f)
end L2.DL.K02

namespace L2.DL.K02
open PySem PySem.Spec PyProof.Rows
/-! ### rows of a lot -/
theorem adj_of {ks : List Int} (h : ks.Pairwise (· < ·)) : adj ks = true := by
  induction ks with
  | nil => rfl
  | cons a r ih =>
    rw [List.pairwise_cons] at h
    cases r with
    | nil => rfl
    | cons b r =>
      show (decide (a < b) && adj (b :: r)) = true
      rw [decide_eq_true (h.1 b List.mem_cons_self), ih h.2] <;> rfl
theorem set_ks {ks : List Int} (h : KS ks) : isSet (.tup (ks.map D.int)) = true := by
  show asc (-1) (ks.map D.int) = true
  rw [asc_m1 h.2, adj_of h.1]
theorem lot_ks {ks : List Int} (h : KS ks) (h0 : ks ≠ []) : isLot (.tup (ks.map D.int)) = true := by
  unfold isLot
  rw [set_ks h]
  cases ks with
  | nil => exact (h0 rfl).elim
  | cons _ _ => rfl
theorem pv_ks (ks : List Int) : Pv (.tup (ks.map D.int)) := .tup fun d hd => by
  obtain ⟨k, _, rfl⟩ := List.mem_map.mp hd
  exact .int k
abbrev rF : List Str := ["lot", "coming", "going"]
abbrev rV (ks : List Int) : List D := [.tup (ks.map D.int), .non, .non]
abbrev rowD (ks : List Int) : D := .ins "Row" rF (rV ks)
theorem row_init {ks : List Int} {μ : Sto} (h : KS ks) (h0 : ks ≠ []) : G_Row_init [.tup (ks.map D.int), .non, .non] μ = .ok rF (rV ks) μ := by
  have l := is_lot_ok (μ := μ) (pv_ks ks)
  rw [lot_ks h h0] at l
  have n1 : isND true .non .non = some (.bl false) := rfl
  have s1 : setOk ftT "Row" "lot" [] = true := by decide +kernel
  have s2 : setOk ftT "Row" "coming" ["lot"] = true := by decide +kernel
  have s3 : setOk ftT "Row" "going" ["lot", "coming"] = true := by decide +kernel
  have p1 : ∀ d : D, putD "lot" d [] [] = ((["lot"] : List Str), [d]) := fun _ => rfl
  have p2 : ∀ a d : D, putD "coming" d ["lot"] [a] = ((["lot", "coming"] : List Str), [a, d]) := fun _ _ => rfl
  have p3 : ∀ a b d : D, putD "going" d ["lot", "coming"] [a, b] = ((["lot", "coming", "going"] : List Str), [a, b, d]) := fun _ _ _ => rfl
  simp only [G_Row_init, g_Row_init, runD_ap, List.length_cons, List.length_nil, Nat.reduceAdd, Nat.reduceSub, List.map_cons, List.map_nil, List.replicate_succ, List.replicate_zero, List.cons_append, List.nil_append, seqM_ap, sq_nx, sq_rt, stiM_ap, bnd_ap, bo_ok, op2_ap, op2v_ap, op1_ap, cst_ap, lift_so, ret_ap, pek_ap, lett_ap, pekD, List.getElem?_cons_zero, List.getElem?_cons_succ, ix_l, ix50, ix51, ix52, ix53, ix54, isLst, lstUp, lstAt, lstPut, Option.map_some, add_ii, List.set_cons_zero, List.set_cons_succ, ifS_ap, andM_ap, tst_ap, eq_ii, lt_ii, gt_ii, ge_ii, len_l, asBl_b, bf_t, bf_f, bf_d, if_true, if_false, ite_true, ite_false, decide_true, decide_false, setM_ap, put_ap, skp_ap, rtM_ap, ri_rt, int_i, abs_i, ixN50, ixN51, ixN52, ixN53, ixN54, walkA_ap, isiM_ap, kwD_ap, newM_ap, ni_ok, ni_ex, fldV_ap, fldM_ap, asgM_ap, parM_ap, parM3_ap, tgN_ap, tgT2, tgT3, tgCons_ap, tgNil_ap, calM_ap, acons_ap, anil_ap, rb_ok, rb_ow, tupM_ap, lstM_ap, slM_ap, noP_ap, prt_ap, forM_ap, rngM1_ap, rngM2_ap, lcM_ap, andV_ap, notV_ap, orV_ap, ifM_ap, orM_ap, notM_ap, tru_ap, tru_b, chn_ap, seqA_l, seqA_t, seqA_f, seqA_s, len_t, len_f, opN_ap, met0_ap, met1_ap, metT_ap, apnM_ap, rtF_ap, ri_nx, ri_ro, sq_bk, sq_ct, sq_ro, mkT_ok, mkL_ok, List.length_append, List.length_singleton, asI, Wp_ok, nxt_nx, nxt_rt, nxt_bk, nxt_ct, trn_nx, trn_ct, trn_bk, trn_rt, ends_nx, ends_rt, ix_t, leA_ii, le_ii, sub_ii, Bool.not_true, Bool.not_false, Bool.false_eq_true, Bool.true_eq_false, eq_bb, ne_bb, eq_ss, ne_ss, raiM_ap, tryM_ap, tr_ok, tr_ex, rb_ex, bo_ex, sq_ex, ri_ex, kwA_ap, drp_ap, runI_ap, rin_nx, rin_ex, satM_ap, Nat.reduceLeDiff, Nat.zero_le, Nat.reduceMul, l, n1, s1, s2, s3, p1, p2, p3]
abbrev txB : Mo Fl := (ifS (tst (op2 eqQ (lett 2) (fldV ftT "coming" 0))) (apnM 1 (jM ((cst (.str "+")) :: ((op1 fmtD (lett 2)) :: [])) Str.empty)) (ifS (tst (op2 eqQ (lett 2) (fldV ftT "going" 0))) (apnM 1 (jM ((cst (.str "-")) :: ((op1 fmtD (lett 2)) :: [])) Str.empty)) (apnM 1 (op1 strD (pek 2)))))
theorem tx_loop {ks0 : List Int} {μ : Sto} (ks : List Int) : ∀ (ws : List Str) (e : Option Ent), (∀ k ∈ ks, 0 ≤ k ∧ k ≤ 999) → ws.length + ks.length ≤ 1000 →
    ∃ e', forL (tgN 2) txB (ks.map D.int) [some (.sh (rowD ks0)), some (.ow (.lst (txts ws))), e] μ = .ok .nx [some (.sh (rowD ks0)), some (.ow (.lst (txts (ws ++ ks.map fun k => (toString k : Str))))), e'] μ := by
  induction ks with
  | nil =>
    intro ws e _ _
    refine ⟨e, ?_⟩
    rw [List.map_nil, List.map_nil, List.append_nil]
    rfl
  | cons k ks ih =>
    intro ws e h hl
    rw [List.length_cons] at hl
    have hk := h k List.mem_cons_self
    have sk := (str_key (k := k) (by omega) (by omega)).1
    obtain ⟨e', q⟩ := ih (ws ++ [(toString k : Str)]) (some (.sh (.int k))) (fun x hx => h x (List.mem_cons_of_mem _ hx)) (by rw [List.length_append, List.length_singleton]; omega)
    refine ⟨e', ?_⟩
    have f1 : fldOf ftT "coming" "Row" rF (rV ks0) = some .non := rfl
    have f2 : fldOf ftT "going" "Row" rF (rV ks0) = some .non := rfl
    have en : eqQ (.int k) .non = some (.bl false) := rfl
    have io : ∀ μ : Sto, insOf (rowD ks0) μ = some (("Row" : Str), rF, rV ks0) := fun _ => rfl
    have tl : (txts ws).length < lineN := by unfold txts; rw [List.length_map]; exact Nat.lt_of_le_of_lt (m := 1000) (by omega) (by decide)
    have ap : txts ws ++ [D.str (toString k)] = txts (ws ++ [(toString k : Str)]) := by unfold txts; rw [List.map_append] <;> rfl
    rw [List.map_cons, forL_cons, List.map_cons]
    rw [List.append_assoc, List.singleton_append] at q
    rw [← q]
    simp only [runD_ap, List.length_cons, List.length_nil, Nat.reduceAdd, Nat.reduceSub, List.map_cons, List.map_nil, List.replicate_succ, List.replicate_zero, List.cons_append, List.nil_append, seqM_ap, sq_nx, sq_rt, stiM_ap, bnd_ap, bo_ok, op2_ap, op2v_ap, op1_ap, cst_ap, lift_so, ret_ap, pek_ap, lett_ap, pekD, List.getElem?_cons_zero, List.getElem?_cons_succ, ix_l, ix50, ix51, ix52, ix53, ix54, isLst, lstUp, lstAt, lstPut, Option.map_some, add_ii, List.set_cons_zero, List.set_cons_succ, ifS_ap, andM_ap, tst_ap, eq_ii, lt_ii, gt_ii, ge_ii, len_l, asBl_b, bf_t, bf_f, bf_d, if_true, if_false, ite_true, ite_false, decide_true, decide_false, setM_ap, put_ap, skp_ap, rtM_ap, ri_rt, int_i, abs_i, ixN50, ixN51, ixN52, ixN53, ixN54, walkA_ap, isiM_ap, kwD_ap, newM_ap, ni_ok, ni_ex, fldV_ap, fldM_ap, asgM_ap, parM_ap, parM3_ap, tgN_ap, tgT2, tgT3, tgCons_ap, tgNil_ap, calM_ap, acons_ap, anil_ap, rb_ok, rb_ow, tupM_ap, lstM_ap, slM_ap, noP_ap, prt_ap, forM_ap, rngM1_ap, rngM2_ap, lcM_ap, andV_ap, notV_ap, orV_ap, ifM_ap, orM_ap, notM_ap, tru_ap, tru_b, chn_ap, seqA_l, seqA_t, seqA_f, seqA_s, len_t, len_f, opN_ap, met0_ap, met1_ap, metT_ap, apnM_ap, rtF_ap, ri_nx, ri_ro, sq_bk, sq_ct, sq_ro, mkT_ok, mkL_ok, List.length_append, List.length_singleton, asI, Wp_ok, nxt_nx, nxt_rt, nxt_bk, nxt_ct, trn_nx, trn_ct, trn_bk, trn_rt, ends_nx, ends_rt, ix_t, leA_ii, le_ii, sub_ii, Bool.not_true, Bool.not_false, Bool.false_eq_true, Bool.true_eq_false, eq_bb, ne_bb, eq_ss, ne_ss, raiM_ap, tryM_ap, tr_ok, tr_ex, rb_ex, bo_ex, sq_ex, ri_ex, kwA_ap, drp_ap, runI_ap, rin_nx, rin_ex, satM_ap, Nat.reduceLeDiff, Nat.zero_le, Nat.reduceMul, io, f1, f2, en, sk, tl, ap, fo]
abbrev rowT (ks : List Int) : Str := Txt.join " " (ks.map fun k => (toString k : Str))
theorem sum_le {ks : List Int} (h : ∀ k ∈ ks, 0 ≤ k ∧ k ≤ 999) : ((ks.map fun k => (toString k : Str)).map fun x : Str => x.length).sum ≤ 13 * ks.length := by
  induction ks with
  | nil => exact Nat.le_refl 0
  | cons k ks ih =>
    have hk := h k List.mem_cons_self
    have := (str_key (k := k) (by omega) (by omega)).2.2
    have := ih fun x hx => h x (List.mem_cons_of_mem _ hx)
    rw [List.map_cons, List.map_cons, List.sum_cons, List.length_cons]
    omega
theorem row_text {ks : List Int} {μ : Sto} (h : ∀ k ∈ ks, 0 ≤ k ∧ k ≤ 999) (hl : ks.length ≤ 500) : G_Row_text [rowD ks] μ = .ok (.str (rowT ks)) μ := by
  obtain ⟨e', q⟩ := tx_loop (ks0 := ks) (μ := μ) ks [] none h (by rw [List.length_nil]; omega)
  have f1 : fldOf ftT "lot" "Row" rF (rV ks) = some (.tup (ks.map D.int)) := rfl
  have io : ∀ μ : Sto, insOf (rowD ks) μ = some (("Row" : Str), rF, rV ks) := fun _ => rfl
  have t0 : txts [] = [] := rfl
  rw [List.nil_append, t0] at q
  have sm := sum_le h
  have is : isStr (.str " ") = some () := rfl
  have j : joinD (.str " ") [.lst (txts (ks.map fun k => (toString k : Str)))] = some (.str (rowT ks)) := by
    show (match strsOf (txts (ks.map fun k => (toString k : Str))) with
      | some ys => if (ys.map fun x : Str => x.length).sum + ys.length * (" " : Str).length ≤ 16777216 then some (D.str (Txt.join " " ys)) else none
      | none => none) = _
    rw [strsOf_strs]
    show (if _ then _ else _) = _
    rw [if_pos (by rw [List.length_map]; show _ + _ * 1 ≤ _; omega)]
  simp only [G_Row_text, g_Row_text, runD_ap, List.length_cons, List.length_nil, Nat.reduceAdd, Nat.reduceSub, List.map_cons, List.map_nil, List.replicate_succ, List.replicate_zero, List.cons_append, List.nil_append, seqM_ap, sq_nx, sq_rt, stiM_ap, bnd_ap, bo_ok, op2_ap, op2v_ap, op1_ap, cst_ap, lift_so, ret_ap, pek_ap, lett_ap, pekD, List.getElem?_cons_zero, List.getElem?_cons_succ, ix_l, ix50, ix51, ix52, ix53, ix54, isLst, lstUp, lstAt, lstPut, Option.map_some, add_ii, List.set_cons_zero, List.set_cons_succ, ifS_ap, andM_ap, tst_ap, eq_ii, lt_ii, gt_ii, ge_ii, len_l, asBl_b, bf_t, bf_f, bf_d, if_true, if_false, ite_true, ite_false, decide_true, decide_false, setM_ap, put_ap, skp_ap, rtM_ap, ri_rt, int_i, abs_i, ixN50, ixN51, ixN52, ixN53, ixN54, walkA_ap, isiM_ap, kwD_ap, newM_ap, ni_ok, ni_ex, fldV_ap, fldM_ap, asgM_ap, parM_ap, parM3_ap, tgN_ap, tgT2, tgT3, tgCons_ap, tgNil_ap, calM_ap, acons_ap, anil_ap, rb_ok, rb_ow, tupM_ap, lstM_ap, slM_ap, noP_ap, prt_ap, forM_ap, rngM1_ap, rngM2_ap, lcM_ap, andV_ap, notV_ap, orV_ap, ifM_ap, orM_ap, notM_ap, tru_ap, tru_b, chn_ap, seqA_l, seqA_t, seqA_f, seqA_s, len_t, len_f, opN_ap, met0_ap, met1_ap, metT_ap, apnM_ap, rtF_ap, ri_nx, ri_ro, sq_bk, sq_ct, sq_ro, mkT_ok, mkL_ok, List.length_append, List.length_singleton, asI, Wp_ok, nxt_nx, nxt_rt, nxt_bk, nxt_ct, trn_nx, trn_ct, trn_bk, trn_rt, ends_nx, ends_rt, ix_t, leA_ii, le_ii, sub_ii, Bool.not_true, Bool.not_false, Bool.false_eq_true, Bool.true_eq_false, eq_bb, ne_bb, eq_ss, ne_ss, raiM_ap, tryM_ap, tr_ok, tr_ex, rb_ex, bo_ex, sq_ex, ri_ex, kwA_ap, drp_ap, runI_ap, rin_nx, rin_ex, satM_ap, Nat.reduceLeDiff, Nat.zero_le, Nat.reduceMul, setF_ap, io, f1, q, is, j]
theorem rowT_len {ks : List Int} (h : ∀ k ∈ ks, 0 ≤ k ∧ k ≤ 999) (hl : ks.length ≤ 500) : (rowT ks).length ≤ 7500 := by
  have e : rowT ks = Str.join " " (ks.map fun k => (toString k : Str)) := PySem.StrLaws.glued_eq_join _ _
  have q := StrLaws.join_length_le " " (ks.map fun k => (toString k : Str))
  have sm := sum_le h
  rw [e]
  rw [List.length_map] at q
  have l1 : (" " : Str).length = 1 := rfl
  rw [l1] at q
  omega
theorem row_repr {ks : List Int} {μ : Sto} (h : ∀ k ∈ ks, 0 ≤ k ∧ k ≤ 999) (hl : ks.length ≤ 500) : ∃ t, ∀ μ : Sto, G_Row_repr [rowD ks] μ = .ok (.str t) μ := by
  refine ⟨Str.empty ++ "Row(" ++ rowT ks ++ ")", fun μ => ?_⟩
  have x := row_text (μ := μ) h hl
  have tl := rowT_len h hl
  have io : ∀ μ : Sto, insOf (rowD ks) μ = some (("Row" : Str), rF, rV ks) := fun _ => rfl
  have mt : (("text" : Str) ∈ rF) = False := eq_false (by decide +kernel)
  have fm : fmtD (.str (rowT ks)) = some (.str (rowT ks)) := if_pos (Nat.le_trans tl (by decide))
  have al : ∀ s t : Str, (s ++ t).length = s.length + t.length := fun s t => by rw [← len_cps, Str.cps_append, Array.toList_append, List.length_append, len_cps, len_cps]
  have l0 : (Str.empty ++ "Row(" : Str).length ≤ lineN := by decide +kernel
  have l1 : (Str.empty ++ "Row(" ++ rowT ks : Str).length ≤ lineN := by
    rw [al]
    have : (Str.empty ++ "Row(" : Str).length = 4 := rfl
    rw [this]
    show _ ≤ 16777216
    omega
  have l2 : (Str.empty ++ "Row(" ++ rowT ks ++ ")" : Str).length ≤ lineN := by
    rw [al, al]
    have : (Str.empty ++ "Row(" : Str).length = 4 := rfl
    rw [this]
    have : (")" : Str).length = 1 := rfl
    rw [this]
    show _ ≤ 16777216
    omega
  have pk0 : pick ([] : List Nat) ([] : List D) = [] := rfl
  simp only [G_Row_repr, g_Row_repr, runD_ap, List.length_cons, List.length_nil, Nat.reduceAdd, Nat.reduceSub, List.map_cons, List.map_nil, List.replicate_succ, List.replicate_zero, List.cons_append, List.nil_append, seqM_ap, sq_nx, sq_rt, stiM_ap, bnd_ap, bo_ok, op2_ap, op2v_ap, op1_ap, cst_ap, lift_so, ret_ap, pek_ap, lett_ap, pekD, List.getElem?_cons_zero, List.getElem?_cons_succ, ix_l, ix50, ix51, ix52, ix53, ix54, isLst, lstUp, lstAt, lstPut, Option.map_some, add_ii, List.set_cons_zero, List.set_cons_succ, ifS_ap, andM_ap, tst_ap, eq_ii, lt_ii, gt_ii, ge_ii, len_l, asBl_b, bf_t, bf_f, bf_d, if_true, if_false, ite_true, ite_false, decide_true, decide_false, setM_ap, put_ap, skp_ap, rtM_ap, ri_rt, int_i, abs_i, ixN50, ixN51, ixN52, ixN53, ixN54, walkA_ap, isiM_ap, kwD_ap, newM_ap, ni_ok, ni_ex, fldV_ap, fldM_ap, asgM_ap, parM_ap, parM3_ap, tgN_ap, tgT2, tgT3, tgCons_ap, tgNil_ap, calM_ap, acons_ap, anil_ap, rb_ok, rb_ow, tupM_ap, lstM_ap, slM_ap, noP_ap, prt_ap, forM_ap, rngM1_ap, rngM2_ap, lcM_ap, andV_ap, notV_ap, orV_ap, ifM_ap, orM_ap, notM_ap, tru_ap, tru_b, chn_ap, seqA_l, seqA_t, seqA_f, seqA_s, len_t, len_f, opN_ap, met0_ap, met1_ap, metT_ap, apnM_ap, rtF_ap, ri_nx, ri_ro, sq_bk, sq_ct, sq_ro, mkT_ok, mkL_ok, List.length_append, List.length_singleton, asI, Wp_ok, nxt_nx, nxt_rt, nxt_bk, nxt_ct, trn_nx, trn_ct, trn_bk, trn_rt, ends_nx, ends_rt, ix_t, leA_ii, le_ii, sub_ii, Bool.not_true, Bool.not_false, Bool.false_eq_true, Bool.true_eq_false, eq_bb, ne_bb, eq_ss, ne_ss, raiM_ap, tryM_ap, tr_ok, tr_ex, rb_ex, bo_ex, sq_ex, ri_ex, kwA_ap, drp_ap, runI_ap, rin_nx, rin_ex, satM_ap, Nat.reduceLeDiff, Nat.zero_le, Nat.reduceMul, jM_cons, jM_nil, mthM_ap, io, mt, not_false_eq_true, pk0, and_self, x, fm, l0, l1, l2]
end L2.DL.K02

namespace L2.DL.K02
open PySem PySem.Spec PyProof.Rows
/-! ### a key set bent at one place, or another value -/
/-- the text that repr gives -/
def reprO (v : D) (ρ : Env) (μ : Sto) : O D := match insOf v μ with
  | some (c, _, _) => (match ([("Row", G_Row_repr)] : ST).lookup c with
    | some G => strR (G [v] μ) ρ
    | none => .no)
  | none => lift (reprN v) ρ μ
structure Vv (v : D) : Prop where
  pv : Pv v
  ln : ∀ ds, v = .tup ds → ds.length ≤ 1000
  rp : ∃ t, ∀ ρ μ, reprO v ρ μ = .ok (.str t) ρ μ
theorem Gw.vv {n w : Nat} {v : D} (h : Gw n w v) (hn : n ≤ 60) (hw : w ≤ 200000) : Vv v := by
  obtain ⟨t, ht⟩ := sz_repr (h.sz.mono hw hn)
  obtain ⟨p, hp, _⟩ := h.sz
  have io : ∀ μ : Sto, insOf v μ = none := fun μ => by
    cases v <;> first | rfl | cases hp
  refine ⟨h.pv, fun ds e => ?_, t, fun ρ μ => ?_⟩
  · subst e
    cases h.sm with
    | tup _ hl _ => exact hl
  · unfold reprO
    rw [io]
    show lift (reprN v) ρ μ = _
    rw [ht] <;> rfl
theorem vv_row {ks : List Int} (h : ∀ k ∈ ks, 0 ≤ k ∧ k ≤ 999) (hl : ks.length ≤ 500) : Vv (rowD ks) := by
  obtain ⟨t, ht⟩ := row_repr (μ := []) h hl
  refine ⟨.row _ _, (fun ds e => by cases e), t, fun ρ μ => ?_⟩
  show strR (G_Row_repr [rowD ks] μ) ρ = _
  rw [ht μ]
  rfl
theorem sl_t {xs : List D} {lo hi : OI} : slD (.tup xs) lo hi = some (.tup (cutD xs lo hi)) := rfl
theorem cut_mem' {xs : List D} {lo hi : OI} {d : D} (h : d ∈ cutD xs lo hi) : d ∈ xs := List.mem_of_mem_drop (List.mem_of_mem_take h)
theorem cut_len' {xs : List D} {lo hi : OI} : (cutD xs lo hi).length ≤ xs.length := by
  unfold cutD
  rw [List.length_take, List.length_drop]
  omega
theorem rev_t {xs : List D} : revA (.tup xs) = some (.tup xs.reverse) := rfl
theorem list_t {xs : List D} : listD (.tup xs) = some (.lst xs) := rfl
abbrev tA (X C E F : List D) (o p : D) : List D := [.tup X, .tup X, .tup (C ++ [o] ++ E), .tup (C ++ [o] ++ F), .tup (X ++ [o]), .tup (C ++ [p] ++ F), .tup (C ++ E)]
abbrev tB (X C E F : List D) (p : Int) : List D := [.tup X.reverse, .lst X, .tup (F ++ C), .tup (X ++ X), .tup [.tup X], .tup (C ++ [.str (toString p)] ++ E), .tup (C ++ [.lst [.int p]] ++ E), .dct [.inl p] [.int 1]]
abbrev tC (ks : List Int) (C E : List D) (p : Int) : List D := [.tup (C ++ [.bl true] ++ E), .tup (C ++ [.non] ++ E), rowD ks, .str (toString p)]
abbrev t0 (o : D) : List D := [.tup [], .lst [], .tup [o], .lst [o], o, .dct [] [], .tup [.tup []]]
theorem tup_run0 {o v : D} {μ μ1 μ2 : Sto} (x1 : G_lnumber [.cell 0] μ = .ok o μ1) (x2 : G_lof [.cell 0, .lst (t0 o)] μ1 = .ok v μ2) : G_ltuple [.cell 0, .tup []] μ = .ok v μ2 := by
  have en : eqQ (.tup []) (.tup []) = some (.bl true) := eq_tn rfl
  simp only [G_ltuple, g_ltuple, runD_ap, List.length_cons, List.length_nil, Nat.reduceAdd, Nat.reduceSub, List.map_cons, List.map_nil, List.replicate_succ, List.replicate_zero, List.cons_append, List.nil_append, seqM_ap, sq_nx, sq_rt, stiM_ap, bnd_ap, bo_ok, op2_ap, op2v_ap, op1_ap, cst_ap, lift_so, ret_ap, pek_ap, lett_ap, pekD, List.getElem?_cons_zero, List.getElem?_cons_succ, ix_l, ix50, ix51, ix52, ix53, ix54, isLst, lstUp, lstAt, lstPut, Option.map_some, add_ii, List.set_cons_zero, List.set_cons_succ, ifS_ap, andM_ap, tst_ap, eq_ii, lt_ii, gt_ii, ge_ii, len_l, asBl_b, bf_t, bf_f, bf_d, if_true, if_false, ite_true, ite_false, decide_true, decide_false, setM_ap, put_ap, skp_ap, rtM_ap, ri_rt, int_i, abs_i, ixN50, ixN51, ixN52, ixN53, ixN54, walkA_ap, isiM_ap, kwD_ap, newM_ap, ni_ok, ni_ex, fldV_ap, fldM_ap, asgM_ap, parM_ap, parM3_ap, tgN_ap, tgT2, tgT3, tgCons_ap, tgNil_ap, calM_ap, acons_ap, anil_ap, rb_ok, rb_ow, tupM_ap, lstM_ap, slM_ap, noP_ap, prt_ap, forM_ap, rngM1_ap, rngM2_ap, lcM_ap, andV_ap, notV_ap, orV_ap, ifM_ap, orM_ap, notM_ap, tru_ap, tru_b, chn_ap, seqA_l, seqA_t, seqA_f, seqA_s, len_t, len_f, opN_ap, met0_ap, met1_ap, metT_ap, apnM_ap, rtF_ap, ri_nx, ri_ro, sq_bk, sq_ct, sq_ro, mkT_ok, mkL_ok, List.length_append, List.length_singleton, asI, Wp_ok, nxt_nx, nxt_rt, nxt_bk, nxt_ct, trn_nx, trn_ct, trn_bk, trn_rt, ends_nx, ends_rt, ix_t, leA_ii, le_ii, sub_ii, Bool.not_true, Bool.not_false, Bool.false_eq_true, Bool.true_eq_false, eq_bb, ne_bb, eq_ss, ne_ss, raiM_ap, tryM_ap, tr_ok, tr_ex, rb_ex, bo_ex, sq_ex, ri_ex, kwA_ap, drp_ap, runI_ap, rin_nx, rin_ex, satM_ap, Nat.reduceLeDiff, Nat.zero_le, Nat.reduceMul, x1, en, newD_ap, x2]
theorem tup_run {ks : List Int} {X C E F : List D} {o v : D} {n p : Int} {μ μ1 μ2 μ3 μ4 : Sto} (hX : X = ks.map D.int) (h : KS ks) (h0 : ks ≠ []) (x1 : G_lnumber [.cell 0] μ = .ok o μ1) (x2 : G_ldraw [.cell 0, .int X.length] μ1 = .ok (.int n) μ2) (x3 : G_lof [.cell 0, .tup X] μ2 = .ok (.int p) μ3)
    (sC : slD (.tup X) none (some n) = some (.tup C)) (sE : slD (.tup X) (some (n + 1)) none = some (.tup E)) (sF : slD (.tup X) (some n) none = some (.tup F)) (sp : strD (.int p) = some (.str (toString p)))
    (lX : X.length ≤ 200) (lC : C.length ≤ 200) (lE : E.length ≤ 200) (lF : F.length ≤ 200) (x4 : G_lof [.cell 0, .lst (tA X C E F o (.int p) ++ tB X C E F p ++ tC ks C E p)] μ3 = .ok v μ4) : G_ltuple [.cell 0, .tup X] μ = .ok v μ4 := by
  have en : eqQ (.tup X) (.tup []) = some (.bl false) := by
    rw [hX, eq_tn (flat_int ks), List.isEmpty_map]
    cases ks with
    | nil => exact (h0 rfl).elim
    | cons _ _ => rfl
  have ad : ∀ s t : List D, s.length ≤ 500 → t.length ≤ 500 → addD (.tup s) (.tup t) = some (.tup (s ++ t)) := fun s t h1 h2 => add_tt (by omega)
  have one : ∀ (s : List D) (d : D), s.length ≤ 200 → (s ++ [d]).length ≤ 500 := fun s d hs => by rw [List.length_append, List.length_singleton]; omega
  have a1 : ∀ d : D, addD (.tup C) (.tup [d]) = some (.tup (C ++ [d])) := fun d => ad _ _ (by omega) (by rw [List.length_singleton]; omega)
  have a2 : ∀ d : D, addD (.tup (C ++ [d])) (.tup E) = some (.tup (C ++ [d] ++ E)) := fun d => ad _ _ (one _ _ lC) (by omega)
  have a3 : ∀ d : D, addD (.tup (C ++ [d])) (.tup F) = some (.tup (C ++ [d] ++ F)) := fun d => ad _ _ (one _ _ lC) (by omega)
  have a4 : addD (.tup X) (.tup [o]) = some (.tup (X ++ [o])) := ad _ _ (by omega) (by rw [List.length_singleton]; omega)
  have a5 : addD (.tup C) (.tup E) = some (.tup (C ++ E)) := ad _ _ (by omega) (by omega)
  have a6 : addD (.tup F) (.tup C) = some (.tup (F ++ C)) := ad _ _ (by omega) (by omega)
  have a7 : addD (.tup X) (.tup X) = some (.tup (X ++ X)) := ad _ _ (by omega) (by omega)
  have kd : keyD (.int p) = some (.inl p) := rfl
  have nd : (([Sum.inl p] : List Key).Nodup) := List.nodup_cons.mpr ⟨List.not_mem_nil, List.nodup_nil⟩
  have rw0 : G_Row_init [.tup X, .non, .non] μ3 = .ok rF (rV ks) μ3 := by rw [hX]; exact row_init h h0
  have pk0 : pick [0, 1, 2] [D.tup X, .non, .non] = [D.tup X, .non, .non] := rfl
  have l1 : addD (.lst (tA X C E F o (.int p))) (.lst (tB X C E F p)) = some (.lst (tA X C E F o (.int p) ++ tB X C E F p)) := add_ll (by show (7 + 8 : Nat) ≤ 1000000; decide)
  have l2 : addD (.lst (tA X C E F o (.int p) ++ tB X C E F p)) (.lst (tC ks C E p)) = some (.lst (tA X C E F o (.int p) ++ tB X C E F p ++ tC ks C E p)) := add_ll (by show (15 + 4 : Nat) ≤ 1000000; decide)
  obtain ⟨m2, hm2⟩ : ∃ m, tA X C E F o (.int p) ++ tB X C E F p ++ tC ks C E p = m := ⟨_, rfl⟩
  rw [hm2] at l2 x4
  obtain ⟨m1, hm1⟩ : ∃ m, tA X C E F o (.int p) ++ tB X C E F p = m := ⟨_, rfl⟩
  rw [hm1] at l1 l2
  simp only [G_ltuple, g_ltuple, runD_ap, List.length_cons, List.length_nil, Nat.reduceAdd, Nat.reduceSub, List.map_cons, List.map_nil, List.replicate_succ, List.replicate_zero, List.cons_append, List.nil_append, seqM_ap, sq_nx, sq_rt, stiM_ap, bnd_ap, bo_ok, op2_ap, op2v_ap, op1_ap, cst_ap, lift_so, ret_ap, pek_ap, lett_ap, pekD, List.getElem?_cons_zero, List.getElem?_cons_succ, ix_l, ix50, ix51, ix52, ix53, ix54, isLst, lstUp, lstAt, lstPut, Option.map_some, add_ii, List.set_cons_zero, List.set_cons_succ, ifS_ap, andM_ap, tst_ap, eq_ii, lt_ii, gt_ii, ge_ii, len_l, asBl_b, bf_t, bf_f, bf_d, if_true, if_false, ite_true, ite_false, decide_true, decide_false, setM_ap, put_ap, skp_ap, rtM_ap, ri_rt, int_i, abs_i, ixN50, ixN51, ixN52, ixN53, ixN54, walkA_ap, isiM_ap, kwD_ap, newM_ap, ni_ok, ni_ex, fldV_ap, fldM_ap, asgM_ap, parM_ap, parM3_ap, tgN_ap, tgT2, tgT3, tgCons_ap, tgNil_ap, calM_ap, acons_ap, anil_ap, rb_ok, rb_ow, tupM_ap, lstM_ap, slM_ap, noP_ap, prt_ap, forM_ap, rngM1_ap, rngM2_ap, lcM_ap, andV_ap, notV_ap, orV_ap, ifM_ap, orM_ap, notM_ap, tru_ap, tru_b, chn_ap, seqA_l, seqA_t, seqA_f, seqA_s, len_t, len_f, opN_ap, met0_ap, met1_ap, metT_ap, apnM_ap, rtF_ap, ri_nx, ri_ro, sq_bk, sq_ct, sq_ro, mkT_ok, mkL_ok, List.length_append, List.length_singleton, asI, Wp_ok, nxt_nx, nxt_rt, nxt_bk, nxt_ct, trn_nx, trn_ct, trn_bk, trn_rt, ends_nx, ends_rt, ix_t, leA_ii, le_ii, sub_ii, Bool.not_true, Bool.not_false, Bool.false_eq_true, Bool.true_eq_false, eq_bb, ne_bb, eq_ss, ne_ss, raiM_ap, tryM_ap, tr_ok, tr_ex, rb_ex, bo_ex, sq_ex, ri_ex, kwA_ap, drp_ap, runI_ap, rin_nx, rin_ex, satM_ap, Nat.reduceLeDiff, Nat.zero_le, Nat.reduceMul, x1, en, x2, x3, sC, sE, sF, sp, a1, a2, a3, a4, a5, a6, a7, rev_t, list_t, dspM_ap, prsM_cons, prsM_nil, kd, nd, and_self, pk0, rw0, l1, l2, x4]
theorem vt {ds : List D} (h : ∀ d ∈ ds, Gw 2 200 d) (hl : ds.length ≤ 500) : Vv (.tup ds) := (gw_tup (W := 110000) h (by omega) (by omega)).vv (by decide) (by decide)
theorem tup_ok {n : Int} {μ : Sto} {ks : List Int} (B : Bag n μ) (hn : n < 800000) (h : KS ks) (hl : ks.length ≤ 100) : ∃ v μ', G_ltuple [.cell 0, .tup (ks.map D.int)] μ = .ok v μ' ∧ Vv v ∧ Bag (n + 6) μ' := by
  obtain ⟨o, μ1, x1, go, B1⟩ := num_ok B (by omega)
  have go2 : Gw 2 200 o := go.mono (by decide) (by decide)
  by_cases h0 : ks = []
  · subst h0
    obtain ⟨v, μ2, hv, x2, B2⟩ := of_lst (ds := t0 o) B1 (by omega) (by show (0 : Nat) < 7; decide) (by show (7 : Nat) ≤ 1000; decide)
    refine ⟨v, μ2, tup_run0 x1 x2, ?_, B2.up (by omega)⟩
    have e : Gw 1 50 (.tup []) := gw_tup (n := 0) (w := 50) (W := 50) (fun d hd => by cases hd) (by decide) (by decide)
    simp only [List.mem_cons, List.not_mem_nil, or_false] at hv
    rcases hv with rfl | rfl | rfl | rfl | rfl | rfl | rfl
    · exact e.vv (by decide) (by decide)
    · exact (gw_lst (n := 1) (w := 50) (W := 50) (fun d hd => by cases hd) (by decide) (by decide)).vv (by decide) (by decide)
    · exact (gw_one go).vv (by decide) (by decide)
    · exact (gw_oneL go).vv (by decide) (by decide)
    · exact go.vv (by decide) (by decide)
    · exact gw_dct0.vv (by decide) (by decide)
    · exact (gw_one e).vv (by decide) (by decide)
  · have lp := List.length_pos_iff.mpr h0
    obtain ⟨X, hX⟩ : ∃ X, X = ks.map D.int := ⟨_, rfl⟩
    have lX : X.length = ks.length := by rw [hX, List.length_map]
    have gX : ∀ d ∈ X, Gw 2 200 d := fun d hd => (gw_keys h.2 d (hX ▸ hd)).mono (by decide) (by decide)
    obtain ⟨i, μ2, x2, i0, i1, B2⟩ := draw_ok (top := X.length) B1 (by omega) (by omega) (lg (by omega) (by omega))
    obtain ⟨p, μ3, hp, x3, B3⟩ := of_tup (ds := X) B2 (by omega) (by omega) (by omega)
    obtain ⟨p, hpk, rfl⟩ : ∃ k, k ∈ ks ∧ p = .int k := by
      rw [hX] at hp
      obtain ⟨k, a, b⟩ := List.mem_map.mp hp
      exact ⟨k, a, b.symm⟩
    have kp := h.2 p hpk
    obtain ⟨sp, sk, sl⟩ := str_key (k := p) (by omega) (by omega)
    have cut : ∀ lo hi : OI, ∃ C, slD (.tup X) lo hi = some (.tup C) ∧ C.length ≤ ks.length ∧ ∀ d ∈ C, Gw 2 200 d := fun lo hi => ⟨_, rfl, by rw [← lX]; exact cut_len', fun d hd => gX d (cut_mem' hd)⟩
    obtain ⟨C, sC, lC, gC⟩ := cut none (some i)
    obtain ⟨E, sE, lE, gE⟩ := cut (some (i + 1)) none
    obtain ⟨F, sF, lF, gF⟩ := cut (some i) none
    obtain ⟨v, μ4, hv, x4, B4⟩ := of_lst (ds := tA X C E F o (.int p) ++ tB X C E F p ++ tC ks C E p) B3 (by omega) (by show (0 : Nat) < 19; decide) (by show (19 : Nat) ≤ 1000; decide)
    have run := tup_run hX h h0 x1 x2 x3 sC sE sF sp (by omega) (by omega) (by omega) (by omega) x4
    rw [hX] at run
    refine ⟨v, μ4, run, ?_, B4.up (by omega)⟩
    have gs : Gw 1 50 (.str (toString p)) := gw_str sk (by omega)
    have gi : Gw 1 50 (.int p) := gw_int (by omega) (by omega)
    have mid : ∀ (d : D) (G : List D), Gw 2 200 d → G.length ≤ ks.length → (∀ x ∈ G, Gw 2 200 x) → Vv (.tup (C ++ [d] ++ G)) := fun d G gd lG gG => vt (fun x hx => by
      rcases List.mem_append.mp hx with z | z
      · rcases List.mem_append.mp z with z | z
        · exact gC x z
        · rw [List.mem_singleton.mp z]; exact gd
      · exact gG x z) (by rw [List.length_append, List.length_append, List.length_singleton]; omega)
    have two : ∀ (G H : List D), G.length ≤ ks.length → (∀ x ∈ G, Gw 2 200 x) → H.length ≤ ks.length → (∀ x ∈ H, Gw 2 200 x) → Vv (.tup (G ++ H)) := fun G H lG gG lH gH => vt (fun x hx => (List.mem_append.mp hx).elim (gG x) (gH x)) (by rw [List.length_append]; omega)
    have all : Vv (.tup X) := vt gX (by omega)
    rcases List.mem_append.mp hv with hv | hv
    · rcases List.mem_append.mp hv with hv | hv
      · simp only [tA, List.mem_cons, List.not_mem_nil, or_false] at hv
        rcases hv with rfl | rfl | rfl | rfl | rfl | rfl | rfl
        · exact all
        · exact all
        · exact mid o E go2 lE gE
        · exact mid o F go2 lF gF
        · exact vt (fun x hx => (List.mem_append.mp hx).elim (gX x) fun z => by rw [List.mem_singleton.mp z]; exact go2) (by rw [List.length_append, List.length_singleton]; omega)
        · exact mid (.int p) F (gi.mono (by decide) (by decide)) lF gF
        · exact two C E lC gC lE gE
      · simp only [tB, List.mem_cons, List.not_mem_nil, or_false] at hv
        rcases hv with rfl | rfl | rfl | rfl | rfl | rfl | rfl | rfl
        · exact vt (fun x hx => gX x (List.mem_reverse.mp hx)) (by rw [List.length_reverse]; omega)
        · exact (gw_lst (W := 110000) gX (by omega) (by omega)).vv (by decide) (by decide)
        · exact two F C lF gF lC gC
        · exact two X X (by omega) gX (by omega) gX
        · exact (gw_one (gw_tup (W := 110000) gX (by omega) (by omega))).vv (by decide) (by decide)
        · exact mid _ E (gs.mono (by decide) (by decide)) lE gE
        · exact mid _ E ((gw_oneL gi).mono (by decide) (by decide)) lE gE
        · exact (gw_dct1 (by omega) (by omega)).vv (by decide) (by decide)
    · simp only [tC, List.mem_cons, List.not_mem_nil, or_false] at hv
      rcases hv with rfl | rfl | rfl | rfl
      · exact mid _ E ((gw_bl true).mono (by decide) (by decide)) lE gE
      · exact mid _ E (gw_non.mono (by decide) (by decide)) lE gE
      · exact vv_row h.2 (by omega)
      · exact gs.vv (by decide) (by decide)
end L2.DL.K02

namespace L2.DL.K02
open PySem PySem.Spec PyProof.Rows
/-! ### stretches and neighbours -/
theorem fo_nx {gt : D → Mo Unit} {b : Mo Fl} {ds : List D} {ρ : Env} {μ : Sto} : fo (.ok .nx ρ μ) gt b ds = forL gt b ds ρ μ := rfl
theorem fo_rt {gt : D → Mo Unit} {b : Mo Fl} {ds : List D} {ρ : Env} {μ : Sto} {d : D} : fo (.ok (.rt d) ρ μ) gt b ds = .ok (.rt d) ρ μ := rfl
theorem fo_ex {gt : D → Mo Unit} {b : Mo Fl} {ds : List D} {ρ : Env} {μ : Sto} {c : Str} {ns : List Str} {vs : List D} : fo (.ex c ns vs ρ μ) gt b ds = .ex c ns vs ρ μ := rfl
/-- not a key of the set -/
def Wr (X : List D) (v : D) : Prop := isKey v = false ∨ (isKey v = true ∧ ninD v (.tup X) = some (.bl true))
def Gd (X : List D) (v : D) : Prop := isKey v = true ∧ ninD v (.tup X) = some (.bl false)
theorem isKey_int {v : D} (h : isKey v = true) : ∃ k : Int, v = .int k ∧ 0 ≤ k ∧ k ≤ 999 := by
  cases v with
  | int k =>
    simp only [isKey, Bool.and_eq_true, decide_eq_true_eq] at h
    exact ⟨k, rfl, h.1, h.2⟩
  | _ => cases h
theorem wr_gd {ks : List Int} (v : D) : Wr (ks.map D.int) v ∨ ∃ k : Int, v = .int k ∧ 0 ≤ k ∧ k ≤ 999 ∧ k ∈ ks ∧ Gd (ks.map D.int) v := by
  cases e : isKey v with
  | false => exact .inl (.inl e)
  | true =>
    obtain ⟨k, rfl, k0, k1⟩ := isKey_int e
    by_cases h : k ∈ ks
    · exact .inr ⟨k, rfl, k0, k1, h, e, by rw [nin_ints, decide_eq_true h]; rfl⟩
    · exact .inl (.inr ⟨e, by rw [nin_ints, decide_eq_false h]; rfl⟩)
theorem due_1 {X : List D} {p q : D} {μ : Sto} (hp : Pv p) (h : Wr X p) : G_lstretch_due [.tup X, p, q] μ = .ok (.tup [.str "UnknownKey", p]) μ := by
  have x1 := lkey_ok (μ := μ) hp
  rcases h with h | ⟨h, n⟩
  · rw [h] at x1
    simp only [G_lstretch_due, g_lstretch_due, runD_ap, List.length_cons, List.length_nil, Nat.reduceAdd, Nat.reduceSub, List.map_cons, List.map_nil, List.replicate_succ, List.replicate_zero, List.cons_append, List.nil_append, seqM_ap, sq_nx, sq_rt, stiM_ap, bnd_ap, bo_ok, op2_ap, op2v_ap, op1_ap, cst_ap, lift_so, ret_ap, pek_ap, lett_ap, pekD, List.getElem?_cons_zero, List.getElem?_cons_succ, ix_l, ix50, ix51, ix52, ix53, ix54, isLst, lstUp, lstAt, lstPut, Option.map_some, add_ii, List.set_cons_zero, List.set_cons_succ, ifS_ap, andM_ap, tst_ap, eq_ii, lt_ii, gt_ii, ge_ii, len_l, asBl_b, bf_t, bf_f, bf_d, if_true, if_false, ite_true, ite_false, decide_true, decide_false, setM_ap, put_ap, skp_ap, rtM_ap, ri_rt, int_i, abs_i, ixN50, ixN51, ixN52, ixN53, ixN54, walkA_ap, isiM_ap, kwD_ap, newM_ap, ni_ok, ni_ex, fldV_ap, fldM_ap, asgM_ap, parM_ap, parM3_ap, tgN_ap, tgT2, tgT3, tgCons_ap, tgNil_ap, calM_ap, acons_ap, anil_ap, rb_ok, rb_ow, tupM_ap, lstM_ap, slM_ap, noP_ap, prt_ap, forM_ap, rngM1_ap, rngM2_ap, lcM_ap, andV_ap, notV_ap, orV_ap, ifM_ap, orM_ap, notM_ap, tru_ap, tru_b, chn_ap, seqA_l, seqA_t, seqA_f, seqA_s, len_t, len_f, opN_ap, met0_ap, met1_ap, metT_ap, apnM_ap, rtF_ap, ri_nx, ri_ro, sq_bk, sq_ct, sq_ro, mkT_ok, mkL_ok, List.length_append, List.length_singleton, asI, Wp_ok, nxt_nx, nxt_rt, nxt_bk, nxt_ct, trn_nx, trn_ct, trn_bk, trn_rt, ends_nx, ends_rt, ix_t, leA_ii, le_ii, sub_ii, Bool.not_true, Bool.not_false, Bool.false_eq_true, Bool.true_eq_false, eq_bb, ne_bb, eq_ss, ne_ss, raiM_ap, tryM_ap, tr_ok, tr_ex, rb_ex, bo_ex, sq_ex, ri_ex, kwA_ap, drp_ap, runI_ap, rin_nx, rin_ex, satM_ap, Nat.reduceLeDiff, Nat.zero_le, Nat.reduceMul, forL_cons, forL_nil, fo_nx, fo_rt, fo_ex, x1, h]
  · rw [h] at x1
    simp only [G_lstretch_due, g_lstretch_due, runD_ap, List.length_cons, List.length_nil, Nat.reduceAdd, Nat.reduceSub, List.map_cons, List.map_nil, List.replicate_succ, List.replicate_zero, List.cons_append, List.nil_append, seqM_ap, sq_nx, sq_rt, stiM_ap, bnd_ap, bo_ok, op2_ap, op2v_ap, op1_ap, cst_ap, lift_so, ret_ap, pek_ap, lett_ap, pekD, List.getElem?_cons_zero, List.getElem?_cons_succ, ix_l, ix50, ix51, ix52, ix53, ix54, isLst, lstUp, lstAt, lstPut, Option.map_some, add_ii, List.set_cons_zero, List.set_cons_succ, ifS_ap, andM_ap, tst_ap, eq_ii, lt_ii, gt_ii, ge_ii, len_l, asBl_b, bf_t, bf_f, bf_d, if_true, if_false, ite_true, ite_false, decide_true, decide_false, setM_ap, put_ap, skp_ap, rtM_ap, ri_rt, int_i, abs_i, ixN50, ixN51, ixN52, ixN53, ixN54, walkA_ap, isiM_ap, kwD_ap, newM_ap, ni_ok, ni_ex, fldV_ap, fldM_ap, asgM_ap, parM_ap, parM3_ap, tgN_ap, tgT2, tgT3, tgCons_ap, tgNil_ap, calM_ap, acons_ap, anil_ap, rb_ok, rb_ow, tupM_ap, lstM_ap, slM_ap, noP_ap, prt_ap, forM_ap, rngM1_ap, rngM2_ap, lcM_ap, andV_ap, notV_ap, orV_ap, ifM_ap, orM_ap, notM_ap, tru_ap, tru_b, chn_ap, seqA_l, seqA_t, seqA_f, seqA_s, len_t, len_f, opN_ap, met0_ap, met1_ap, metT_ap, apnM_ap, rtF_ap, ri_nx, ri_ro, sq_bk, sq_ct, sq_ro, mkT_ok, mkL_ok, List.length_append, List.length_singleton, asI, Wp_ok, nxt_nx, nxt_rt, nxt_bk, nxt_ct, trn_nx, trn_ct, trn_bk, trn_rt, ends_nx, ends_rt, ix_t, leA_ii, le_ii, sub_ii, Bool.not_true, Bool.not_false, Bool.false_eq_true, Bool.true_eq_false, eq_bb, ne_bb, eq_ss, ne_ss, raiM_ap, tryM_ap, tr_ok, tr_ex, rb_ex, bo_ex, sq_ex, ri_ex, kwA_ap, drp_ap, runI_ap, rin_nx, rin_ex, satM_ap, Nat.reduceLeDiff, Nat.zero_le, Nat.reduceMul, forL_cons, forL_nil, fo_nx, fo_rt, fo_ex, x1, h, n]
theorem due_2 {X : List D} {p q : D} {μ : Sto} (hp : Pv p) (hq : Pv q) (g : Gd X p) (h : Wr X q) : G_lstretch_due [.tup X, p, q] μ = .ok (.tup [.str "UnknownKey", q]) μ := by
  have x0 := lkey_ok (μ := μ) hp
  have x1 := lkey_ok (μ := μ) hq
  obtain ⟨g1, g2⟩ := g
  rw [g1] at x0
  rcases h with h | ⟨h, n⟩
  · rw [h] at x1
    simp only [G_lstretch_due, g_lstretch_due, runD_ap, List.length_cons, List.length_nil, Nat.reduceAdd, Nat.reduceSub, List.map_cons, List.map_nil, List.replicate_succ, List.replicate_zero, List.cons_append, List.nil_append, seqM_ap, sq_nx, sq_rt, stiM_ap, bnd_ap, bo_ok, op2_ap, op2v_ap, op1_ap, cst_ap, lift_so, ret_ap, pek_ap, lett_ap, pekD, List.getElem?_cons_zero, List.getElem?_cons_succ, ix_l, ix50, ix51, ix52, ix53, ix54, isLst, lstUp, lstAt, lstPut, Option.map_some, add_ii, List.set_cons_zero, List.set_cons_succ, ifS_ap, andM_ap, tst_ap, eq_ii, lt_ii, gt_ii, ge_ii, len_l, asBl_b, bf_t, bf_f, bf_d, if_true, if_false, ite_true, ite_false, decide_true, decide_false, setM_ap, put_ap, skp_ap, rtM_ap, ri_rt, int_i, abs_i, ixN50, ixN51, ixN52, ixN53, ixN54, walkA_ap, isiM_ap, kwD_ap, newM_ap, ni_ok, ni_ex, fldV_ap, fldM_ap, asgM_ap, parM_ap, parM3_ap, tgN_ap, tgT2, tgT3, tgCons_ap, tgNil_ap, calM_ap, acons_ap, anil_ap, rb_ok, rb_ow, tupM_ap, lstM_ap, slM_ap, noP_ap, prt_ap, forM_ap, rngM1_ap, rngM2_ap, lcM_ap, andV_ap, notV_ap, orV_ap, ifM_ap, orM_ap, notM_ap, tru_ap, tru_b, chn_ap, seqA_l, seqA_t, seqA_f, seqA_s, len_t, len_f, opN_ap, met0_ap, met1_ap, metT_ap, apnM_ap, rtF_ap, ri_nx, ri_ro, sq_bk, sq_ct, sq_ro, mkT_ok, mkL_ok, List.length_append, List.length_singleton, asI, Wp_ok, nxt_nx, nxt_rt, nxt_bk, nxt_ct, trn_nx, trn_ct, trn_bk, trn_rt, ends_nx, ends_rt, ix_t, leA_ii, le_ii, sub_ii, Bool.not_true, Bool.not_false, Bool.false_eq_true, Bool.true_eq_false, eq_bb, ne_bb, eq_ss, ne_ss, raiM_ap, tryM_ap, tr_ok, tr_ex, rb_ex, bo_ex, sq_ex, ri_ex, kwA_ap, drp_ap, runI_ap, rin_nx, rin_ex, satM_ap, Nat.reduceLeDiff, Nat.zero_le, Nat.reduceMul, forL_cons, forL_nil, fo_nx, fo_rt, fo_ex, x0, x1, g2, h]
  · rw [h] at x1
    simp only [G_lstretch_due, g_lstretch_due, runD_ap, List.length_cons, List.length_nil, Nat.reduceAdd, Nat.reduceSub, List.map_cons, List.map_nil, List.replicate_succ, List.replicate_zero, List.cons_append, List.nil_append, seqM_ap, sq_nx, sq_rt, stiM_ap, bnd_ap, bo_ok, op2_ap, op2v_ap, op1_ap, cst_ap, lift_so, ret_ap, pek_ap, lett_ap, pekD, List.getElem?_cons_zero, List.getElem?_cons_succ, ix_l, ix50, ix51, ix52, ix53, ix54, isLst, lstUp, lstAt, lstPut, Option.map_some, add_ii, List.set_cons_zero, List.set_cons_succ, ifS_ap, andM_ap, tst_ap, eq_ii, lt_ii, gt_ii, ge_ii, len_l, asBl_b, bf_t, bf_f, bf_d, if_true, if_false, ite_true, ite_false, decide_true, decide_false, setM_ap, put_ap, skp_ap, rtM_ap, ri_rt, int_i, abs_i, ixN50, ixN51, ixN52, ixN53, ixN54, walkA_ap, isiM_ap, kwD_ap, newM_ap, ni_ok, ni_ex, fldV_ap, fldM_ap, asgM_ap, parM_ap, parM3_ap, tgN_ap, tgT2, tgT3, tgCons_ap, tgNil_ap, calM_ap, acons_ap, anil_ap, rb_ok, rb_ow, tupM_ap, lstM_ap, slM_ap, noP_ap, prt_ap, forM_ap, rngM1_ap, rngM2_ap, lcM_ap, andV_ap, notV_ap, orV_ap, ifM_ap, orM_ap, notM_ap, tru_ap, tru_b, chn_ap, seqA_l, seqA_t, seqA_f, seqA_s, len_t, len_f, opN_ap, met0_ap, met1_ap, metT_ap, apnM_ap, rtF_ap, ri_nx, ri_ro, sq_bk, sq_ct, sq_ro, mkT_ok, mkL_ok, List.length_append, List.length_singleton, asI, Wp_ok, nxt_nx, nxt_rt, nxt_bk, nxt_ct, trn_nx, trn_ct, trn_bk, trn_rt, ends_nx, ends_rt, ix_t, leA_ii, le_ii, sub_ii, Bool.not_true, Bool.not_false, Bool.false_eq_true, Bool.true_eq_false, eq_bb, ne_bb, eq_ss, ne_ss, raiM_ap, tryM_ap, tr_ok, tr_ex, rb_ex, bo_ex, sq_ex, ri_ex, kwA_ap, drp_ap, runI_ap, rin_nx, rin_ex, satM_ap, Nat.reduceLeDiff, Nat.zero_le, Nat.reduceMul, forL_cons, forL_nil, fo_nx, fo_rt, fo_ex, x0, x1, g2, h, n]
def betw (p q : Int) (ks : List Int) : List Int := ks.filter fun k => (decide (p ≤ k) && decide (k ≤ q)) || (decide (q ≤ k) && decide (k ≤ p))
theorem due_3 {ks : List Int} {p q : Int} {μ : Sto} (hl : ks.length ≤ 1000) (g : Gd (ks.map D.int) (.int p)) (h : Gd (ks.map D.int) (.int q)) : G_lstretch_due [.tup (ks.map D.int), .int p, .int q] μ = .ok (.tup [.str "told", .tup ((betw p q ks).map D.int)]) μ := by
  have x0 := lkey_ok (μ := μ) (.int p)
  have x1 := lkey_ok (μ := μ) (.int q)
  obtain ⟨g1, g2⟩ := g
  obtain ⟨h1, h2⟩ := h
  rw [g1] at x0
  rw [h1] at x1
  have lc := lc1 (ρ := [some (.sh (.tup (ks.map D.int))), some (.sh (.int p)), some (.sh (.int q)), some (.sh (.int q)), none]) (μ := μ) (i := 4) (ft := orM (andM (tst (op2 leA (lett 1) (pek 4))) (tst (op2 leA (lett 4) (pek 2)))) (andM (tst (op2 leA (lett 2) (pek 4))) (tst (op2 leA (lett 4) (pek 1))))) (fe := lett 4) D.int (fun k => (decide (p ≤ k) && decide (k ≤ q)) || (decide (q ≤ k) && decide (k ≤ p))) D.int ks (by unfold lineN; omega) (fun k _ => ⟨by
    by_cases c1 : p ≤ k <;> by_cases c2 : k ≤ q <;> by_cases c3 : q ≤ k <;> by_cases c4 : k ≤ p <;> simp only [runD_ap, List.length_cons, List.length_nil, Nat.reduceAdd, Nat.reduceSub, List.map_cons, List.map_nil, List.replicate_succ, List.replicate_zero, List.cons_append, List.nil_append, seqM_ap, sq_nx, sq_rt, stiM_ap, bnd_ap, bo_ok, op2_ap, op2v_ap, op1_ap, cst_ap, lift_so, ret_ap, pek_ap, lett_ap, pekD, List.getElem?_cons_zero, List.getElem?_cons_succ, ix_l, ix50, ix51, ix52, ix53, ix54, isLst, lstUp, lstAt, lstPut, Option.map_some, add_ii, List.set_cons_zero, List.set_cons_succ, ifS_ap, andM_ap, tst_ap, eq_ii, lt_ii, gt_ii, ge_ii, len_l, asBl_b, bf_t, bf_f, bf_d, if_true, if_false, ite_true, ite_false, decide_true, decide_false, setM_ap, put_ap, skp_ap, rtM_ap, ri_rt, int_i, abs_i, ixN50, ixN51, ixN52, ixN53, ixN54, walkA_ap, isiM_ap, kwD_ap, newM_ap, ni_ok, ni_ex, fldV_ap, fldM_ap, asgM_ap, parM_ap, parM3_ap, tgN_ap, tgT2, tgT3, tgCons_ap, tgNil_ap, calM_ap, acons_ap, anil_ap, rb_ok, rb_ow, tupM_ap, lstM_ap, slM_ap, noP_ap, prt_ap, forM_ap, rngM1_ap, rngM2_ap, lcM_ap, andV_ap, notV_ap, orV_ap, ifM_ap, orM_ap, notM_ap, tru_ap, tru_b, chn_ap, seqA_l, seqA_t, seqA_f, seqA_s, len_t, len_f, opN_ap, met0_ap, met1_ap, metT_ap, apnM_ap, rtF_ap, ri_nx, ri_ro, sq_bk, sq_ct, sq_ro, mkT_ok, mkL_ok, List.length_append, List.length_singleton, asI, Wp_ok, nxt_nx, nxt_rt, nxt_bk, nxt_ct, trn_nx, trn_ct, trn_bk, trn_rt, ends_nx, ends_rt, ix_t, leA_ii, le_ii, sub_ii, Bool.not_true, Bool.not_false, Bool.false_eq_true, Bool.true_eq_false, eq_bb, ne_bb, eq_ss, ne_ss, raiM_ap, tryM_ap, tr_ok, tr_ex, rb_ex, bo_ex, sq_ex, ri_ex, kwA_ap, drp_ap, runI_ap, rin_nx, rin_ex, satM_ap, Nat.reduceLeDiff, Nat.zero_le, Nat.reduceMul, c1, c2, c3, c4, Bool.and_true, Bool.and_false, Bool.or_true, Bool.or_false, Bool.true_and, Bool.false_and, Bool.true_or, Bool.false_or, Bool.and_self, Bool.or_self], fun _ => by simp only [runD_ap, List.length_cons, List.length_nil, Nat.reduceAdd, Nat.reduceSub, List.map_cons, List.map_nil, List.replicate_succ, List.replicate_zero, List.cons_append, List.nil_append, seqM_ap, sq_nx, sq_rt, stiM_ap, bnd_ap, bo_ok, op2_ap, op2v_ap, op1_ap, cst_ap, lift_so, ret_ap, pek_ap, lett_ap, pekD, List.getElem?_cons_zero, List.getElem?_cons_succ, ix_l, ix50, ix51, ix52, ix53, ix54, isLst, lstUp, lstAt, lstPut, Option.map_some, add_ii, List.set_cons_zero, List.set_cons_succ, ifS_ap, andM_ap, tst_ap, eq_ii, lt_ii, gt_ii, ge_ii, len_l, asBl_b, bf_t, bf_f, bf_d, if_true, if_false, ite_true, ite_false, decide_true, decide_false, setM_ap, put_ap, skp_ap, rtM_ap, ri_rt, int_i, abs_i, ixN50, ixN51, ixN52, ixN53, ixN54, walkA_ap, isiM_ap, kwD_ap, newM_ap, ni_ok, ni_ex, fldV_ap, fldM_ap, asgM_ap, parM_ap, parM3_ap, tgN_ap, tgT2, tgT3, tgCons_ap, tgNil_ap, calM_ap, acons_ap, anil_ap, rb_ok, rb_ow, tupM_ap, lstM_ap, slM_ap, noP_ap, prt_ap, forM_ap, rngM1_ap, rngM2_ap, lcM_ap, andV_ap, notV_ap, orV_ap, ifM_ap, orM_ap, notM_ap, tru_ap, tru_b, chn_ap, seqA_l, seqA_t, seqA_f, seqA_s, len_t, len_f, opN_ap, met0_ap, met1_ap, metT_ap, apnM_ap, rtF_ap, ri_nx, ri_ro, sq_bk, sq_ct, sq_ro, mkT_ok, mkL_ok, List.length_append, List.length_singleton, asI, Wp_ok, nxt_nx, nxt_rt, nxt_bk, nxt_ct, trn_nx, trn_ct, trn_bk, trn_rt, ends_nx, ends_rt, ix_t, leA_ii, le_ii, sub_ii, Bool.not_true, Bool.not_false, Bool.false_eq_true, Bool.true_eq_false, eq_bb, ne_bb, eq_ss, ne_ss, raiM_ap, tryM_ap, tr_ok, tr_ex, rb_ex, bo_ex, sq_ex, ri_ex, kwA_ap, drp_ap, runI_ap, rin_nx, rin_ex, satM_ap, Nat.reduceLeDiff, Nat.zero_le, Nat.reduceMul]⟩)
  rw [show (ks.filter fun k => (decide (p ≤ k) && decide (k ≤ q)) || (decide (q ≤ k) && decide (k ≤ p))) = betw p q ks from rfl] at lc
  have tp : tupleD (.lst ((betw p q ks).map D.int)) = some (.tup ((betw p q ks).map D.int)) := rfl
  simp only [G_lstretch_due, g_lstretch_due, runD_ap, List.length_cons, List.length_nil, Nat.reduceAdd, Nat.reduceSub, List.map_cons, List.map_nil, List.replicate_succ, List.replicate_zero, List.cons_append, List.nil_append, seqM_ap, sq_nx, sq_rt, stiM_ap, bnd_ap, bo_ok, op2_ap, op2v_ap, op1_ap, cst_ap, lift_so, ret_ap, pek_ap, lett_ap, pekD, List.getElem?_cons_zero, List.getElem?_cons_succ, ix_l, ix50, ix51, ix52, ix53, ix54, isLst, lstUp, lstAt, lstPut, Option.map_some, add_ii, List.set_cons_zero, List.set_cons_succ, ifS_ap, andM_ap, tst_ap, eq_ii, lt_ii, gt_ii, ge_ii, len_l, asBl_b, bf_t, bf_f, bf_d, if_true, if_false, ite_true, ite_false, decide_true, decide_false, setM_ap, put_ap, skp_ap, rtM_ap, ri_rt, int_i, abs_i, ixN50, ixN51, ixN52, ixN53, ixN54, walkA_ap, isiM_ap, kwD_ap, newM_ap, ni_ok, ni_ex, fldV_ap, fldM_ap, asgM_ap, parM_ap, parM3_ap, tgN_ap, tgT2, tgT3, tgCons_ap, tgNil_ap, calM_ap, acons_ap, anil_ap, rb_ok, rb_ow, tupM_ap, lstM_ap, slM_ap, noP_ap, prt_ap, forM_ap, rngM1_ap, rngM2_ap, lcM_ap, andV_ap, notV_ap, orV_ap, ifM_ap, orM_ap, notM_ap, tru_ap, tru_b, chn_ap, seqA_l, seqA_t, seqA_f, seqA_s, len_t, len_f, opN_ap, met0_ap, met1_ap, metT_ap, apnM_ap, rtF_ap, ri_nx, ri_ro, sq_bk, sq_ct, sq_ro, mkT_ok, mkL_ok, List.length_append, List.length_singleton, asI, Wp_ok, nxt_nx, nxt_rt, nxt_bk, nxt_ct, trn_nx, trn_ct, trn_bk, trn_rt, ends_nx, ends_rt, ix_t, leA_ii, le_ii, sub_ii, Bool.not_true, Bool.not_false, Bool.false_eq_true, Bool.true_eq_false, eq_bb, ne_bb, eq_ss, ne_ss, raiM_ap, tryM_ap, tr_ok, tr_ex, rb_ex, bo_ex, sq_ex, ri_ex, kwA_ap, drp_ap, runI_ap, rin_nx, rin_ex, satM_ap, Nat.reduceLeDiff, Nat.zero_le, Nat.reduceMul, forL_cons, forL_nil, fo_nx, fo_rt, fo_ex, x0, x1, g2, h2, lc, tp]
theorem btw_1 {X : List D} {p q : D} {μ : Sto} (hp : Pv p) (h : Wr X p) : G_stretch_between [.tup X, p, q] μ = .ex "UnknownKey" ["key", "code"] [p, .str "UnknownKey"] μ := by
  have x1 := is_key_ok (μ := μ) hp
  have fd : fldD [p] L_UnknownKey [] [] = some ((["key", "code"] : List Str), [p, .str "UnknownKey"]) := rfl
  rcases h with h | ⟨h, n⟩
  · rw [h] at x1
    simp only [G_stretch_between, g_stretch_between, runD_ap, List.length_cons, List.length_nil, Nat.reduceAdd, Nat.reduceSub, List.map_cons, List.map_nil, List.replicate_succ, List.replicate_zero, List.cons_append, List.nil_append, seqM_ap, sq_nx, sq_rt, stiM_ap, bnd_ap, bo_ok, op2_ap, op2v_ap, op1_ap, cst_ap, lift_so, ret_ap, pek_ap, lett_ap, pekD, List.getElem?_cons_zero, List.getElem?_cons_succ, ix_l, ix50, ix51, ix52, ix53, ix54, isLst, lstUp, lstAt, lstPut, Option.map_some, add_ii, List.set_cons_zero, List.set_cons_succ, ifS_ap, andM_ap, tst_ap, eq_ii, lt_ii, gt_ii, ge_ii, len_l, asBl_b, bf_t, bf_f, bf_d, if_true, if_false, ite_true, ite_false, decide_true, decide_false, setM_ap, put_ap, skp_ap, rtM_ap, ri_rt, int_i, abs_i, ixN50, ixN51, ixN52, ixN53, ixN54, walkA_ap, isiM_ap, kwD_ap, newM_ap, ni_ok, ni_ex, fldV_ap, fldM_ap, asgM_ap, parM_ap, parM3_ap, tgN_ap, tgT2, tgT3, tgCons_ap, tgNil_ap, calM_ap, acons_ap, anil_ap, rb_ok, rb_ow, tupM_ap, lstM_ap, slM_ap, noP_ap, prt_ap, forM_ap, rngM1_ap, rngM2_ap, lcM_ap, andV_ap, notV_ap, orV_ap, ifM_ap, orM_ap, notM_ap, tru_ap, tru_b, chn_ap, seqA_l, seqA_t, seqA_f, seqA_s, len_t, len_f, opN_ap, met0_ap, met1_ap, metT_ap, apnM_ap, rtF_ap, ri_nx, ri_ro, sq_bk, sq_ct, sq_ro, mkT_ok, mkL_ok, List.length_append, List.length_singleton, asI, Wp_ok, nxt_nx, nxt_rt, nxt_bk, nxt_ct, trn_nx, trn_ct, trn_bk, trn_rt, ends_nx, ends_rt, ix_t, leA_ii, le_ii, sub_ii, Bool.not_true, Bool.not_false, Bool.false_eq_true, Bool.true_eq_false, eq_bb, ne_bb, eq_ss, ne_ss, raiM_ap, tryM_ap, tr_ok, tr_ex, rb_ex, bo_ex, sq_ex, ri_ex, kwA_ap, drp_ap, runI_ap, rin_nx, rin_ex, satM_ap, Nat.reduceLeDiff, Nat.zero_le, Nat.reduceMul, forL_cons, forL_nil, fo_nx, fo_rt, fo_ex, x1, h, fd]
  · rw [h] at x1
    simp only [G_stretch_between, g_stretch_between, runD_ap, List.length_cons, List.length_nil, Nat.reduceAdd, Nat.reduceSub, List.map_cons, List.map_nil, List.replicate_succ, List.replicate_zero, List.cons_append, List.nil_append, seqM_ap, sq_nx, sq_rt, stiM_ap, bnd_ap, bo_ok, op2_ap, op2v_ap, op1_ap, cst_ap, lift_so, ret_ap, pek_ap, lett_ap, pekD, List.getElem?_cons_zero, List.getElem?_cons_succ, ix_l, ix50, ix51, ix52, ix53, ix54, isLst, lstUp, lstAt, lstPut, Option.map_some, add_ii, List.set_cons_zero, List.set_cons_succ, ifS_ap, andM_ap, tst_ap, eq_ii, lt_ii, gt_ii, ge_ii, len_l, asBl_b, bf_t, bf_f, bf_d, if_true, if_false, ite_true, ite_false, decide_true, decide_false, setM_ap, put_ap, skp_ap, rtM_ap, ri_rt, int_i, abs_i, ixN50, ixN51, ixN52, ixN53, ixN54, walkA_ap, isiM_ap, kwD_ap, newM_ap, ni_ok, ni_ex, fldV_ap, fldM_ap, asgM_ap, parM_ap, parM3_ap, tgN_ap, tgT2, tgT3, tgCons_ap, tgNil_ap, calM_ap, acons_ap, anil_ap, rb_ok, rb_ow, tupM_ap, lstM_ap, slM_ap, noP_ap, prt_ap, forM_ap, rngM1_ap, rngM2_ap, lcM_ap, andV_ap, notV_ap, orV_ap, ifM_ap, orM_ap, notM_ap, tru_ap, tru_b, chn_ap, seqA_l, seqA_t, seqA_f, seqA_s, len_t, len_f, opN_ap, met0_ap, met1_ap, metT_ap, apnM_ap, rtF_ap, ri_nx, ri_ro, sq_bk, sq_ct, sq_ro, mkT_ok, mkL_ok, List.length_append, List.length_singleton, asI, Wp_ok, nxt_nx, nxt_rt, nxt_bk, nxt_ct, trn_nx, trn_ct, trn_bk, trn_rt, ends_nx, ends_rt, ix_t, leA_ii, le_ii, sub_ii, Bool.not_true, Bool.not_false, Bool.false_eq_true, Bool.true_eq_false, eq_bb, ne_bb, eq_ss, ne_ss, raiM_ap, tryM_ap, tr_ok, tr_ex, rb_ex, bo_ex, sq_ex, ri_ex, kwA_ap, drp_ap, runI_ap, rin_nx, rin_ex, satM_ap, Nat.reduceLeDiff, Nat.zero_le, Nat.reduceMul, forL_cons, forL_nil, fo_nx, fo_rt, fo_ex, x1, h, n, fd]
theorem btw_2 {X : List D} {p q : D} {μ : Sto} (hp : Pv p) (hq : Pv q) (g : Gd X p) (h : Wr X q) : G_stretch_between [.tup X, p, q] μ = .ex "UnknownKey" ["key", "code"] [q, .str "UnknownKey"] μ := by
  have x0 := is_key_ok (μ := μ) hp
  have x1 := is_key_ok (μ := μ) hq
  have fd : fldD [q] L_UnknownKey [] [] = some ((["key", "code"] : List Str), [q, .str "UnknownKey"]) := rfl
  obtain ⟨g1, g2⟩ := g
  rw [g1] at x0
  rcases h with h | ⟨h, n⟩
  · rw [h] at x1
    simp only [G_stretch_between, g_stretch_between, runD_ap, List.length_cons, List.length_nil, Nat.reduceAdd, Nat.reduceSub, List.map_cons, List.map_nil, List.replicate_succ, List.replicate_zero, List.cons_append, List.nil_append, seqM_ap, sq_nx, sq_rt, stiM_ap, bnd_ap, bo_ok, op2_ap, op2v_ap, op1_ap, cst_ap, lift_so, ret_ap, pek_ap, lett_ap, pekD, List.getElem?_cons_zero, List.getElem?_cons_succ, ix_l, ix50, ix51, ix52, ix53, ix54, isLst, lstUp, lstAt, lstPut, Option.map_some, add_ii, List.set_cons_zero, List.set_cons_succ, ifS_ap, andM_ap, tst_ap, eq_ii, lt_ii, gt_ii, ge_ii, len_l, asBl_b, bf_t, bf_f, bf_d, if_true, if_false, ite_true, ite_false, decide_true, decide_false, setM_ap, put_ap, skp_ap, rtM_ap, ri_rt, int_i, abs_i, ixN50, ixN51, ixN52, ixN53, ixN54, walkA_ap, isiM_ap, kwD_ap, newM_ap, ni_ok, ni_ex, fldV_ap, fldM_ap, asgM_ap, parM_ap, parM3_ap, tgN_ap, tgT2, tgT3, tgCons_ap, tgNil_ap, calM_ap, acons_ap, anil_ap, rb_ok, rb_ow, tupM_ap, lstM_ap, slM_ap, noP_ap, prt_ap, forM_ap, rngM1_ap, rngM2_ap, lcM_ap, andV_ap, notV_ap, orV_ap, ifM_ap, orM_ap, notM_ap, tru_ap, tru_b, chn_ap, seqA_l, seqA_t, seqA_f, seqA_s, len_t, len_f, opN_ap, met0_ap, met1_ap, metT_ap, apnM_ap, rtF_ap, ri_nx, ri_ro, sq_bk, sq_ct, sq_ro, mkT_ok, mkL_ok, List.length_append, List.length_singleton, asI, Wp_ok, nxt_nx, nxt_rt, nxt_bk, nxt_ct, trn_nx, trn_ct, trn_bk, trn_rt, ends_nx, ends_rt, ix_t, leA_ii, le_ii, sub_ii, Bool.not_true, Bool.not_false, Bool.false_eq_true, Bool.true_eq_false, eq_bb, ne_bb, eq_ss, ne_ss, raiM_ap, tryM_ap, tr_ok, tr_ex, rb_ex, bo_ex, sq_ex, ri_ex, kwA_ap, drp_ap, runI_ap, rin_nx, rin_ex, satM_ap, Nat.reduceLeDiff, Nat.zero_le, Nat.reduceMul, forL_cons, forL_nil, fo_nx, fo_rt, fo_ex, x0, x1, g2, h, fd]
  · rw [h] at x1
    simp only [G_stretch_between, g_stretch_between, runD_ap, List.length_cons, List.length_nil, Nat.reduceAdd, Nat.reduceSub, List.map_cons, List.map_nil, List.replicate_succ, List.replicate_zero, List.cons_append, List.nil_append, seqM_ap, sq_nx, sq_rt, stiM_ap, bnd_ap, bo_ok, op2_ap, op2v_ap, op1_ap, cst_ap, lift_so, ret_ap, pek_ap, lett_ap, pekD, List.getElem?_cons_zero, List.getElem?_cons_succ, ix_l, ix50, ix51, ix52, ix53, ix54, isLst, lstUp, lstAt, lstPut, Option.map_some, add_ii, List.set_cons_zero, List.set_cons_succ, ifS_ap, andM_ap, tst_ap, eq_ii, lt_ii, gt_ii, ge_ii, len_l, asBl_b, bf_t, bf_f, bf_d, if_true, if_false, ite_true, ite_false, decide_true, decide_false, setM_ap, put_ap, skp_ap, rtM_ap, ri_rt, int_i, abs_i, ixN50, ixN51, ixN52, ixN53, ixN54, walkA_ap, isiM_ap, kwD_ap, newM_ap, ni_ok, ni_ex, fldV_ap, fldM_ap, asgM_ap, parM_ap, parM3_ap, tgN_ap, tgT2, tgT3, tgCons_ap, tgNil_ap, calM_ap, acons_ap, anil_ap, rb_ok, rb_ow, tupM_ap, lstM_ap, slM_ap, noP_ap, prt_ap, forM_ap, rngM1_ap, rngM2_ap, lcM_ap, andV_ap, notV_ap, orV_ap, ifM_ap, orM_ap, notM_ap, tru_ap, tru_b, chn_ap, seqA_l, seqA_t, seqA_f, seqA_s, len_t, len_f, opN_ap, met0_ap, met1_ap, metT_ap, apnM_ap, rtF_ap, ri_nx, ri_ro, sq_bk, sq_ct, sq_ro, mkT_ok, mkL_ok, List.length_append, List.length_singleton, asI, Wp_ok, nxt_nx, nxt_rt, nxt_bk, nxt_ct, trn_nx, trn_ct, trn_bk, trn_rt, ends_nx, ends_rt, ix_t, leA_ii, le_ii, sub_ii, Bool.not_true, Bool.not_false, Bool.false_eq_true, Bool.true_eq_false, eq_bb, ne_bb, eq_ss, ne_ss, raiM_ap, tryM_ap, tr_ok, tr_ex, rb_ex, bo_ex, sq_ex, ri_ex, kwA_ap, drp_ap, runI_ap, rin_nx, rin_ex, satM_ap, Nat.reduceLeDiff, Nat.zero_le, Nat.reduceMul, forL_cons, forL_nil, fo_nx, fo_rt, fo_ex, x0, x1, g2, h, n, fd]
theorem btw_3 {ks : List Int} {p q : Int} {μ : Sto} (hl : ks.length ≤ 1000) (g : Gd (ks.map D.int) (.int p)) (h : Gd (ks.map D.int) (.int q)) : G_stretch_between [.tup (ks.map D.int), .int p, .int q] μ = .ok (.tup ((betw p q ks).map D.int)) μ := by
  have x0 := is_key_ok (μ := μ) (.int p)
  have x1 := is_key_ok (μ := μ) (.int q)
  obtain ⟨g1, g2⟩ := g
  obtain ⟨h1, h2⟩ := h
  rw [g1] at x0
  rw [h1] at x1
  obtain ⟨lo, mn, l1, l2, l3⟩ : ∃ lo : Int, min2D [.int p, .int q] = some (.int lo) ∧ lo ≤ p ∧ lo ≤ q ∧ (lo = p ∨ lo = q) := ⟨_, rfl, by split <;> omega, by split <;> omega, by split <;> omega⟩
  obtain ⟨hi, mx, m1, m2, m3⟩ : ∃ hi : Int, max2D [.int p, .int q] = some (.int hi) ∧ p ≤ hi ∧ q ≤ hi ∧ (hi = p ∨ hi = q) := ⟨_, rfl, by split <;> omega, by split <;> omega, by split <;> omega⟩
  have ef : (ks.filter fun k => decide (lo ≤ k) && decide (k ≤ hi)) = betw p q ks := List.filter_congr fun k _ => by
    rw [Bool.eq_iff_iff]
    simp only [Bool.or_eq_true, Bool.and_eq_true, decide_eq_true_eq]
    omega
  have lc := lc1 (ρ := [some (.sh (.tup (ks.map D.int))), some (.sh (.int p)), some (.sh (.int q)), some (.sh (.int q)), some (.sh (.int lo)), some (.sh (.int hi))]) (μ := μ) (i := 3) (ft := tst (chn leA leA (lett 4) (lett 3) (lett 5))) (fe := lett 3) D.int (fun k => decide (lo ≤ k) && decide (k ≤ hi)) D.int ks (by unfold lineN; omega) (fun k _ => ⟨by
    by_cases c1 : lo ≤ k <;> by_cases c2 : k ≤ hi <;> simp only [runD_ap, List.length_cons, List.length_nil, Nat.reduceAdd, Nat.reduceSub, List.map_cons, List.map_nil, List.replicate_succ, List.replicate_zero, List.cons_append, List.nil_append, seqM_ap, sq_nx, sq_rt, stiM_ap, bnd_ap, bo_ok, op2_ap, op2v_ap, op1_ap, cst_ap, lift_so, ret_ap, pek_ap, lett_ap, pekD, List.getElem?_cons_zero, List.getElem?_cons_succ, ix_l, ix50, ix51, ix52, ix53, ix54, isLst, lstUp, lstAt, lstPut, Option.map_some, add_ii, List.set_cons_zero, List.set_cons_succ, ifS_ap, andM_ap, tst_ap, eq_ii, lt_ii, gt_ii, ge_ii, len_l, asBl_b, bf_t, bf_f, bf_d, if_true, if_false, ite_true, ite_false, decide_true, decide_false, setM_ap, put_ap, skp_ap, rtM_ap, ri_rt, int_i, abs_i, ixN50, ixN51, ixN52, ixN53, ixN54, walkA_ap, isiM_ap, kwD_ap, newM_ap, ni_ok, ni_ex, fldV_ap, fldM_ap, asgM_ap, parM_ap, parM3_ap, tgN_ap, tgT2, tgT3, tgCons_ap, tgNil_ap, calM_ap, acons_ap, anil_ap, rb_ok, rb_ow, tupM_ap, lstM_ap, slM_ap, noP_ap, prt_ap, forM_ap, rngM1_ap, rngM2_ap, lcM_ap, andV_ap, notV_ap, orV_ap, ifM_ap, orM_ap, notM_ap, tru_ap, tru_b, chn_ap, seqA_l, seqA_t, seqA_f, seqA_s, len_t, len_f, opN_ap, met0_ap, met1_ap, metT_ap, apnM_ap, rtF_ap, ri_nx, ri_ro, sq_bk, sq_ct, sq_ro, mkT_ok, mkL_ok, List.length_append, List.length_singleton, asI, Wp_ok, nxt_nx, nxt_rt, nxt_bk, nxt_ct, trn_nx, trn_ct, trn_bk, trn_rt, ends_nx, ends_rt, ix_t, leA_ii, le_ii, sub_ii, Bool.not_true, Bool.not_false, Bool.false_eq_true, Bool.true_eq_false, eq_bb, ne_bb, eq_ss, ne_ss, raiM_ap, tryM_ap, tr_ok, tr_ex, rb_ex, bo_ex, sq_ex, ri_ex, kwA_ap, drp_ap, runI_ap, rin_nx, rin_ex, satM_ap, Nat.reduceLeDiff, Nat.zero_le, Nat.reduceMul, c1, c2, Bool.and_true, Bool.and_false, Bool.or_true, Bool.or_false, Bool.true_and, Bool.false_and, Bool.true_or, Bool.false_or, Bool.and_self, Bool.or_self], fun _ => by simp only [runD_ap, List.length_cons, List.length_nil, Nat.reduceAdd, Nat.reduceSub, List.map_cons, List.map_nil, List.replicate_succ, List.replicate_zero, List.cons_append, List.nil_append, seqM_ap, sq_nx, sq_rt, stiM_ap, bnd_ap, bo_ok, op2_ap, op2v_ap, op1_ap, cst_ap, lift_so, ret_ap, pek_ap, lett_ap, pekD, List.getElem?_cons_zero, List.getElem?_cons_succ, ix_l, ix50, ix51, ix52, ix53, ix54, isLst, lstUp, lstAt, lstPut, Option.map_some, add_ii, List.set_cons_zero, List.set_cons_succ, ifS_ap, andM_ap, tst_ap, eq_ii, lt_ii, gt_ii, ge_ii, len_l, asBl_b, bf_t, bf_f, bf_d, if_true, if_false, ite_true, ite_false, decide_true, decide_false, setM_ap, put_ap, skp_ap, rtM_ap, ri_rt, int_i, abs_i, ixN50, ixN51, ixN52, ixN53, ixN54, walkA_ap, isiM_ap, kwD_ap, newM_ap, ni_ok, ni_ex, fldV_ap, fldM_ap, asgM_ap, parM_ap, parM3_ap, tgN_ap, tgT2, tgT3, tgCons_ap, tgNil_ap, calM_ap, acons_ap, anil_ap, rb_ok, rb_ow, tupM_ap, lstM_ap, slM_ap, noP_ap, prt_ap, forM_ap, rngM1_ap, rngM2_ap, lcM_ap, andV_ap, notV_ap, orV_ap, ifM_ap, orM_ap, notM_ap, tru_ap, tru_b, chn_ap, seqA_l, seqA_t, seqA_f, seqA_s, len_t, len_f, opN_ap, met0_ap, met1_ap, metT_ap, apnM_ap, rtF_ap, ri_nx, ri_ro, sq_bk, sq_ct, sq_ro, mkT_ok, mkL_ok, List.length_append, List.length_singleton, asI, Wp_ok, nxt_nx, nxt_rt, nxt_bk, nxt_ct, trn_nx, trn_ct, trn_bk, trn_rt, ends_nx, ends_rt, ix_t, leA_ii, le_ii, sub_ii, Bool.not_true, Bool.not_false, Bool.false_eq_true, Bool.true_eq_false, eq_bb, ne_bb, eq_ss, ne_ss, raiM_ap, tryM_ap, tr_ok, tr_ex, rb_ex, bo_ex, sq_ex, ri_ex, kwA_ap, drp_ap, runI_ap, rin_nx, rin_ex, satM_ap, Nat.reduceLeDiff, Nat.zero_le, Nat.reduceMul]⟩)
  rw [ef] at lc
  have tp : tupleD (.lst ((betw p q ks).map D.int)) = some (.tup ((betw p q ks).map D.int)) := rfl
  simp only [G_stretch_between, g_stretch_between, runD_ap, List.length_cons, List.length_nil, Nat.reduceAdd, Nat.reduceSub, List.map_cons, List.map_nil, List.replicate_succ, List.replicate_zero, List.cons_append, List.nil_append, seqM_ap, sq_nx, sq_rt, stiM_ap, bnd_ap, bo_ok, op2_ap, op2v_ap, op1_ap, cst_ap, lift_so, ret_ap, pek_ap, lett_ap, pekD, List.getElem?_cons_zero, List.getElem?_cons_succ, ix_l, ix50, ix51, ix52, ix53, ix54, isLst, lstUp, lstAt, lstPut, Option.map_some, add_ii, List.set_cons_zero, List.set_cons_succ, ifS_ap, andM_ap, tst_ap, eq_ii, lt_ii, gt_ii, ge_ii, len_l, asBl_b, bf_t, bf_f, bf_d, if_true, if_false, ite_true, ite_false, decide_true, decide_false, setM_ap, put_ap, skp_ap, rtM_ap, ri_rt, int_i, abs_i, ixN50, ixN51, ixN52, ixN53, ixN54, walkA_ap, isiM_ap, kwD_ap, newM_ap, ni_ok, ni_ex, fldV_ap, fldM_ap, asgM_ap, parM_ap, parM3_ap, tgN_ap, tgT2, tgT3, tgCons_ap, tgNil_ap, calM_ap, acons_ap, anil_ap, rb_ok, rb_ow, tupM_ap, lstM_ap, slM_ap, noP_ap, prt_ap, forM_ap, rngM1_ap, rngM2_ap, lcM_ap, andV_ap, notV_ap, orV_ap, ifM_ap, orM_ap, notM_ap, tru_ap, tru_b, chn_ap, seqA_l, seqA_t, seqA_f, seqA_s, len_t, len_f, opN_ap, met0_ap, met1_ap, metT_ap, apnM_ap, rtF_ap, ri_nx, ri_ro, sq_bk, sq_ct, sq_ro, mkT_ok, mkL_ok, List.length_append, List.length_singleton, asI, Wp_ok, nxt_nx, nxt_rt, nxt_bk, nxt_ct, trn_nx, trn_ct, trn_bk, trn_rt, ends_nx, ends_rt, ix_t, leA_ii, le_ii, sub_ii, Bool.not_true, Bool.not_false, Bool.false_eq_true, Bool.true_eq_false, eq_bb, ne_bb, eq_ss, ne_ss, raiM_ap, tryM_ap, tr_ok, tr_ex, rb_ex, bo_ex, sq_ex, ri_ex, kwA_ap, drp_ap, runI_ap, rin_nx, rin_ex, satM_ap, Nat.reduceLeDiff, Nat.zero_le, Nat.reduceMul, forL_cons, forL_nil, fo_nx, fo_rt, fo_ex, x0, x1, g2, h2, mn, mx, lc, tp]
theorem str_ex {X : List D} {p q v : D} {μ : Sto} {b : Bool} (x : G_stretch_between [.tup X, p, q] μ = .ex "UnknownKey" ["key", "code"] [v, .str "UnknownKey"] μ) : G_lstretch [.tup X, p, q, .bl b] μ = .ok (.tup [.str "UnknownKey", v]) μ := by
  have pk1 : pick [2, 1, 0] [q, p, .tup X] = [.tup X, p, q] := rfl
  cases b
  · simp only [G_lstretch, g_lstretch, runD_ap, List.length_cons, List.length_nil, Nat.reduceAdd, Nat.reduceSub, List.map_cons, List.map_nil, List.replicate_succ, List.replicate_zero, List.cons_append, List.nil_append, seqM_ap, sq_nx, sq_rt, stiM_ap, bnd_ap, bo_ok, op2_ap, op2v_ap, op1_ap, cst_ap, lift_so, ret_ap, pek_ap, lett_ap, pekD, List.getElem?_cons_zero, List.getElem?_cons_succ, ix_l, ix50, ix51, ix52, ix53, ix54, isLst, lstUp, lstAt, lstPut, Option.map_some, add_ii, List.set_cons_zero, List.set_cons_succ, ifS_ap, andM_ap, tst_ap, eq_ii, lt_ii, gt_ii, ge_ii, len_l, asBl_b, bf_t, bf_f, bf_d, if_true, if_false, ite_true, ite_false, decide_true, decide_false, setM_ap, put_ap, skp_ap, rtM_ap, ri_rt, int_i, abs_i, ixN50, ixN51, ixN52, ixN53, ixN54, walkA_ap, isiM_ap, kwD_ap, newM_ap, ni_ok, ni_ex, fldV_ap, fldM_ap, asgM_ap, parM_ap, parM3_ap, tgN_ap, tgT2, tgT3, tgCons_ap, tgNil_ap, calM_ap, acons_ap, anil_ap, rb_ok, rb_ow, tupM_ap, lstM_ap, slM_ap, noP_ap, prt_ap, forM_ap, rngM1_ap, rngM2_ap, lcM_ap, andV_ap, notV_ap, orV_ap, ifM_ap, orM_ap, notM_ap, tru_ap, tru_b, chn_ap, seqA_l, seqA_t, seqA_f, seqA_s, len_t, len_f, opN_ap, met0_ap, met1_ap, metT_ap, apnM_ap, rtF_ap, ri_nx, ri_ro, sq_bk, sq_ct, sq_ro, mkT_ok, mkL_ok, List.length_append, List.length_singleton, asI, Wp_ok, nxt_nx, nxt_rt, nxt_bk, nxt_ct, trn_nx, trn_ct, trn_bk, trn_rt, ends_nx, ends_rt, ix_t, leA_ii, le_ii, sub_ii, Bool.not_true, Bool.not_false, Bool.false_eq_true, Bool.true_eq_false, eq_bb, ne_bb, eq_ss, ne_ss, raiM_ap, tryM_ap, tr_ok, tr_ex, rb_ex, bo_ex, sq_ex, ri_ex, kwA_ap, drp_ap, runI_ap, rin_nx, rin_ex, satM_ap, Nat.reduceLeDiff, Nat.zero_le, Nat.reduceMul, x]
    rfl
  · simp only [G_lstretch, g_lstretch, runD_ap, List.length_cons, List.length_nil, Nat.reduceAdd, Nat.reduceSub, List.map_cons, List.map_nil, List.replicate_succ, List.replicate_zero, List.cons_append, List.nil_append, seqM_ap, sq_nx, sq_rt, stiM_ap, bnd_ap, bo_ok, op2_ap, op2v_ap, op1_ap, cst_ap, lift_so, ret_ap, pek_ap, lett_ap, pekD, List.getElem?_cons_zero, List.getElem?_cons_succ, ix_l, ix50, ix51, ix52, ix53, ix54, isLst, lstUp, lstAt, lstPut, Option.map_some, add_ii, List.set_cons_zero, List.set_cons_succ, ifS_ap, andM_ap, tst_ap, eq_ii, lt_ii, gt_ii, ge_ii, len_l, asBl_b, bf_t, bf_f, bf_d, if_true, if_false, ite_true, ite_false, decide_true, decide_false, setM_ap, put_ap, skp_ap, rtM_ap, ri_rt, int_i, abs_i, ixN50, ixN51, ixN52, ixN53, ixN54, walkA_ap, isiM_ap, kwD_ap, newM_ap, ni_ok, ni_ex, fldV_ap, fldM_ap, asgM_ap, parM_ap, parM3_ap, tgN_ap, tgT2, tgT3, tgCons_ap, tgNil_ap, calM_ap, acons_ap, anil_ap, rb_ok, rb_ow, tupM_ap, lstM_ap, slM_ap, noP_ap, prt_ap, forM_ap, rngM1_ap, rngM2_ap, lcM_ap, andV_ap, notV_ap, orV_ap, ifM_ap, orM_ap, notM_ap, tru_ap, tru_b, chn_ap, seqA_l, seqA_t, seqA_f, seqA_s, len_t, len_f, opN_ap, met0_ap, met1_ap, metT_ap, apnM_ap, rtF_ap, ri_nx, ri_ro, sq_bk, sq_ct, sq_ro, mkT_ok, mkL_ok, List.length_append, List.length_singleton, asI, Wp_ok, nxt_nx, nxt_rt, nxt_bk, nxt_ct, trn_nx, trn_ct, trn_bk, trn_rt, ends_nx, ends_rt, ix_t, leA_ii, le_ii, sub_ii, Bool.not_true, Bool.not_false, Bool.false_eq_true, Bool.true_eq_false, eq_bb, ne_bb, eq_ss, ne_ss, raiM_ap, tryM_ap, tr_ok, tr_ex, rb_ex, bo_ex, sq_ex, ri_ex, kwA_ap, drp_ap, runI_ap, rin_nx, rin_ex, satM_ap, Nat.reduceLeDiff, Nat.zero_le, Nat.reduceMul, x, pk1, and_self, if_true]
    rfl
theorem str_tl {X : List D} {p q v : D} {μ : Sto} {b : Bool} (x : G_stretch_between [.tup X, p, q] μ = .ok v μ) : G_lstretch [.tup X, p, q, .bl b] μ = .ok (.tup [.str "told", v]) μ := by
  have pk1 : pick [2, 1, 0] [q, p, .tup X] = [.tup X, p, q] := rfl
  cases b
  · simp only [G_lstretch, g_lstretch, runD_ap, List.length_cons, List.length_nil, Nat.reduceAdd, Nat.reduceSub, List.map_cons, List.map_nil, List.replicate_succ, List.replicate_zero, List.cons_append, List.nil_append, seqM_ap, sq_nx, sq_rt, stiM_ap, bnd_ap, bo_ok, op2_ap, op2v_ap, op1_ap, cst_ap, lift_so, ret_ap, pek_ap, lett_ap, pekD, List.getElem?_cons_zero, List.getElem?_cons_succ, ix_l, ix50, ix51, ix52, ix53, ix54, isLst, lstUp, lstAt, lstPut, Option.map_some, add_ii, List.set_cons_zero, List.set_cons_succ, ifS_ap, andM_ap, tst_ap, eq_ii, lt_ii, gt_ii, ge_ii, len_l, asBl_b, bf_t, bf_f, bf_d, if_true, if_false, ite_true, ite_false, decide_true, decide_false, setM_ap, put_ap, skp_ap, rtM_ap, ri_rt, int_i, abs_i, ixN50, ixN51, ixN52, ixN53, ixN54, walkA_ap, isiM_ap, kwD_ap, newM_ap, ni_ok, ni_ex, fldV_ap, fldM_ap, asgM_ap, parM_ap, parM3_ap, tgN_ap, tgT2, tgT3, tgCons_ap, tgNil_ap, calM_ap, acons_ap, anil_ap, rb_ok, rb_ow, tupM_ap, lstM_ap, slM_ap, noP_ap, prt_ap, forM_ap, rngM1_ap, rngM2_ap, lcM_ap, andV_ap, notV_ap, orV_ap, ifM_ap, orM_ap, notM_ap, tru_ap, tru_b, chn_ap, seqA_l, seqA_t, seqA_f, seqA_s, len_t, len_f, opN_ap, met0_ap, met1_ap, metT_ap, apnM_ap, rtF_ap, ri_nx, ri_ro, sq_bk, sq_ct, sq_ro, mkT_ok, mkL_ok, List.length_append, List.length_singleton, asI, Wp_ok, nxt_nx, nxt_rt, nxt_bk, nxt_ct, trn_nx, trn_ct, trn_bk, trn_rt, ends_nx, ends_rt, ix_t, leA_ii, le_ii, sub_ii, Bool.not_true, Bool.not_false, Bool.false_eq_true, Bool.true_eq_false, eq_bb, ne_bb, eq_ss, ne_ss, raiM_ap, tryM_ap, tr_ok, tr_ex, rb_ex, bo_ex, sq_ex, ri_ex, kwA_ap, drp_ap, runI_ap, rin_nx, rin_ex, satM_ap, Nat.reduceLeDiff, Nat.zero_le, Nat.reduceMul, x]
  · simp only [G_lstretch, g_lstretch, runD_ap, List.length_cons, List.length_nil, Nat.reduceAdd, Nat.reduceSub, List.map_cons, List.map_nil, List.replicate_succ, List.replicate_zero, List.cons_append, List.nil_append, seqM_ap, sq_nx, sq_rt, stiM_ap, bnd_ap, bo_ok, op2_ap, op2v_ap, op1_ap, cst_ap, lift_so, ret_ap, pek_ap, lett_ap, pekD, List.getElem?_cons_zero, List.getElem?_cons_succ, ix_l, ix50, ix51, ix52, ix53, ix54, isLst, lstUp, lstAt, lstPut, Option.map_some, add_ii, List.set_cons_zero, List.set_cons_succ, ifS_ap, andM_ap, tst_ap, eq_ii, lt_ii, gt_ii, ge_ii, len_l, asBl_b, bf_t, bf_f, bf_d, if_true, if_false, ite_true, ite_false, decide_true, decide_false, setM_ap, put_ap, skp_ap, rtM_ap, ri_rt, int_i, abs_i, ixN50, ixN51, ixN52, ixN53, ixN54, walkA_ap, isiM_ap, kwD_ap, newM_ap, ni_ok, ni_ex, fldV_ap, fldM_ap, asgM_ap, parM_ap, parM3_ap, tgN_ap, tgT2, tgT3, tgCons_ap, tgNil_ap, calM_ap, acons_ap, anil_ap, rb_ok, rb_ow, tupM_ap, lstM_ap, slM_ap, noP_ap, prt_ap, forM_ap, rngM1_ap, rngM2_ap, lcM_ap, andV_ap, notV_ap, orV_ap, ifM_ap, orM_ap, notM_ap, tru_ap, tru_b, chn_ap, seqA_l, seqA_t, seqA_f, seqA_s, len_t, len_f, opN_ap, met0_ap, met1_ap, metT_ap, apnM_ap, rtF_ap, ri_nx, ri_ro, sq_bk, sq_ct, sq_ro, mkT_ok, mkL_ok, List.length_append, List.length_singleton, asI, Wp_ok, nxt_nx, nxt_rt, nxt_bk, nxt_ct, trn_nx, trn_ct, trn_bk, trn_rt, ends_nx, ends_rt, ix_t, leA_ii, le_ii, sub_ii, Bool.not_true, Bool.not_false, Bool.false_eq_true, Bool.true_eq_false, eq_bb, ne_bb, eq_ss, ne_ss, raiM_ap, tryM_ap, tr_ok, tr_ex, rb_ex, bo_ex, sq_ex, ri_ex, kwA_ap, drp_ap, runI_ap, rin_nx, rin_ex, satM_ap, Nat.reduceLeDiff, Nat.zero_le, Nat.reduceMul, x, pk1, and_self, if_true]
/-- both tell the same -/
theorem stretch_ok {ks : List Int} {p q : D} {μ : Sto} (hl : ks.length ≤ 1000) (hp : Gw 3 40000 p) (hq : Gw 3 40000 q) : ∃ v, Sm 4 v ∧ (∀ b, G_lstretch [.tup (ks.map D.int), p, q, .bl b] μ = .ok v μ) ∧ G_lstretch_due [.tup (ks.map D.int), p, q] μ = .ok v μ := by
  have uk : ∀ v : D, Gw 3 40000 v → Sm 4 (.tup [.str "UnknownKey", v]) := fun v hv => .tup _ (by show 2 ≤ 1000; decide) fun d hd => by
    simp only [List.mem_cons, List.not_mem_nil, or_false] at hd
    rcases hd with rfl | rfl
    · exact .str _ _
    · exact hv.sm.le (by decide)
  rcases wr_gd (ks := ks) p with hp1 | ⟨p, rfl, _, _, _, hp1⟩
  · exact ⟨_, uk p hp, fun b => str_ex (btw_1 hp.pv hp1), due_1 hp.pv hp1⟩
  · rcases wr_gd (ks := ks) q with hq1 | ⟨q, rfl, _, _, _, hq1⟩
    · exact ⟨_, uk q hq, fun b => str_ex (btw_2 (.int p) hq.pv hp1 hq1), due_2 (.int p) hq.pv hp1 hq1⟩
    · refine ⟨_, ?_, fun b => str_tl (btw_3 hl hp1 hq1), due_3 hl hp1 hq1⟩
      refine .tup _ (by show 2 ≤ 1000; decide) fun d hd => ?_
      simp only [List.mem_cons, List.not_mem_nil, or_false] at hd
      rcases hd with rfl | rfl
      · exact .str _ _
      · refine .tup _ (by rw [List.length_map]; exact Nat.le_trans (List.length_filter_le _ _) hl) fun d hd => ?_
        obtain ⟨k, _, rfl⟩ := List.mem_map.mp hd
        exact .int _ _
def lstL (p : Int) : List Int → D → D
  | [], d => d
  | k :: r, d => lstL p r (if k < p then .int k else d)
def fstG (p : Int) : List Int → D → D
  | [], d => d
  | k :: r, d => fstG p r (match d with
    | .non => if p < k then .int k else .non
    | d => d)
abbrev nbB : Mo Fl := (ifS (tst (op2 ltA (lett 4) (pek 1))) (setM 2 (lett 4)) (ifS (andM (tst (op2 gtD (lett 4) (pek 1))) (tst (op2 (isND false) (lett 3) (cst .non)))) (setM 3 (lett 4)) skp))
theorem isn_n : isND false .non .non = some (.bl true) := rfl
theorem isn_i (k : Int) : isND false (.int k) .non = some (.bl false) := rfl
theorem nb_loop {X : List D} {p : Int} {μ : Sto} (xs : List Int) : ∀ (les gr : D) (e : Option Ent), (gr = .non ∨ ∃ g, gr = .int g) → ∃ e', forL (tgN 4) nbB (xs.map D.int) [some (.sh (.tup X)), some (.sh (.int p)), some (.sh les), some (.sh gr), e] μ = .ok .nx [some (.sh (.tup X)), some (.sh (.int p)), some (.sh (lstL p xs les)), some (.sh (fstG p xs gr)), e'] μ := by
  induction xs with
  | nil => exact fun les gr e _ => ⟨e, rfl⟩
  | cons k xs ih =>
    intro les gr e hg
    have lt : ltA (.int k) (.int p) = some (.bl (decide (k < p))) := rfl
    have gt : gtD (.int k) (.int p) = some (.bl (decide (p < k))) := rfl
    rw [List.map_cons, forL_cons]
    by_cases h1 : k < p
    · rw [decide_eq_true h1] at lt
      obtain ⟨e', q⟩ := ih (.int k) gr (some (.sh (.int k))) hg
      refine ⟨e', ?_⟩
      have h2 : ¬ p < k := by omega
      have e1 : fstG p (k :: xs) gr = fstG p xs gr := by
        rcases hg with rfl | ⟨g, rfl⟩
        · show fstG p xs (if p < k then .int k else .non) = _; rw [if_neg h2]
        · rfl
      have e2 : lstL p (k :: xs) les = lstL p xs (.int k) := by show lstL p xs (if k < p then .int k else les) = _; rw [if_pos h1]
      rw [e1, e2]
      simp only [nbB, runD_ap, List.length_cons, List.length_nil, Nat.reduceAdd, Nat.reduceSub, List.map_cons, List.map_nil, List.replicate_succ, List.replicate_zero, List.cons_append, List.nil_append, seqM_ap, sq_nx, sq_rt, stiM_ap, bnd_ap, bo_ok, op2_ap, op2v_ap, op1_ap, cst_ap, lift_so, ret_ap, pek_ap, lett_ap, pekD, List.getElem?_cons_zero, List.getElem?_cons_succ, ix_l, ix50, ix51, ix52, ix53, ix54, isLst, lstUp, lstAt, lstPut, Option.map_some, add_ii, List.set_cons_zero, List.set_cons_succ, ifS_ap, andM_ap, tst_ap, eq_ii, lt_ii, gt_ii, ge_ii, len_l, asBl_b, bf_t, bf_f, bf_d, if_true, if_false, ite_true, ite_false, decide_true, decide_false, setM_ap, put_ap, skp_ap, rtM_ap, ri_rt, int_i, abs_i, ixN50, ixN51, ixN52, ixN53, ixN54, walkA_ap, isiM_ap, kwD_ap, newM_ap, ni_ok, ni_ex, fldV_ap, fldM_ap, asgM_ap, parM_ap, parM3_ap, tgN_ap, tgT2, tgT3, tgCons_ap, tgNil_ap, calM_ap, acons_ap, anil_ap, rb_ok, rb_ow, tupM_ap, lstM_ap, slM_ap, noP_ap, prt_ap, forM_ap, rngM1_ap, rngM2_ap, lcM_ap, andV_ap, notV_ap, orV_ap, ifM_ap, orM_ap, notM_ap, tru_ap, tru_b, chn_ap, seqA_l, seqA_t, seqA_f, seqA_s, len_t, len_f, opN_ap, met0_ap, met1_ap, metT_ap, apnM_ap, rtF_ap, ri_nx, ri_ro, sq_bk, sq_ct, sq_ro, mkT_ok, mkL_ok, List.length_append, List.length_singleton, asI, Wp_ok, nxt_nx, nxt_rt, nxt_bk, nxt_ct, trn_nx, trn_ct, trn_bk, trn_rt, ends_nx, ends_rt, ix_t, leA_ii, le_ii, sub_ii, Bool.not_true, Bool.not_false, Bool.false_eq_true, Bool.true_eq_false, eq_bb, ne_bb, eq_ss, ne_ss, raiM_ap, tryM_ap, tr_ok, tr_ex, rb_ex, bo_ex, sq_ex, ri_ex, kwA_ap, drp_ap, runI_ap, rin_nx, rin_ex, satM_ap, Nat.reduceLeDiff, Nat.zero_le, Nat.reduceMul, lt, fo_nx]
      exact q
    · rw [decide_eq_false h1] at lt
      have e2 : lstL p (k :: xs) les = lstL p xs les := by show lstL p xs (if k < p then .int k else les) = _; rw [if_neg h1]
      rw [e2]
      by_cases h2 : p < k
      · rw [decide_eq_true h2] at gt
        rcases hg with rfl | ⟨g, rfl⟩
        · obtain ⟨e', q⟩ := ih les (.int k) (some (.sh (.int k))) (.inr ⟨k, rfl⟩)
          refine ⟨e', ?_⟩
          have e1 : fstG p (k :: xs) .non = fstG p xs (.int k) := by show fstG p xs (if p < k then .int k else .non) = _; rw [if_pos h2]
          rw [e1]
          simp only [nbB, runD_ap, List.length_cons, List.length_nil, Nat.reduceAdd, Nat.reduceSub, List.map_cons, List.map_nil, List.replicate_succ, List.replicate_zero, List.cons_append, List.nil_append, seqM_ap, sq_nx, sq_rt, stiM_ap, bnd_ap, bo_ok, op2_ap, op2v_ap, op1_ap, cst_ap, lift_so, ret_ap, pek_ap, lett_ap, pekD, List.getElem?_cons_zero, List.getElem?_cons_succ, ix_l, ix50, ix51, ix52, ix53, ix54, isLst, lstUp, lstAt, lstPut, Option.map_some, add_ii, List.set_cons_zero, List.set_cons_succ, ifS_ap, andM_ap, tst_ap, eq_ii, lt_ii, gt_ii, ge_ii, len_l, asBl_b, bf_t, bf_f, bf_d, if_true, if_false, ite_true, ite_false, decide_true, decide_false, setM_ap, put_ap, skp_ap, rtM_ap, ri_rt, int_i, abs_i, ixN50, ixN51, ixN52, ixN53, ixN54, walkA_ap, isiM_ap, kwD_ap, newM_ap, ni_ok, ni_ex, fldV_ap, fldM_ap, asgM_ap, parM_ap, parM3_ap, tgN_ap, tgT2, tgT3, tgCons_ap, tgNil_ap, calM_ap, acons_ap, anil_ap, rb_ok, rb_ow, tupM_ap, lstM_ap, slM_ap, noP_ap, prt_ap, forM_ap, rngM1_ap, rngM2_ap, lcM_ap, andV_ap, notV_ap, orV_ap, ifM_ap, orM_ap, notM_ap, tru_ap, tru_b, chn_ap, seqA_l, seqA_t, seqA_f, seqA_s, len_t, len_f, opN_ap, met0_ap, met1_ap, metT_ap, apnM_ap, rtF_ap, ri_nx, ri_ro, sq_bk, sq_ct, sq_ro, mkT_ok, mkL_ok, List.length_append, List.length_singleton, asI, Wp_ok, nxt_nx, nxt_rt, nxt_bk, nxt_ct, trn_nx, trn_ct, trn_bk, trn_rt, ends_nx, ends_rt, ix_t, leA_ii, le_ii, sub_ii, Bool.not_true, Bool.not_false, Bool.false_eq_true, Bool.true_eq_false, eq_bb, ne_bb, eq_ss, ne_ss, raiM_ap, tryM_ap, tr_ok, tr_ex, rb_ex, bo_ex, sq_ex, ri_ex, kwA_ap, drp_ap, runI_ap, rin_nx, rin_ex, satM_ap, Nat.reduceLeDiff, Nat.zero_le, Nat.reduceMul, lt, gt, isn_n, fo_nx]
          exact q
        · obtain ⟨e', q⟩ := ih les (.int g) (some (.sh (.int k))) (.inr ⟨g, rfl⟩)
          refine ⟨e', ?_⟩
          have e1 : fstG p (k :: xs) (.int g) = fstG p xs (.int g) := rfl
          rw [e1]
          simp only [nbB, runD_ap, List.length_cons, List.length_nil, Nat.reduceAdd, Nat.reduceSub, List.map_cons, List.map_nil, List.replicate_succ, List.replicate_zero, List.cons_append, List.nil_append, seqM_ap, sq_nx, sq_rt, stiM_ap, bnd_ap, bo_ok, op2_ap, op2v_ap, op1_ap, cst_ap, lift_so, ret_ap, pek_ap, lett_ap, pekD, List.getElem?_cons_zero, List.getElem?_cons_succ, ix_l, ix50, ix51, ix52, ix53, ix54, isLst, lstUp, lstAt, lstPut, Option.map_some, add_ii, List.set_cons_zero, List.set_cons_succ, ifS_ap, andM_ap, tst_ap, eq_ii, lt_ii, gt_ii, ge_ii, len_l, asBl_b, bf_t, bf_f, bf_d, if_true, if_false, ite_true, ite_false, decide_true, decide_false, setM_ap, put_ap, skp_ap, rtM_ap, ri_rt, int_i, abs_i, ixN50, ixN51, ixN52, ixN53, ixN54, walkA_ap, isiM_ap, kwD_ap, newM_ap, ni_ok, ni_ex, fldV_ap, fldM_ap, asgM_ap, parM_ap, parM3_ap, tgN_ap, tgT2, tgT3, tgCons_ap, tgNil_ap, calM_ap, acons_ap, anil_ap, rb_ok, rb_ow, tupM_ap, lstM_ap, slM_ap, noP_ap, prt_ap, forM_ap, rngM1_ap, rngM2_ap, lcM_ap, andV_ap, notV_ap, orV_ap, ifM_ap, orM_ap, notM_ap, tru_ap, tru_b, chn_ap, seqA_l, seqA_t, seqA_f, seqA_s, len_t, len_f, opN_ap, met0_ap, met1_ap, metT_ap, apnM_ap, rtF_ap, ri_nx, ri_ro, sq_bk, sq_ct, sq_ro, mkT_ok, mkL_ok, List.length_append, List.length_singleton, asI, Wp_ok, nxt_nx, nxt_rt, nxt_bk, nxt_ct, trn_nx, trn_ct, trn_bk, trn_rt, ends_nx, ends_rt, ix_t, leA_ii, le_ii, sub_ii, Bool.not_true, Bool.not_false, Bool.false_eq_true, Bool.true_eq_false, eq_bb, ne_bb, eq_ss, ne_ss, raiM_ap, tryM_ap, tr_ok, tr_ex, rb_ex, bo_ex, sq_ex, ri_ex, kwA_ap, drp_ap, runI_ap, rin_nx, rin_ex, satM_ap, Nat.reduceLeDiff, Nat.zero_le, Nat.reduceMul, lt, gt, isn_i, fo_nx]
          exact q
      · rw [decide_eq_false h2] at gt
        obtain ⟨e', q⟩ := ih les gr (some (.sh (.int k))) hg
        refine ⟨e', ?_⟩
        have e1 : fstG p (k :: xs) gr = fstG p xs gr := by
          rcases hg with rfl | ⟨g, rfl⟩
          · show fstG p xs (if p < k then .int k else .non) = _; rw [if_neg h2]
          · rfl
        rw [e1]
        simp only [nbB, runD_ap, List.length_cons, List.length_nil, Nat.reduceAdd, Nat.reduceSub, List.map_cons, List.map_nil, List.replicate_succ, List.replicate_zero, List.cons_append, List.nil_append, seqM_ap, sq_nx, sq_rt, stiM_ap, bnd_ap, bo_ok, op2_ap, op2v_ap, op1_ap, cst_ap, lift_so, ret_ap, pek_ap, lett_ap, pekD, List.getElem?_cons_zero, List.getElem?_cons_succ, ix_l, ix50, ix51, ix52, ix53, ix54, isLst, lstUp, lstAt, lstPut, Option.map_some, add_ii, List.set_cons_zero, List.set_cons_succ, ifS_ap, andM_ap, tst_ap, eq_ii, lt_ii, gt_ii, ge_ii, len_l, asBl_b, bf_t, bf_f, bf_d, if_true, if_false, ite_true, ite_false, decide_true, decide_false, setM_ap, put_ap, skp_ap, rtM_ap, ri_rt, int_i, abs_i, ixN50, ixN51, ixN52, ixN53, ixN54, walkA_ap, isiM_ap, kwD_ap, newM_ap, ni_ok, ni_ex, fldV_ap, fldM_ap, asgM_ap, parM_ap, parM3_ap, tgN_ap, tgT2, tgT3, tgCons_ap, tgNil_ap, calM_ap, acons_ap, anil_ap, rb_ok, rb_ow, tupM_ap, lstM_ap, slM_ap, noP_ap, prt_ap, forM_ap, rngM1_ap, rngM2_ap, lcM_ap, andV_ap, notV_ap, orV_ap, ifM_ap, orM_ap, notM_ap, tru_ap, tru_b, chn_ap, seqA_l, seqA_t, seqA_f, seqA_s, len_t, len_f, opN_ap, met0_ap, met1_ap, metT_ap, apnM_ap, rtF_ap, ri_nx, ri_ro, sq_bk, sq_ct, sq_ro, mkT_ok, mkL_ok, List.length_append, List.length_singleton, asI, Wp_ok, nxt_nx, nxt_rt, nxt_bk, nxt_ct, trn_nx, trn_ct, trn_bk, trn_rt, ends_nx, ends_rt, ix_t, leA_ii, le_ii, sub_ii, Bool.not_true, Bool.not_false, Bool.false_eq_true, Bool.true_eq_false, eq_bb, ne_bb, eq_ss, ne_ss, raiM_ap, tryM_ap, tr_ok, tr_ex, rb_ex, bo_ex, sq_ex, ri_ex, kwA_ap, drp_ap, runI_ap, rin_nx, rin_ex, satM_ap, Nat.reduceLeDiff, Nat.zero_le, Nat.reduceMul, lt, gt, fo_nx]
        exact q
theorem nb_run {ks : List Int} {p : Int} {μ : Sto} : G_neighbours_of [.tup (ks.map D.int), .int p] μ = .ok (.tup [lstL p ks .non, fstG p ks .non]) μ := by
  obtain ⟨e, q⟩ := nb_loop (X := ks.map D.int) (p := p) (μ := μ) ks .non .non none (.inl rfl)
  simp only [nbB] at q
  simp only [G_neighbours_of, g_neighbours_of, runD_ap, List.length_cons, List.length_nil, Nat.reduceAdd, Nat.reduceSub, List.map_cons, List.map_nil, List.replicate_succ, List.replicate_zero, List.cons_append, List.nil_append, seqM_ap, sq_nx, sq_rt, stiM_ap, bnd_ap, bo_ok, op2_ap, op2v_ap, op1_ap, cst_ap, lift_so, ret_ap, pek_ap, lett_ap, pekD, List.getElem?_cons_zero, List.getElem?_cons_succ, ix_l, ix50, ix51, ix52, ix53, ix54, isLst, lstUp, lstAt, lstPut, Option.map_some, add_ii, List.set_cons_zero, List.set_cons_succ, ifS_ap, andM_ap, tst_ap, eq_ii, lt_ii, gt_ii, ge_ii, len_l, asBl_b, bf_t, bf_f, bf_d, if_true, if_false, ite_true, ite_false, decide_true, decide_false, setM_ap, put_ap, skp_ap, rtM_ap, ri_rt, int_i, abs_i, ixN50, ixN51, ixN52, ixN53, ixN54, walkA_ap, isiM_ap, kwD_ap, newM_ap, ni_ok, ni_ex, fldV_ap, fldM_ap, asgM_ap, parM_ap, parM3_ap, tgN_ap, tgT2, tgT3, tgCons_ap, tgNil_ap, calM_ap, acons_ap, anil_ap, rb_ok, rb_ow, tupM_ap, lstM_ap, slM_ap, noP_ap, prt_ap, forM_ap, rngM1_ap, rngM2_ap, lcM_ap, andV_ap, notV_ap, orV_ap, ifM_ap, orM_ap, notM_ap, tru_ap, tru_b, chn_ap, seqA_l, seqA_t, seqA_f, seqA_s, len_t, len_f, opN_ap, met0_ap, met1_ap, metT_ap, apnM_ap, rtF_ap, ri_nx, ri_ro, sq_bk, sq_ct, sq_ro, mkT_ok, mkL_ok, List.length_append, List.length_singleton, asI, Wp_ok, nxt_nx, nxt_rt, nxt_bk, nxt_ct, trn_nx, trn_ct, trn_bk, trn_rt, ends_nx, ends_rt, ix_t, leA_ii, le_ii, sub_ii, Bool.not_true, Bool.not_false, Bool.false_eq_true, Bool.true_eq_false, eq_bb, ne_bb, eq_ss, ne_ss, raiM_ap, tryM_ap, tr_ok, tr_ex, rb_ex, bo_ex, sq_ex, ri_ex, kwA_ap, drp_ap, runI_ap, rin_nx, rin_ex, satM_ap, Nat.reduceLeDiff, Nat.zero_le, Nat.reduceMul, q]
def fstD : List Int → D
  | [] => .non
  | k :: _ => .int k
theorem fst_g (p : Int) : ∀ ks : List Int, fstG p ks .non = fstD (ks.filter fun k => decide (p < k))
  | [] => rfl
  | k :: ks => by
    have fix : ∀ (xs : List Int) (g : Int), fstG p xs (.int g) = .int g := fun xs g => by
      induction xs with
      | nil => rfl
      | cons x xs ih => exact ih
    by_cases h : p < k
    · rw [List.filter_cons_of_pos (by exact decide_eq_true h)]
      show fstG p ks (if p < k then .int k else .non) = .int k
      rw [if_pos h, fix]
    · rw [List.filter_cons_of_neg (by simpa using h), ← fst_g p ks]
      show fstG p ks (if p < k then .int k else .non) = _
      rw [if_neg h]
def lstD (d : D) : List Int → D
  | [] => d
  | k :: r => lstD (.int k) r
theorem lst_l (p : Int) : ∀ (ks : List Int) (d : D), lstL p ks d = lstD d (ks.filter fun k => decide (k < p))
  | [], d => rfl
  | k :: ks, d => by
    show lstL p ks (if k < p then .int k else d) = _
    by_cases h : k < p
    · rw [List.filter_cons_of_pos (by exact decide_eq_true h), if_pos h]
      exact lst_l p ks _
    · rw [List.filter_cons_of_neg (by simpa using h), if_neg h]
      exact lst_l p ks d
theorem lst_at (k : Int) (r : List Int) (d : D) : L2.atI ((k :: r).map D.int) (-1) = some (lstD d (k :: r)) := by
  have e : ∀ (r : List Int) (k : Int), ((k :: r).map D.int)[r.length]? = some (lstD (.int k) r) := fun r => by
    induction r with
    | nil => exact fun k => rfl
    | cons x r ih => exact fun k => ih x
  show L2.atI ((k :: r).map D.int) (-1) = some (lstD (.int k) r)
  rw [← e r k]
  unfold L2.atI
  have i1 : L2.ixN ((k :: r).map D.int).length (-1) = some r.length := by
    rw [List.length_map, List.length_cons]
    unfold L2.ixN
    simp
    omega
  rw [i1]
  rfl
theorem shO_n : shO (some none) = none := rfl
theorem near_g {A B ks : List D} {x y : D} {a b : Bool} {p : Int} {μ : Sto}
    (lc1 : lcAll [4] (tgN 4) (tst (op2 ltA (lett 4) (pek 1))) (lett 4) ks [some (.sh (.tup ks)), some (.sh (.int p)), none, none, none] μ = .ok (.lst A) [some (.sh (.tup ks)), some (.sh (.int p)), none, none, none] μ)
    (lc2 : lcAll [4] (tgN 4) (tst (op2 gtD (lett 4) (pek 1))) (lett 4) ks [some (.sh (.tup ks)), some (.sh (.int p)), none, none, none] μ = .ok (.lst B) [some (.sh (.tup ks)), some (.sh (.int p)), none, none, none] μ)
    (n1 : neD (.lst A) (.lst []) = some (.bl a)) (n2 : neD (.lst B) (.lst []) = some (.bl b)) (i1 : a = true → ixD (.lst A) (.int (-1)) = some x) (i2 : b = true → ixD (.lst B) (.int 0) = some y) (j1 : a = false → x = .non) (j2 : b = false → y = .non) : G_lnear [.tup ks, .int p] μ = .ok (.tup [x, y]) μ := by
  have ng : negD (.int 1) = some (.int (-1)) := rfl
  cases a <;> cases b
  · rw [j1 rfl, j2 rfl]
    simp only [G_lnear, g_lnear, runD_ap, List.length_cons, List.length_nil, Nat.reduceAdd, Nat.reduceSub, List.map_cons, List.map_nil, List.replicate_succ, List.replicate_zero, List.cons_append, List.nil_append, seqM_ap, sq_nx, sq_rt, stiM_ap, bnd_ap, bo_ok, op2_ap, op2v_ap, op1_ap, cst_ap, lift_so, ret_ap, pek_ap, lett_ap, pekD, List.getElem?_cons_zero, List.getElem?_cons_succ, ix_l, ix50, ix51, ix52, ix53, ix54, isLst, lstUp, lstAt, lstPut, Option.map_some, add_ii, List.set_cons_zero, List.set_cons_succ, ifS_ap, andM_ap, tst_ap, eq_ii, lt_ii, gt_ii, ge_ii, len_l, asBl_b, bf_t, bf_f, bf_d, if_true, if_false, ite_true, ite_false, decide_true, decide_false, setM_ap, put_ap, skp_ap, rtM_ap, ri_rt, int_i, abs_i, ixN50, ixN51, ixN52, ixN53, ixN54, walkA_ap, isiM_ap, kwD_ap, newM_ap, ni_ok, ni_ex, fldV_ap, fldM_ap, asgM_ap, parM_ap, parM3_ap, tgN_ap, tgT2, tgT3, tgCons_ap, tgNil_ap, calM_ap, acons_ap, anil_ap, rb_ok, rb_ow, tupM_ap, lstM_ap, slM_ap, noP_ap, prt_ap, forM_ap, rngM1_ap, rngM2_ap, lcM_ap, andV_ap, notV_ap, orV_ap, ifM_ap, orM_ap, notM_ap, tru_ap, tru_b, chn_ap, seqA_l, seqA_t, seqA_f, seqA_s, len_t, len_f, opN_ap, met0_ap, met1_ap, metT_ap, apnM_ap, rtF_ap, ri_nx, ri_ro, sq_bk, sq_ct, sq_ro, mkT_ok, mkL_ok, List.length_append, List.length_singleton, asI, Wp_ok, nxt_nx, nxt_rt, nxt_bk, nxt_ct, trn_nx, trn_ct, trn_bk, trn_rt, ends_nx, ends_rt, ix_t, leA_ii, le_ii, sub_ii, Bool.not_true, Bool.not_false, Bool.false_eq_true, Bool.true_eq_false, eq_bb, ne_bb, eq_ss, ne_ss, raiM_ap, tryM_ap, tr_ok, tr_ex, rb_ex, bo_ex, sq_ex, ri_ex, kwA_ap, drp_ap, runI_ap, rin_nx, rin_ex, satM_ap, Nat.reduceLeDiff, Nat.zero_le, Nat.reduceMul, lc1, lc2, n1, n2]
  · rw [j1 rfl]
    simp only [G_lnear, g_lnear, runD_ap, List.length_cons, List.length_nil, Nat.reduceAdd, Nat.reduceSub, List.map_cons, List.map_nil, List.replicate_succ, List.replicate_zero, List.cons_append, List.nil_append, seqM_ap, sq_nx, sq_rt, stiM_ap, bnd_ap, bo_ok, op2_ap, op2v_ap, op1_ap, cst_ap, lift_so, ret_ap, pek_ap, lett_ap, pekD, List.getElem?_cons_zero, List.getElem?_cons_succ, ix_l, ix50, ix51, ix52, ix53, ix54, isLst, lstUp, lstAt, lstPut, Option.map_some, add_ii, List.set_cons_zero, List.set_cons_succ, ifS_ap, andM_ap, tst_ap, eq_ii, lt_ii, gt_ii, ge_ii, len_l, asBl_b, bf_t, bf_f, bf_d, if_true, if_false, ite_true, ite_false, decide_true, decide_false, setM_ap, put_ap, skp_ap, rtM_ap, ri_rt, int_i, abs_i, ixN50, ixN51, ixN52, ixN53, ixN54, walkA_ap, isiM_ap, kwD_ap, newM_ap, ni_ok, ni_ex, fldV_ap, fldM_ap, asgM_ap, parM_ap, parM3_ap, tgN_ap, tgT2, tgT3, tgCons_ap, tgNil_ap, calM_ap, acons_ap, anil_ap, rb_ok, rb_ow, tupM_ap, lstM_ap, slM_ap, noP_ap, prt_ap, forM_ap, rngM1_ap, rngM2_ap, lcM_ap, andV_ap, notV_ap, orV_ap, ifM_ap, orM_ap, notM_ap, tru_ap, tru_b, chn_ap, seqA_l, seqA_t, seqA_f, seqA_s, len_t, len_f, opN_ap, met0_ap, met1_ap, metT_ap, apnM_ap, rtF_ap, ri_nx, ri_ro, sq_bk, sq_ct, sq_ro, mkT_ok, mkL_ok, List.length_append, List.length_singleton, asI, Wp_ok, nxt_nx, nxt_rt, nxt_bk, nxt_ct, trn_nx, trn_ct, trn_bk, trn_rt, ends_nx, ends_rt, ix_t, leA_ii, le_ii, sub_ii, Bool.not_true, Bool.not_false, Bool.false_eq_true, Bool.true_eq_false, eq_bb, ne_bb, eq_ss, ne_ss, raiM_ap, tryM_ap, tr_ok, tr_ex, rb_ex, bo_ex, sq_ex, ri_ex, kwA_ap, drp_ap, runI_ap, rin_nx, rin_ex, satM_ap, Nat.reduceLeDiff, Nat.zero_le, Nat.reduceMul, lc1, lc2, n1, n2, i2 rfl]
  · rw [j2 rfl]
    simp only [G_lnear, g_lnear, runD_ap, List.length_cons, List.length_nil, Nat.reduceAdd, Nat.reduceSub, List.map_cons, List.map_nil, List.replicate_succ, List.replicate_zero, List.cons_append, List.nil_append, seqM_ap, sq_nx, sq_rt, stiM_ap, bnd_ap, bo_ok, op2_ap, op2v_ap, op1_ap, cst_ap, lift_so, ret_ap, pek_ap, lett_ap, pekD, List.getElem?_cons_zero, List.getElem?_cons_succ, ix_l, ix50, ix51, ix52, ix53, ix54, isLst, lstUp, lstAt, lstPut, Option.map_some, add_ii, List.set_cons_zero, List.set_cons_succ, ifS_ap, andM_ap, tst_ap, eq_ii, lt_ii, gt_ii, ge_ii, len_l, asBl_b, bf_t, bf_f, bf_d, if_true, if_false, ite_true, ite_false, decide_true, decide_false, setM_ap, put_ap, skp_ap, rtM_ap, ri_rt, int_i, abs_i, ixN50, ixN51, ixN52, ixN53, ixN54, walkA_ap, isiM_ap, kwD_ap, newM_ap, ni_ok, ni_ex, fldV_ap, fldM_ap, asgM_ap, parM_ap, parM3_ap, tgN_ap, tgT2, tgT3, tgCons_ap, tgNil_ap, calM_ap, acons_ap, anil_ap, rb_ok, rb_ow, tupM_ap, lstM_ap, slM_ap, noP_ap, prt_ap, forM_ap, rngM1_ap, rngM2_ap, lcM_ap, andV_ap, notV_ap, orV_ap, ifM_ap, orM_ap, notM_ap, tru_ap, tru_b, chn_ap, seqA_l, seqA_t, seqA_f, seqA_s, len_t, len_f, opN_ap, met0_ap, met1_ap, metT_ap, apnM_ap, rtF_ap, ri_nx, ri_ro, sq_bk, sq_ct, sq_ro, mkT_ok, mkL_ok, List.length_append, List.length_singleton, asI, Wp_ok, nxt_nx, nxt_rt, nxt_bk, nxt_ct, trn_nx, trn_ct, trn_bk, trn_rt, ends_nx, ends_rt, ix_t, leA_ii, le_ii, sub_ii, Bool.not_true, Bool.not_false, Bool.false_eq_true, Bool.true_eq_false, eq_bb, ne_bb, eq_ss, ne_ss, raiM_ap, tryM_ap, tr_ok, tr_ex, rb_ex, bo_ex, sq_ex, ri_ex, kwA_ap, drp_ap, runI_ap, rin_nx, rin_ex, satM_ap, Nat.reduceLeDiff, Nat.zero_le, Nat.reduceMul, lc1, lc2, n1, n2, i1 rfl, ng]
  · simp only [G_lnear, g_lnear, runD_ap, List.length_cons, List.length_nil, Nat.reduceAdd, Nat.reduceSub, List.map_cons, List.map_nil, List.replicate_succ, List.replicate_zero, List.cons_append, List.nil_append, seqM_ap, sq_nx, sq_rt, stiM_ap, bnd_ap, bo_ok, op2_ap, op2v_ap, op1_ap, cst_ap, lift_so, ret_ap, pek_ap, lett_ap, pekD, List.getElem?_cons_zero, List.getElem?_cons_succ, ix_l, ix50, ix51, ix52, ix53, ix54, isLst, lstUp, lstAt, lstPut, Option.map_some, add_ii, List.set_cons_zero, List.set_cons_succ, ifS_ap, andM_ap, tst_ap, eq_ii, lt_ii, gt_ii, ge_ii, len_l, asBl_b, bf_t, bf_f, bf_d, if_true, if_false, ite_true, ite_false, decide_true, decide_false, setM_ap, put_ap, skp_ap, rtM_ap, ri_rt, int_i, abs_i, ixN50, ixN51, ixN52, ixN53, ixN54, walkA_ap, isiM_ap, kwD_ap, newM_ap, ni_ok, ni_ex, fldV_ap, fldM_ap, asgM_ap, parM_ap, parM3_ap, tgN_ap, tgT2, tgT3, tgCons_ap, tgNil_ap, calM_ap, acons_ap, anil_ap, rb_ok, rb_ow, tupM_ap, lstM_ap, slM_ap, noP_ap, prt_ap, forM_ap, rngM1_ap, rngM2_ap, lcM_ap, andV_ap, notV_ap, orV_ap, ifM_ap, orM_ap, notM_ap, tru_ap, tru_b, chn_ap, seqA_l, seqA_t, seqA_f, seqA_s, len_t, len_f, opN_ap, met0_ap, met1_ap, metT_ap, apnM_ap, rtF_ap, ri_nx, ri_ro, sq_bk, sq_ct, sq_ro, mkT_ok, mkL_ok, List.length_append, List.length_singleton, asI, Wp_ok, nxt_nx, nxt_rt, nxt_bk, nxt_ct, trn_nx, trn_ct, trn_bk, trn_rt, ends_nx, ends_rt, ix_t, leA_ii, le_ii, sub_ii, Bool.not_true, Bool.not_false, Bool.false_eq_true, Bool.true_eq_false, eq_bb, ne_bb, eq_ss, ne_ss, raiM_ap, tryM_ap, tr_ok, tr_ex, rb_ex, bo_ex, sq_ex, ri_ex, kwA_ap, drp_ap, runI_ap, rin_nx, rin_ex, satM_ap, Nat.reduceLeDiff, Nat.zero_le, Nat.reduceMul, lc1, lc2, n1, n2, i1 rfl, i2 rfl, ng]
theorem near_run {ks : List Int} {p : Int} {μ : Sto} (hl : ks.length ≤ 1000) : G_lnear [.tup (ks.map D.int), .int p] μ = .ok (.tup [lstD .non (ks.filter fun k => decide (k < p)), fstD (ks.filter fun k => decide (p < k))]) μ := by
  have c1 := lc1 (ρ := [some (.sh (.tup (ks.map D.int))), some (.sh (.int p)), none, none, none]) (μ := μ) (i := 4) (ft := tst (op2 ltA (lett 4) (pek 1))) (fe := lett 4) D.int (fun k => decide (k < p)) D.int ks (by unfold lineN; omega) (fun k _ => ⟨by
    have lt : ltA (.int k) (.int p) = some (.bl (decide (k < p))) := rfl
    simp only [runD_ap, List.length_cons, List.length_nil, Nat.reduceAdd, Nat.reduceSub, List.map_cons, List.map_nil, List.replicate_succ, List.replicate_zero, List.cons_append, List.nil_append, seqM_ap, sq_nx, sq_rt, stiM_ap, bnd_ap, bo_ok, op2_ap, op2v_ap, op1_ap, cst_ap, lift_so, ret_ap, pek_ap, lett_ap, pekD, List.getElem?_cons_zero, List.getElem?_cons_succ, ix_l, ix50, ix51, ix52, ix53, ix54, isLst, lstUp, lstAt, lstPut, Option.map_some, add_ii, List.set_cons_zero, List.set_cons_succ, ifS_ap, andM_ap, tst_ap, eq_ii, lt_ii, gt_ii, ge_ii, len_l, asBl_b, bf_t, bf_f, bf_d, if_true, if_false, ite_true, ite_false, decide_true, decide_false, setM_ap, put_ap, skp_ap, rtM_ap, ri_rt, int_i, abs_i, ixN50, ixN51, ixN52, ixN53, ixN54, walkA_ap, isiM_ap, kwD_ap, newM_ap, ni_ok, ni_ex, fldV_ap, fldM_ap, asgM_ap, parM_ap, parM3_ap, tgN_ap, tgT2, tgT3, tgCons_ap, tgNil_ap, calM_ap, acons_ap, anil_ap, rb_ok, rb_ow, tupM_ap, lstM_ap, slM_ap, noP_ap, prt_ap, forM_ap, rngM1_ap, rngM2_ap, lcM_ap, andV_ap, notV_ap, orV_ap, ifM_ap, orM_ap, notM_ap, tru_ap, tru_b, chn_ap, seqA_l, seqA_t, seqA_f, seqA_s, len_t, len_f, opN_ap, met0_ap, met1_ap, metT_ap, apnM_ap, rtF_ap, ri_nx, ri_ro, sq_bk, sq_ct, sq_ro, mkT_ok, mkL_ok, List.length_append, List.length_singleton, asI, Wp_ok, nxt_nx, nxt_rt, nxt_bk, nxt_ct, trn_nx, trn_ct, trn_bk, trn_rt, ends_nx, ends_rt, ix_t, leA_ii, le_ii, sub_ii, Bool.not_true, Bool.not_false, Bool.false_eq_true, Bool.true_eq_false, eq_bb, ne_bb, eq_ss, ne_ss, raiM_ap, tryM_ap, tr_ok, tr_ex, rb_ex, bo_ex, sq_ex, ri_ex, kwA_ap, drp_ap, runI_ap, rin_nx, rin_ex, satM_ap, Nat.reduceLeDiff, Nat.zero_le, Nat.reduceMul, lt], fun _ => by simp only [runD_ap, List.length_cons, List.length_nil, Nat.reduceAdd, Nat.reduceSub, List.map_cons, List.map_nil, List.replicate_succ, List.replicate_zero, List.cons_append, List.nil_append, seqM_ap, sq_nx, sq_rt, stiM_ap, bnd_ap, bo_ok, op2_ap, op2v_ap, op1_ap, cst_ap, lift_so, ret_ap, pek_ap, lett_ap, pekD, List.getElem?_cons_zero, List.getElem?_cons_succ, ix_l, ix50, ix51, ix52, ix53, ix54, isLst, lstUp, lstAt, lstPut, Option.map_some, add_ii, List.set_cons_zero, List.set_cons_succ, ifS_ap, andM_ap, tst_ap, eq_ii, lt_ii, gt_ii, ge_ii, len_l, asBl_b, bf_t, bf_f, bf_d, if_true, if_false, ite_true, ite_false, decide_true, decide_false, setM_ap, put_ap, skp_ap, rtM_ap, ri_rt, int_i, abs_i, ixN50, ixN51, ixN52, ixN53, ixN54, walkA_ap, isiM_ap, kwD_ap, newM_ap, ni_ok, ni_ex, fldV_ap, fldM_ap, asgM_ap, parM_ap, parM3_ap, tgN_ap, tgT2, tgT3, tgCons_ap, tgNil_ap, calM_ap, acons_ap, anil_ap, rb_ok, rb_ow, tupM_ap, lstM_ap, slM_ap, noP_ap, prt_ap, forM_ap, rngM1_ap, rngM2_ap, lcM_ap, andV_ap, notV_ap, orV_ap, ifM_ap, orM_ap, notM_ap, tru_ap, tru_b, chn_ap, seqA_l, seqA_t, seqA_f, seqA_s, len_t, len_f, opN_ap, met0_ap, met1_ap, metT_ap, apnM_ap, rtF_ap, ri_nx, ri_ro, sq_bk, sq_ct, sq_ro, mkT_ok, mkL_ok, List.length_append, List.length_singleton, asI, Wp_ok, nxt_nx, nxt_rt, nxt_bk, nxt_ct, trn_nx, trn_ct, trn_bk, trn_rt, ends_nx, ends_rt, ix_t, leA_ii, le_ii, sub_ii, Bool.not_true, Bool.not_false, Bool.false_eq_true, Bool.true_eq_false, eq_bb, ne_bb, eq_ss, ne_ss, raiM_ap, tryM_ap, tr_ok, tr_ex, rb_ex, bo_ex, sq_ex, ri_ex, kwA_ap, drp_ap, runI_ap, rin_nx, rin_ex, satM_ap, Nat.reduceLeDiff, Nat.zero_le, Nat.reduceMul]⟩)
  have c2 := lc1 (ρ := [some (.sh (.tup (ks.map D.int))), some (.sh (.int p)), none, none, none]) (μ := μ) (i := 4) (ft := tst (op2 gtD (lett 4) (pek 1))) (fe := lett 4) D.int (fun k => decide (p < k)) D.int ks (by unfold lineN; omega) (fun k _ => ⟨by
    have gt : gtD (.int k) (.int p) = some (.bl (decide (p < k))) := rfl
    simp only [runD_ap, List.length_cons, List.length_nil, Nat.reduceAdd, Nat.reduceSub, List.map_cons, List.map_nil, List.replicate_succ, List.replicate_zero, List.cons_append, List.nil_append, seqM_ap, sq_nx, sq_rt, stiM_ap, bnd_ap, bo_ok, op2_ap, op2v_ap, op1_ap, cst_ap, lift_so, ret_ap, pek_ap, lett_ap, pekD, List.getElem?_cons_zero, List.getElem?_cons_succ, ix_l, ix50, ix51, ix52, ix53, ix54, isLst, lstUp, lstAt, lstPut, Option.map_some, add_ii, List.set_cons_zero, List.set_cons_succ, ifS_ap, andM_ap, tst_ap, eq_ii, lt_ii, gt_ii, ge_ii, len_l, asBl_b, bf_t, bf_f, bf_d, if_true, if_false, ite_true, ite_false, decide_true, decide_false, setM_ap, put_ap, skp_ap, rtM_ap, ri_rt, int_i, abs_i, ixN50, ixN51, ixN52, ixN53, ixN54, walkA_ap, isiM_ap, kwD_ap, newM_ap, ni_ok, ni_ex, fldV_ap, fldM_ap, asgM_ap, parM_ap, parM3_ap, tgN_ap, tgT2, tgT3, tgCons_ap, tgNil_ap, calM_ap, acons_ap, anil_ap, rb_ok, rb_ow, tupM_ap, lstM_ap, slM_ap, noP_ap, prt_ap, forM_ap, rngM1_ap, rngM2_ap, lcM_ap, andV_ap, notV_ap, orV_ap, ifM_ap, orM_ap, notM_ap, tru_ap, tru_b, chn_ap, seqA_l, seqA_t, seqA_f, seqA_s, len_t, len_f, opN_ap, met0_ap, met1_ap, metT_ap, apnM_ap, rtF_ap, ri_nx, ri_ro, sq_bk, sq_ct, sq_ro, mkT_ok, mkL_ok, List.length_append, List.length_singleton, asI, Wp_ok, nxt_nx, nxt_rt, nxt_bk, nxt_ct, trn_nx, trn_ct, trn_bk, trn_rt, ends_nx, ends_rt, ix_t, leA_ii, le_ii, sub_ii, Bool.not_true, Bool.not_false, Bool.false_eq_true, Bool.true_eq_false, eq_bb, ne_bb, eq_ss, ne_ss, raiM_ap, tryM_ap, tr_ok, tr_ex, rb_ex, bo_ex, sq_ex, ri_ex, kwA_ap, drp_ap, runI_ap, rin_nx, rin_ex, satM_ap, Nat.reduceLeDiff, Nat.zero_le, Nat.reduceMul, gt], fun _ => by simp only [runD_ap, List.length_cons, List.length_nil, Nat.reduceAdd, Nat.reduceSub, List.map_cons, List.map_nil, List.replicate_succ, List.replicate_zero, List.cons_append, List.nil_append, seqM_ap, sq_nx, sq_rt, stiM_ap, bnd_ap, bo_ok, op2_ap, op2v_ap, op1_ap, cst_ap, lift_so, ret_ap, pek_ap, lett_ap, pekD, List.getElem?_cons_zero, List.getElem?_cons_succ, ix_l, ix50, ix51, ix52, ix53, ix54, isLst, lstUp, lstAt, lstPut, Option.map_some, add_ii, List.set_cons_zero, List.set_cons_succ, ifS_ap, andM_ap, tst_ap, eq_ii, lt_ii, gt_ii, ge_ii, len_l, asBl_b, bf_t, bf_f, bf_d, if_true, if_false, ite_true, ite_false, decide_true, decide_false, setM_ap, put_ap, skp_ap, rtM_ap, ri_rt, int_i, abs_i, ixN50, ixN51, ixN52, ixN53, ixN54, walkA_ap, isiM_ap, kwD_ap, newM_ap, ni_ok, ni_ex, fldV_ap, fldM_ap, asgM_ap, parM_ap, parM3_ap, tgN_ap, tgT2, tgT3, tgCons_ap, tgNil_ap, calM_ap, acons_ap, anil_ap, rb_ok, rb_ow, tupM_ap, lstM_ap, slM_ap, noP_ap, prt_ap, forM_ap, rngM1_ap, rngM2_ap, lcM_ap, andV_ap, notV_ap, orV_ap, ifM_ap, orM_ap, notM_ap, tru_ap, tru_b, chn_ap, seqA_l, seqA_t, seqA_f, seqA_s, len_t, len_f, opN_ap, met0_ap, met1_ap, metT_ap, apnM_ap, rtF_ap, ri_nx, ri_ro, sq_bk, sq_ct, sq_ro, mkT_ok, mkL_ok, List.length_append, List.length_singleton, asI, Wp_ok, nxt_nx, nxt_rt, nxt_bk, nxt_ct, trn_nx, trn_ct, trn_bk, trn_rt, ends_nx, ends_rt, ix_t, leA_ii, le_ii, sub_ii, Bool.not_true, Bool.not_false, Bool.false_eq_true, Bool.true_eq_false, eq_bb, ne_bb, eq_ss, ne_ss, raiM_ap, tryM_ap, tr_ok, tr_ex, rb_ex, bo_ex, sq_ex, ri_ex, kwA_ap, drp_ap, runI_ap, rin_nx, rin_ex, satM_ap, Nat.reduceLeDiff, Nat.zero_le, Nat.reduceMul]⟩)
  refine near_g c1 c2 (ne_ln (flat_int _)) (ne_ln (flat_int _)) (fun h => ?_) (fun h => ?_) (fun h => ?_) (fun h => ?_)
  · cases e : ks.filter fun k => decide (k < p) with
    | nil => rw [e] at h; cases h
    | cons a l => exact lst_at a l .non
  · cases e : ks.filter fun k => decide (p < k) with
    | nil => rw [e] at h; cases h
    | cons a l => exact atI_nat (ds := (a :: l).map D.int) (by decide) rfl
  · cases e : ks.filter fun k => decide (k < p) with
    | nil => rfl
    | cons a l => rw [e] at h; cases h
  · cases e : ks.filter fun k => decide (p < k) with
    | nil => rfl
    | cons a l => rw [e] at h; cases h
theorem near_ok {ks : List Int} {p : Int} {μ : Sto} (hl : ks.length ≤ 1000) : ∃ v, Sm 3 v ∧ G_neighbours_of [.tup (ks.map D.int), .int p] μ = .ok v μ ∧ G_lnear [.tup (ks.map D.int), .int p] μ = .ok v μ := by
  refine ⟨_, ?_, ?_, near_run hl⟩
  · refine .tup _ (by show 2 ≤ 1000; decide) fun d hd => ?_
    simp only [List.mem_cons, List.not_mem_nil, or_false] at hd
    rcases hd with rfl | rfl
    · have h : ∀ (xs : List Int) (d : D), Sm 2 d → Sm 2 (lstD d xs) := fun xs => by
        induction xs with
        | nil => exact fun d h => h
        | cons x xs ih => exact fun d _ => ih _ (.int _ x)
      exact h _ _ (.non _)
    · cases ks.filter fun k => decide (p < k) with
      | nil => exact .non _
      | cons k r => exact .int _ k
  · rw [nb_run, lst_l, fst_g]
end L2.DL.K02

namespace L2.DL.K02
open PySem PySem.Spec PyProof.Rows
/-! ### the law -/
abbrev pA : Mo Fl := (seqM (setM 5 (calM G_lof (acons (lett 1) (acons (lstM (acons (calM G_ltuple (acons (lett 1) (acons (lett 7) anil))) (acons (calM G_ltuple (acons (lett 1) (acons (lett 7) anil))) (acons (calM G_lword (acons (lett 1) anil)) (acons (calM G_lnumber (acons (lett 1) anil)) anil))))) anil)))) (seqM (setM 10 (lstM (acons (calM G_lis_key (acons (lett 5) anil)) (acons (calM G_lis_set (acons (lett 5) anil)) (acons (andV (calM G_lis_set (acons (lett 5) anil)) (op2 gtD (op1 lenD (pek 5)) (cst (.int 0)))) (acons (calM G_lis_name (acons (lett 5) anil)) anil)))))) (seqM (setM 11 (ownM [("Row", G_Row_repr)] strR reprN (lett 5))) (ifS (orM (notM (tru (calM G_lsame (acons (lstM (acons (calM G_ljudged (acons (lett 5) (acons (cst (.bl false)) anil))) (acons (calM G_ljudged (acons (lett 5) (acons (cst (.bl true)) anil))) anil))) (acons (lstM (acons (lett 10) (acons (lett 10) anil))) anil))))) (tst (op2 neD (ownM [("Row", G_Row_repr)] strR reprN (lett 5)) (pek 11)))) (rtM (cst (.bl false))) skp))))
abbrev pC : Mo Fl := (ifS (notM (tru (calM G_lsame (acons (calM G_lstretch (acons (lett 7) (acons (lett 12) (acons (lett 17) (acons (op2 eqQ (lett 8) (cst (.int 1))) anil))))) (acons (calM G_lstretch_due (acons (lett 7) (acons (lett 12) (acons (lett 17) anil)))) anil))))) (rtM (cst (.bl false))) skp)
abbrev pD : Mo Fl := (seqM (setM 6 (ifM (tst (op2 eqQ (lett 8) (cst (.int 2)))) (calM G_neighbours_of (kwA 0 2 [1, 0] anil (acons (lett 12) (acons (lett 7) anil)))) (calM G_neighbours_of (acons (lett 7) (acons (lett 12) anil))))) (ifS (notM (tru (calM G_lsame (acons (lett 6) (acons (calM G_lnear (acons (lett 7) (acons (lett 12) anil))) anil))))) (rtM (cst (.bl false))) skp))
abbrev pF : Mo Fl := (ifS (notM (tru (calM G_lsame (acons (calM G_ljudged (acons (lett 5) (acons (cst (.bl false)) anil))) (acons (lstM (acons (cst (.bl false)) (acons (calM G_lis_set (acons (lett 5) anil)) (acons (calM G_lis_set (acons (lett 5) anil)) (acons (cst (.bl false)) anil))))) anil))))) (rtM (cst (.bl false))) skp)
abbrev pB : Mo Fl := (seqM (parM3 9 13 14 (acons (calM G_lof (acons (lett 1) (acons (op2 addD (op1 listD (pek 7)) (lstM (acons (cst (.int 7)) anil))) anil))) (acons (calM G_lof (acons (lett 1) (acons (op2 addD (op1 listD (pek 7)) (lstM (acons (cst (.int 0)) anil))) anil))) (acons (calM G_lstranger (acons (lett 1) (acons (lett 7) anil))) anil)))) (seqM (parM 15 16 (acons (calM G_lodd (acons (lett 1) (acons (lett 7) (acons (lstM (acons (lett 14) anil)) anil)))) (acons (calM G_lodd (acons (lett 1) (acons (slM (lett 7) noP (prt (cst (.int 1)))) (acons (lstM (acons (lstM (acons (lett 9) anil)) (acons (tupM (acons (lett 13) anil)) anil))) anil)))) anil))) (seqM (forM (walkA (lstM (acons (tupM (acons (lett 9) (acons (lett 13) anil))) (acons (tupM (acons (lett 13) (acons (lett 9) anil))) (acons (tupM (acons (lett 9) (acons (lett 9) anil))) (acons (tupM (acons (lett 9) (acons (lett 15) anil))) (acons (tupM (acons (lett 15) (acons (lett 13) anil))) (acons (tupM (acons (lett 15) (acons (lett 16) anil))) (acons (tupM (acons (lett 16) (acons (lett 15) anil))) (acons (tupM (acons (cst (.bl true)) (acons (lett 9) anil))) (acons (tupM (acons (lett 13) (acons (cst (.bl false)) anil))) anil))))))))))) (tgT 2 (tgCons (tgN 12) (tgCons (tgN 17) tgNil))) pC) (forM (walkA (lstM (acons (lett 9) (acons (lett 13) (acons (lett 14) (acons (calM G_ldraw (acons (lett 1) (acons (cst (.int 1000)) anil))) (acons (cst (.int 0)) (acons (cst (.int 999)) anil)))))))) (tgN 12) pD))))
abbrev pT : Mo Fl := (seqM (setM 7 (calM G_lkeys (acons (lett 1) (acons (calM G_lof (acons (lett 1) (acons (lstM (acons (cst (.int 0)) (acons (cst (.int 1)) (acons (cst (.int 2)) (acons (cst (.int 3)) (acons (cst (.int 5)) (acons (cst (.int 8)) (acons (cst (.int 12)) (acons (cst (.int 13)) (acons (cst (.int 30)) (acons (cst (.int 60)) anil))))))))))) anil))) anil)))) (seqM (forM (rngM1 (acons (cst (.int 3)) anil)) (tgN 8) pA) (forM (rngM1 (acons (cst (.int 3)) anil)) (tgN 8) pB)))
abbrev pE : Mo Fl := (seqM (setM 3 (slM (tupR3 (acons (calM G_ldraw (acons (lett 1) (acons (cst (.int 600)) anil))) (acons (cst (.int 1000)) (acons (op2 addD (cst (.int 1)) (calM G_ldraw (acons (lett 1) (acons (cst (.int 3)) anil)))) anil)))) noP (prt (calM G_lof (acons (lett 1) (acons (lstM (acons (cst (.int 400)) (acons (cst (.int 399)) (acons (cst (.int 399)) (acons (cst (.int 400)) (acons (cst (.int 13)) anil)))))) anil)))))) (seqM (parM 9 8 (acons (calM G_lof (acons (lett 1) (acons (lett 3) anil))) (acons (calM G_ldraw (acons (lett 1) (acons (op1 lenD (pek 3)) anil))) anil))) (seqM (setM 4 (op2 addD (op2 addD (slM (lett 3) noP (prt (lett 8))) (tupM (acons (calM G_lof (acons (lett 1) (acons (lstM (acons (cst (.bl true)) (acons (lett 9) (acons (cst (.int 1000)) (acons (op1 negD (cst (.int 1))) (acons (cst .non) (acons (cst (.str "3")) anil))))))) anil))) anil))) (slM (lett 3) (prt (op2 addD (lett 8) (cst (.int 1)))) noP))) (seqM (forM (walkA (lstM (acons (lett 3) (acons (lett 4) anil)))) (tgN 5) pF) (seqM (setM 6 (lstM (acons (calM G_lstretch (acons (lett 3) (acons (lett 9) (acons (op2v ixD 3 (lett 8)) (acons (cst (.bl false)) anil))))) (acons (calM G_neighbours_of (acons (lett 3) (acons (lett 9) anil))) anil)))) (rtM (calM G_lsame (acons (lett 6) (acons (lstM (acons (calM G_lstretch_due (acons (lett 3) (acons (lett 9) (acons (op2v ixD 3 (lett 8)) anil)))) (acons (calM G_lnear (acons (lett 3) (acons (lett 9) anil))) anil))) anil)))))))))
theorem g_law_eq : g_law = (seqM (setF 1 (cawM G_lbag (acons (lett 0) anil))) (celM 1 (seqM (forM (rngM1 (acons (cst (.int 6)) anil)) (tgN 2) pT) pE))) := rfl
abbrev pC9 (p q o w : D) : List D := [.tup [p, q], .tup [q, p], .tup [p, p], .tup [p, o], .tup [o, q], .tup [o, w], .tup [w, o], .tup [.bl true, p], .tup [q, .bl false]]
/-- the script, the bag, the keys -/
def Sh (s K : D) (ρ : Env) : Prop := ∃ e2 e3 e4 e5 e6 e8 e9 e10 e11 e12 e13 e14 e15 e16 e17 : Option Ent, ρ = [some (.sh s), some (.sh (.cell 0)), e2, e3, e4, e5, e6, some (.sh K), e8, e9, e10, e11, e12, e13, e14, e15, e16, e17]
theorem own_r {f : Mo D} {ρ : Env} {μ : Sto} : ownM [("Row", G_Row_repr)] strR reprN f ρ μ = bo (f ρ μ) fun d => reprO d := ownM_ap
theorem pA_run {s K a b c d v h : D} {bk bs bl bn : Bool} {t : Str} {μ μ1 μ2 μ3 μ4 μ5 : Sto} {e2 e3 e4 e5 e6 e8 e9 e10 e11 e12 e13 e14 e15 e16 e17 : Option Ent} {Q : Fl → Env → Sto → Prop}
    (x1 : G_ltuple [.cell 0, K] μ = .ok a μ1) (x2 : G_ltuple [.cell 0, K] μ1 = .ok b μ2) (x3 : G_lword [.cell 0] μ2 = .ok c μ3) (x4 : G_lnumber [.cell 0] μ3 = .ok d μ4) (x5 : G_lof [.cell 0, .lst [a, b, c, d]] μ4 = .ok v μ5)
    (y1 : G_lis_key [v] μ5 = .ok (.bl bk) μ5) (y2 : G_lis_set [v] μ5 = .ok (.bl bs) μ5) (y3 : (bs = false ∧ bl = false) ∨ (bs = true ∧ ∃ l : Int, lenD v = some (.int l) ∧ gtD (.int l) (.int 0) = some (.bl bl))) (y4 : G_lis_name [v] μ5 = .ok (.bl bn) μ5)
    (pe : pekD v μ5 = some v) (r : ∀ ρ μ, reprO v ρ μ = .ok (.str t) ρ μ) (j0 : ∀ b, G_ljudged [v, .bl b] μ5 = .ok (.lst [.bl bk, .bl bs, .bl bl, .bl bn]) μ5) (sm : G_lsame [.lst [.lst [.bl bk, .bl bs, .bl bl, .bl bn], .lst [.bl bk, .bl bs, .bl bl, .bl bn]], .lst [.lst [.bl bk, .bl bs, .bl bl, .bl bn], .lst [.bl bk, .bl bs, .bl bl, .bl bn]]] μ5 = .ok (.bl true) μ5)
    (J : Env → Sto → Prop) (hJ : ∀ ρ, Sh s K ρ → J ρ μ5) : Wp (bo (tgN 8 h [some (.sh s), some (.sh (.cell 0)), e2, e3, e4, e5, e6, some (.sh K), e8, e9, e10, e11, e12, e13, e14, e15, e16, e17] μ) fun _ => pA) (trn J Q) := by
  have nt : neD (.str t) (.str t) = some (.bl false) := by rw [ne_ss, decide_eq_true rfl]; rfl
  have pt : pekD (.str t) μ5 = some (.str t) := rfl
  rcases y3 with ⟨rfl, rfl⟩ | ⟨rfl, l, y5, y6⟩
  · simp only [pA, runD_ap, List.length_cons, List.length_nil, Nat.reduceAdd, Nat.reduceSub, List.map_cons, List.map_nil, List.replicate_succ, List.replicate_zero, List.cons_append, List.nil_append, seqM_ap, sq_nx, sq_rt, stiM_ap, bnd_ap, bo_ok, op2_ap, op2v_ap, op1_ap, cst_ap, lift_so, ret_ap, pek_ap, lett_ap, List.getElem?_cons_zero, List.getElem?_cons_succ, ix_l, ix50, ix51, ix52, ix53, ix54, isLst, lstUp, lstAt, lstPut, Option.map_some, add_ii, List.set_cons_zero, List.set_cons_succ, ifS_ap, andM_ap, tst_ap, eq_ii, lt_ii, gt_ii, ge_ii, len_l, asBl_b, bf_t, bf_f, bf_d, if_true, if_false, ite_true, ite_false, decide_true, decide_false, setM_ap, put_ap, skp_ap, rtM_ap, ri_rt, int_i, abs_i, ixN50, ixN51, ixN52, ixN53, ixN54, walkA_ap, isiM_ap, kwD_ap, newM_ap, ni_ok, ni_ex, fldV_ap, fldM_ap, asgM_ap, parM_ap, parM3_ap, tgN_ap, tgT2, tgT3, tgCons_ap, tgNil_ap, calM_ap, acons_ap, anil_ap, rb_ok, rb_ow, tupM_ap, lstM_ap, slM_ap, noP_ap, prt_ap, forM_ap, rngM1_ap, rngM2_ap, lcM_ap, andV_ap, notV_ap, orV_ap, ifM_ap, orM_ap, notM_ap, tru_ap, tru_b, chn_ap, seqA_l, seqA_t, seqA_f, seqA_s, len_t, len_f, opN_ap, met0_ap, met1_ap, metT_ap, apnM_ap, rtF_ap, ri_nx, ri_ro, sq_bk, sq_ct, sq_ro, mkT_ok, mkL_ok, List.length_append, List.length_singleton, asI, Wp_ok, nxt_nx, nxt_rt, nxt_bk, nxt_ct, trn_nx, trn_ct, trn_bk, trn_rt, ends_nx, ends_rt, ix_t, leA_ii, le_ii, sub_ii, Bool.not_true, Bool.not_false, Bool.false_eq_true, Bool.true_eq_false, eq_bb, ne_bb, eq_ss, ne_ss, raiM_ap, tryM_ap, tr_ok, tr_ex, rb_ex, bo_ex, sq_ex, ri_ex, kwA_ap, drp_ap, runI_ap, rin_nx, rin_ex, satM_ap, Nat.reduceLeDiff, Nat.zero_le, Nat.reduceMul, own_r, pe, pt, x1, x2, x3, x4, x5, y1, y2, y4, r, j0, sm, nt]
    exact hJ _ ⟨_, _, _, _, _, _, _, _, _, _, _, _, _, _, _, rfl⟩
  · simp only [pA, runD_ap, List.length_cons, List.length_nil, Nat.reduceAdd, Nat.reduceSub, List.map_cons, List.map_nil, List.replicate_succ, List.replicate_zero, List.cons_append, List.nil_append, seqM_ap, sq_nx, sq_rt, stiM_ap, bnd_ap, bo_ok, op2_ap, op2v_ap, op1_ap, cst_ap, lift_so, ret_ap, pek_ap, lett_ap, List.getElem?_cons_zero, List.getElem?_cons_succ, ix_l, ix50, ix51, ix52, ix53, ix54, isLst, lstUp, lstAt, lstPut, Option.map_some, add_ii, List.set_cons_zero, List.set_cons_succ, ifS_ap, andM_ap, tst_ap, eq_ii, lt_ii, gt_ii, ge_ii, len_l, asBl_b, bf_t, bf_f, bf_d, if_true, if_false, ite_true, ite_false, decide_true, decide_false, setM_ap, put_ap, skp_ap, rtM_ap, ri_rt, int_i, abs_i, ixN50, ixN51, ixN52, ixN53, ixN54, walkA_ap, isiM_ap, kwD_ap, newM_ap, ni_ok, ni_ex, fldV_ap, fldM_ap, asgM_ap, parM_ap, parM3_ap, tgN_ap, tgT2, tgT3, tgCons_ap, tgNil_ap, calM_ap, acons_ap, anil_ap, rb_ok, rb_ow, tupM_ap, lstM_ap, slM_ap, noP_ap, prt_ap, forM_ap, rngM1_ap, rngM2_ap, lcM_ap, andV_ap, notV_ap, orV_ap, ifM_ap, orM_ap, notM_ap, tru_ap, tru_b, chn_ap, seqA_l, seqA_t, seqA_f, seqA_s, len_t, len_f, opN_ap, met0_ap, met1_ap, metT_ap, apnM_ap, rtF_ap, ri_nx, ri_ro, sq_bk, sq_ct, sq_ro, mkT_ok, mkL_ok, List.length_append, List.length_singleton, asI, Wp_ok, nxt_nx, nxt_rt, nxt_bk, nxt_ct, trn_nx, trn_ct, trn_bk, trn_rt, ends_nx, ends_rt, ix_t, leA_ii, le_ii, sub_ii, Bool.not_true, Bool.not_false, Bool.false_eq_true, Bool.true_eq_false, eq_bb, ne_bb, eq_ss, ne_ss, raiM_ap, tryM_ap, tr_ok, tr_ex, rb_ex, bo_ex, sq_ex, ri_ex, kwA_ap, drp_ap, runI_ap, rin_nx, rin_ex, satM_ap, Nat.reduceLeDiff, Nat.zero_le, Nat.reduceMul, own_r, pe, pt, x1, x2, x3, x4, x5, y1, y2, y5, y6, y4, r, j0, sm, nt]
    exact hJ _ ⟨_, _, _, _, _, _, _, _, _, _, _, _, _, _, _, rfl⟩
theorem pek_pv {v : D} {μ : Sto} (h : Pv v) : pekD v μ = some v := by cases h <;> rfl
theorem lot_len {v : D} : (isSet v = false ∧ isLot v = false) ∨ (isSet v = true ∧ ∃ l : Int, lenD v = some (.int l) ∧ gtD (.int l) (.int 0) = some (.bl (isLot v))) := by
  cases h : isSet v with
  | false =>
    refine .inl ⟨rfl, ?_⟩
    unfold isLot
    rw [h] <;> rfl
  | true =>
    refine .inr ⟨rfl, ?_⟩
    cases v with
    | tup ds =>
      refine ⟨ds.length, rfl, ?_⟩
      have g : gtD (.int ds.length) (.int 0) = some (.bl (decide ((0 : Int) < ds.length))) := rfl
      rw [g]
      unfold isLot
      rw [h]
      cases ds with
      | nil => rfl
      | cons x xs =>
        rw [decide_eq_true (by rw [List.length_cons]; omega)]
        rfl
    | _ => cases h
theorem sm_jdg (bk bs bl bn : Bool) : Sm 5 (.lst [.lst [.bl bk, .bl bs, .bl bl, .bl bn], .lst [.bl bk, .bl bs, .bl bl, .bl bn]]) := by
  have one : Sm 4 (.lst [.bl bk, .bl bs, .bl bl, .bl bn]) := .lst _ (by show 4 ≤ 1000; decide) fun d hd => by
    simp only [List.mem_cons, List.not_mem_nil, or_false] at hd
    rcases hd with rfl | rfl | rfl | rfl <;> exact .bl _ _
  exact .lst _ (by show 2 ≤ 1000; decide) fun d hd => by
    simp only [List.mem_cons, List.not_mem_nil, or_false] at hd
    rcases hd with rfl | rfl <;> exact one
theorem pA_ok {n : Int} {μ : Sto} {ks : List Int} {s h : D} {ρ : Env} {Q : Fl → Env → Sto → Prop} (B : Bag n μ) (hn : n < 700000) (k : KS ks) (hl : ks.length ≤ 100) (hs : Sh s (.tup (ks.map D.int)) ρ) :
    Wp (bo (tgN 8 h ρ μ) fun _ => pA) (trn (fun ρ μ => Sh s (.tup (ks.map D.int)) ρ ∧ Bag (n + 50) μ) Q) := by
  obtain ⟨e2, e3, e4, e5, e6, e8, e9, e10, e11, e12, e13, e14, e15, e16, e17, rfl⟩ := hs
  obtain ⟨a, μ1, x1, va, B1⟩ := tup_ok B (by omega) k hl
  obtain ⟨b, μ2, x2, vb, B2⟩ := tup_ok B1 (by omega) k hl
  obtain ⟨c, μ3, x3, gc, B3⟩ := word_ok B2 (by omega)
  obtain ⟨d, μ4, x4, gd, B4⟩ := num_ok B3 (by omega)
  obtain ⟨v, μ5, hv, x5, B5⟩ := of_lst (ds := [a, b, c, d]) B4 (by omega) (by show (0 : Nat) < 4; decide) (by show (4 : Nat) ≤ 1000; decide)
  have vv : Vv v := by
    simp only [List.mem_cons, List.not_mem_nil, or_false] at hv
    rcases hv with rfl | rfl | rfl | rfl
    · exact va
    · exact vb
    · exact gc.vv (by decide) (by decide)
    · exact gd.vv (by decide) (by decide)
  obtain ⟨t, r⟩ := vv.rp
  exact pA_run x1 x2 x3 x4 x5 (lkey_ok vv.pv) (lset_ok vv.pv vv.ln) lot_len (lname_ok vv.pv) (pek_pv vv.pv) r (fun b => judged_ok vv.pv) (same_ok (sm_jdg _ _ _ _)) _ fun ρ hs => ⟨hs, B5.up (by omega)⟩
abbrev E2 (s K i p q k o w : D) (e2 e3 e4 e5 e6 e10 e11 e12 e17 : Option Ent) : Env := [some (.sh s), some (.sh (.cell 0)), e2, e3, e4, e5, e6, some (.sh K), some (.sh i), some (.sh p), e10, e11, e12, some (.sh q), some (.sh k), some (.sh o), some (.sh w), e17]
def Sh2 (s K i p q k o w : D) (ρ : Env) : Prop := ∃ e2 e3 e4 e5 e6 e10 e11 e12 e17 : Option Ent, ρ = E2 s K i p q k o w e2 e3 e4 e5 e6 e10 e11 e12 e17
theorem pC_ok {μ : Sto} {ks : List Int} {i : Int} {s p q k o w x y : D} {ρ : Env} {J : Env → Sto → Prop} {Q : Fl → Env → Sto → Prop} (hl : ks.length ≤ 1000) (gx : Gw 3 40000 x) (gy : Gw 3 40000 y) (hs : Sh2 s (.tup (ks.map D.int)) (.int i) p q k o w ρ) (hJ : ∀ ρ, Sh2 s (.tup (ks.map D.int)) (.int i) p q k o w ρ → J ρ μ) :
    Wp (bo (tgT 2 (tgCons (tgN 12) (tgCons (tgN 17) tgNil)) (.tup [x, y]) ρ μ) fun _ => pC) (trn J Q) := by
  obtain ⟨e2, e3, e4, e5, e6, e10, e11, e12, e17, rfl⟩ := hs
  obtain ⟨v, sm, x1, x2⟩ := stretch_ok (ks := ks) (μ := μ) hl gx gy
  have x1 := x1 (decide (i = 1))
  have x3 := same_ok (μ := μ) sm.up
  have eq : eqQ (.int i) (.int 1) = some (.bl (decide (i = 1))) := rfl
  obtain ⟨K, hK⟩ : ∃ K, D.tup (ks.map D.int) = K := ⟨_, rfl⟩
  rw [hK] at x1 x2 hJ ⊢
  simp only [pC, E2, runD_ap, List.length_cons, List.length_nil, Nat.reduceAdd, Nat.reduceSub, List.map_cons, List.map_nil, List.replicate_succ, List.replicate_zero, List.cons_append, List.nil_append, seqM_ap, sq_nx, sq_rt, stiM_ap, bnd_ap, bo_ok, op2_ap, op2v_ap, op1_ap, cst_ap, lift_so, ret_ap, pek_ap, lett_ap, pekD, List.getElem?_cons_zero, List.getElem?_cons_succ, ix_l, ix50, ix51, ix52, ix53, ix54, isLst, lstUp, lstAt, lstPut, Option.map_some, add_ii, List.set_cons_zero, List.set_cons_succ, ifS_ap, andM_ap, tst_ap, eq_ii, lt_ii, gt_ii, ge_ii, len_l, asBl_b, bf_t, bf_f, bf_d, if_true, if_false, ite_true, ite_false, decide_true, decide_false, setM_ap, put_ap, skp_ap, rtM_ap, ri_rt, int_i, abs_i, ixN50, ixN51, ixN52, ixN53, ixN54, walkA_ap, isiM_ap, kwD_ap, newM_ap, ni_ok, ni_ex, fldV_ap, fldM_ap, asgM_ap, parM_ap, parM3_ap, tgN_ap, tgT2, tgT3, tgCons_ap, tgNil_ap, calM_ap, acons_ap, anil_ap, rb_ok, rb_ow, tupM_ap, lstM_ap, slM_ap, noP_ap, prt_ap, forM_ap, rngM1_ap, rngM2_ap, lcM_ap, andV_ap, notV_ap, orV_ap, ifM_ap, orM_ap, notM_ap, tru_ap, tru_b, chn_ap, seqA_l, seqA_t, seqA_f, seqA_s, len_t, len_f, opN_ap, met0_ap, met1_ap, metT_ap, apnM_ap, rtF_ap, ri_nx, ri_ro, sq_bk, sq_ct, sq_ro, mkT_ok, mkL_ok, List.length_append, List.length_singleton, asI, Wp_ok, nxt_nx, nxt_rt, nxt_bk, nxt_ct, trn_nx, trn_ct, trn_bk, trn_rt, ends_nx, ends_rt, ix_t, leA_ii, le_ii, sub_ii, Bool.not_true, Bool.not_false, Bool.false_eq_true, Bool.true_eq_false, eq_bb, ne_bb, eq_ss, ne_ss, raiM_ap, tryM_ap, tr_ok, tr_ex, rb_ex, bo_ex, sq_ex, ri_ex, kwA_ap, drp_ap, runI_ap, rin_nx, rin_ex, satM_ap, Nat.reduceLeDiff, Nat.zero_le, Nat.reduceMul, eq, x1, x2, x3]
  exact hJ _ ⟨_, _, _, _, _, _, _, _, _, rfl⟩
theorem pD_ok {μ : Sto} {ks : List Int} {i x : Int} {s p q k o w : D} {ρ : Env} {J : Env → Sto → Prop} {Q : Fl → Env → Sto → Prop} (hl : ks.length ≤ 1000) (hs : Sh2 s (.tup (ks.map D.int)) (.int i) p q k o w ρ) (hJ : ∀ ρ, Sh2 s (.tup (ks.map D.int)) (.int i) p q k o w ρ → J ρ μ) :
    Wp (bo (tgN 12 (.int x) ρ μ) fun _ => pD) (trn J Q) := by
  obtain ⟨e2, e3, e4, e5, e6, e10, e11, e12, e17, rfl⟩ := hs
  obtain ⟨v, sm, x1, x2⟩ := near_ok (ks := ks) (p := x) (μ := μ) hl
  have x3 := same_ok (μ := μ) ((sm.up).up)
  have eq : eqQ (.int i) (.int 2) = some (.bl (decide (i = 2))) := rfl
  obtain ⟨K, hK⟩ : ∃ K, D.tup (ks.map D.int) = K := ⟨_, rfl⟩
  rw [hK] at x1 x2 hJ ⊢
  have pk1 : pick [1, 0] [.int x, K] = [K, .int x] := rfl
  by_cases h : i = 2
  · rw [decide_eq_true h] at eq
    simp only [pD, E2, runD_ap, List.length_cons, List.length_nil, Nat.reduceAdd, Nat.reduceSub, List.map_cons, List.map_nil, List.replicate_succ, List.replicate_zero, List.cons_append, List.nil_append, seqM_ap, sq_nx, sq_rt, stiM_ap, bnd_ap, bo_ok, op2_ap, op2v_ap, op1_ap, cst_ap, lift_so, ret_ap, pek_ap, lett_ap, pekD, List.getElem?_cons_zero, List.getElem?_cons_succ, ix_l, ix50, ix51, ix52, ix53, ix54, isLst, lstUp, lstAt, lstPut, Option.map_some, add_ii, List.set_cons_zero, List.set_cons_succ, ifS_ap, andM_ap, tst_ap, eq_ii, lt_ii, gt_ii, ge_ii, len_l, asBl_b, bf_t, bf_f, bf_d, if_true, if_false, ite_true, ite_false, decide_true, decide_false, setM_ap, put_ap, skp_ap, rtM_ap, ri_rt, int_i, abs_i, ixN50, ixN51, ixN52, ixN53, ixN54, walkA_ap, isiM_ap, kwD_ap, newM_ap, ni_ok, ni_ex, fldV_ap, fldM_ap, asgM_ap, parM_ap, parM3_ap, tgN_ap, tgT2, tgT3, tgCons_ap, tgNil_ap, calM_ap, acons_ap, anil_ap, rb_ok, rb_ow, tupM_ap, lstM_ap, slM_ap, noP_ap, prt_ap, forM_ap, rngM1_ap, rngM2_ap, lcM_ap, andV_ap, notV_ap, orV_ap, ifM_ap, orM_ap, notM_ap, tru_ap, tru_b, chn_ap, seqA_l, seqA_t, seqA_f, seqA_s, len_t, len_f, opN_ap, met0_ap, met1_ap, metT_ap, apnM_ap, rtF_ap, ri_nx, ri_ro, sq_bk, sq_ct, sq_ro, mkT_ok, mkL_ok, List.length_append, List.length_singleton, asI, Wp_ok, nxt_nx, nxt_rt, nxt_bk, nxt_ct, trn_nx, trn_ct, trn_bk, trn_rt, ends_nx, ends_rt, ix_t, leA_ii, le_ii, sub_ii, Bool.not_true, Bool.not_false, Bool.false_eq_true, Bool.true_eq_false, eq_bb, ne_bb, eq_ss, ne_ss, raiM_ap, tryM_ap, tr_ok, tr_ex, rb_ex, bo_ex, sq_ex, ri_ex, kwA_ap, drp_ap, runI_ap, rin_nx, rin_ex, satM_ap, Nat.reduceLeDiff, Nat.zero_le, Nat.reduceMul, eq, pk1, and_self, if_true, x1, x2, x3]
    exact hJ _ ⟨_, _, _, _, _, _, _, _, _, rfl⟩
  · rw [decide_eq_false h] at eq
    simp only [pD, E2, runD_ap, List.length_cons, List.length_nil, Nat.reduceAdd, Nat.reduceSub, List.map_cons, List.map_nil, List.replicate_succ, List.replicate_zero, List.cons_append, List.nil_append, seqM_ap, sq_nx, sq_rt, stiM_ap, bnd_ap, bo_ok, op2_ap, op2v_ap, op1_ap, cst_ap, lift_so, ret_ap, pek_ap, lett_ap, pekD, List.getElem?_cons_zero, List.getElem?_cons_succ, ix_l, ix50, ix51, ix52, ix53, ix54, isLst, lstUp, lstAt, lstPut, Option.map_some, add_ii, List.set_cons_zero, List.set_cons_succ, ifS_ap, andM_ap, tst_ap, eq_ii, lt_ii, gt_ii, ge_ii, len_l, asBl_b, bf_t, bf_f, bf_d, if_true, if_false, ite_true, ite_false, decide_true, decide_false, setM_ap, put_ap, skp_ap, rtM_ap, ri_rt, int_i, abs_i, ixN50, ixN51, ixN52, ixN53, ixN54, walkA_ap, isiM_ap, kwD_ap, newM_ap, ni_ok, ni_ex, fldV_ap, fldM_ap, asgM_ap, parM_ap, parM3_ap, tgN_ap, tgT2, tgT3, tgCons_ap, tgNil_ap, calM_ap, acons_ap, anil_ap, rb_ok, rb_ow, tupM_ap, lstM_ap, slM_ap, noP_ap, prt_ap, forM_ap, rngM1_ap, rngM2_ap, lcM_ap, andV_ap, notV_ap, orV_ap, ifM_ap, orM_ap, notM_ap, tru_ap, tru_b, chn_ap, seqA_l, seqA_t, seqA_f, seqA_s, len_t, len_f, opN_ap, met0_ap, met1_ap, metT_ap, apnM_ap, rtF_ap, ri_nx, ri_ro, sq_bk, sq_ct, sq_ro, mkT_ok, mkL_ok, List.length_append, List.length_singleton, asI, Wp_ok, nxt_nx, nxt_rt, nxt_bk, nxt_ct, trn_nx, trn_ct, trn_bk, trn_rt, ends_nx, ends_rt, ix_t, leA_ii, le_ii, sub_ii, Bool.not_true, Bool.not_false, Bool.false_eq_true, Bool.true_eq_false, eq_bb, ne_bb, eq_ss, ne_ss, raiM_ap, tryM_ap, tr_ok, tr_ex, rb_ex, bo_ex, sq_ex, ri_ex, kwA_ap, drp_ap, runI_ap, rin_nx, rin_ex, satM_ap, Nat.reduceLeDiff, Nat.zero_le, Nat.reduceMul, eq, x1, x2, x3]
    exact hJ _ ⟨_, _, _, _, _, _, _, _, _, rfl⟩
theorem pB_run {s K p q k o w X : D} {X2 : List D} {i dr : Int} {μ μ1 μ2 μ3 μ4 μ5 μ6 : Sto} {A1 A2 : List D} {ρ : Env} {J : Env → Sto → Prop} {Q : Fl → Env → Sto → Prop} (hs : Sh s K ρ) (pK : pekD K μ = some K) (pK1 : pekD K μ1 = some K) (lK : listD K = some X)
    (ad1 : addD X (.lst [.int 7]) = some (.lst A1)) (ad2 : addD X (.lst [.int 0]) = some (.lst A2)) (x1 : G_lof [.cell 0, .lst A1] μ = .ok p μ1) (x2 : G_lof [.cell 0, .lst A2] μ1 = .ok q μ2) (x3 : G_lstranger [.cell 0, K] μ2 = .ok k μ3)
    (x4 : G_lodd [.cell 0, K, .lst [k]] μ3 = .ok o μ4) (sl : slD K none (some 1) = some (.tup X2)) (x5 : G_lodd [.cell 0, .tup X2, .lst [.lst [p], .tup [q]]] μ4 = .ok w μ5) (x6 : G_ldraw [.cell 0, .int 1000] μ5 = .ok (.int dr) μ6)
    (hC : ∀ x y, D.tup [x, y] ∈ pC9 p q o w → ∀ (ρ : Env) (J : Env → Sto → Prop) (Q : Fl → Env → Sto → Prop), Sh2 s K (.int i) p q k o w ρ → (∀ ρ, Sh2 s K (.int i) p q k o w ρ → J ρ μ5) → Wp (bo (tgT 2 (tgCons (tgN 12) (tgCons (tgN 17) tgNil)) (.tup [x, y]) ρ μ5) fun _ => pC) (trn J Q))
    (hD : ∀ x, x ∈ [p, q, k, .int dr, .int 0, .int 999] → ∀ (ρ : Env) (J : Env → Sto → Prop) (Q : Fl → Env → Sto → Prop), Sh2 s K (.int i) p q k o w ρ → (∀ ρ, Sh2 s K (.int i) p q k o w ρ → J ρ μ6) → Wp (bo (tgN 12 x ρ μ6) fun _ => pD) (trn J Q))
    (hJ : ∀ ρ, Sh s K ρ → J ρ μ6) : Wp (bo (tgN 8 (.int i) ρ μ) fun _ => pB) (trn J Q) := by
  obtain ⟨e2, e3, e4, e5, e6, e8, e9, e10, e11, e12, e13, e14, e15, e16, e17, rfl⟩ := hs
  simp only [pB, runD_ap, List.length_cons, List.length_nil, Nat.reduceAdd, Nat.reduceSub, List.map_cons, List.map_nil, List.replicate_succ, List.replicate_zero, List.cons_append, List.nil_append, seqM_ap, sq_nx, sq_rt, stiM_ap, bnd_ap, bo_ok, op2_ap, op2v_ap, op1_ap, cst_ap, lift_so, ret_ap, pek_ap, lett_ap, List.getElem?_cons_zero, List.getElem?_cons_succ, ix_l, ix50, ix51, ix52, ix53, ix54, isLst, lstUp, lstAt, lstPut, Option.map_some, add_ii, List.set_cons_zero, List.set_cons_succ, ifS_ap, andM_ap, tst_ap, eq_ii, lt_ii, gt_ii, ge_ii, len_l, asBl_b, bf_t, bf_f, bf_d, if_true, if_false, ite_true, ite_false, decide_true, decide_false, setM_ap, put_ap, skp_ap, rtM_ap, ri_rt, int_i, abs_i, ixN50, ixN51, ixN52, ixN53, ixN54, walkA_ap, isiM_ap, kwD_ap, newM_ap, ni_ok, ni_ex, fldV_ap, fldM_ap, asgM_ap, parM_ap, parM3_ap, tgN_ap, tgT2, tgT3, tgCons_ap, tgNil_ap, calM_ap, acons_ap, anil_ap, rb_ok, rb_ow, tupM_ap, lstM_ap, slM_ap, noP_ap, prt_ap, forM_ap, rngM1_ap, rngM2_ap, lcM_ap, andV_ap, notV_ap, orV_ap, ifM_ap, orM_ap, notM_ap, tru_ap, tru_b, chn_ap, seqA_l, seqA_t, seqA_f, seqA_s, len_t, len_f, opN_ap, met0_ap, met1_ap, metT_ap, apnM_ap, rtF_ap, ri_nx, ri_ro, sq_bk, sq_ct, sq_ro, mkT_ok, mkL_ok, List.length_append, List.length_singleton, asI, Wp_ok, nxt_nx, nxt_rt, nxt_bk, nxt_ct, trn_nx, trn_ct, trn_bk, trn_rt, ends_nx, ends_rt, ix_t, leA_ii, le_ii, sub_ii, Bool.not_true, Bool.not_false, Bool.false_eq_true, Bool.true_eq_false, eq_bb, ne_bb, eq_ss, ne_ss, raiM_ap, tryM_ap, tr_ok, tr_ex, rb_ex, bo_ex, sq_ex, ri_ex, kwA_ap, drp_ap, runI_ap, rin_nx, rin_ex, satM_ap, Nat.reduceLeDiff, Nat.zero_le, Nat.reduceMul, pK, pK1, lK, ad1, ad2, x1, x2, x3, x4, sl, x5]
  refine Wp_sq (Wp_for (fun _ ρ μ => Sh2 s K (.int i) p q k o w ρ ∧ μ = μ5) ⟨⟨_, _, _, _, _, _, _, _, _, rfl⟩, rfl⟩ (fun j d ρ μ hd ⟨h1, h2⟩ => ?_) (fun ρ μ ⟨h1, h2⟩ => ?_))
  · subst h2
    have hm : d ∈ pC9 p q o w := List.mem_of_getElem? hd
    obtain ⟨x, y, rfl⟩ : ∃ x y, d = .tup [x, y] := by
      simp only [pC9, List.mem_cons, List.not_mem_nil, or_false] at hm
      rcases hm with rfl | rfl | rfl | rfl | rfl | rfl | rfl | rfl | rfl <;> exact ⟨_, _, rfl⟩
    exact hC x y hm ρ _ _ h1 fun ρ h => ⟨h, rfl⟩
  · subst h2
    obtain ⟨e2, e3, e4, e5, e6, e10, e11, e12, e17, rfl⟩ := h1
    simp only [E2, runD_ap, List.length_cons, List.length_nil, Nat.reduceAdd, Nat.reduceSub, List.map_cons, List.map_nil, List.replicate_succ, List.replicate_zero, List.cons_append, List.nil_append, seqM_ap, sq_nx, sq_rt, stiM_ap, bnd_ap, bo_ok, op2_ap, op2v_ap, op1_ap, cst_ap, lift_so, ret_ap, pek_ap, lett_ap, List.getElem?_cons_zero, List.getElem?_cons_succ, ix_l, ix50, ix51, ix52, ix53, ix54, isLst, lstUp, lstAt, lstPut, Option.map_some, add_ii, List.set_cons_zero, List.set_cons_succ, ifS_ap, andM_ap, tst_ap, eq_ii, lt_ii, gt_ii, ge_ii, len_l, asBl_b, bf_t, bf_f, bf_d, if_true, if_false, ite_true, ite_false, decide_true, decide_false, setM_ap, put_ap, skp_ap, rtM_ap, ri_rt, int_i, abs_i, ixN50, ixN51, ixN52, ixN53, ixN54, walkA_ap, isiM_ap, kwD_ap, newM_ap, ni_ok, ni_ex, fldV_ap, fldM_ap, asgM_ap, parM_ap, parM3_ap, tgN_ap, tgT2, tgT3, tgCons_ap, tgNil_ap, calM_ap, acons_ap, anil_ap, rb_ok, rb_ow, tupM_ap, lstM_ap, slM_ap, noP_ap, prt_ap, forM_ap, rngM1_ap, rngM2_ap, lcM_ap, andV_ap, notV_ap, orV_ap, ifM_ap, orM_ap, notM_ap, tru_ap, tru_b, chn_ap, seqA_l, seqA_t, seqA_f, seqA_s, len_t, len_f, opN_ap, met0_ap, met1_ap, metT_ap, apnM_ap, rtF_ap, ri_nx, ri_ro, sq_bk, sq_ct, sq_ro, mkT_ok, mkL_ok, List.length_append, List.length_singleton, asI, Wp_ok, nxt_nx, nxt_rt, nxt_bk, nxt_ct, trn_nx, trn_ct, trn_bk, trn_rt, ends_nx, ends_rt, ix_t, leA_ii, le_ii, sub_ii, Bool.not_true, Bool.not_false, Bool.false_eq_true, Bool.true_eq_false, eq_bb, ne_bb, eq_ss, ne_ss, raiM_ap, tryM_ap, tr_ok, tr_ex, rb_ex, bo_ex, sq_ex, ri_ex, kwA_ap, drp_ap, runI_ap, rin_nx, rin_ex, satM_ap, Nat.reduceLeDiff, Nat.zero_le, Nat.reduceMul, x6]
    refine Wp_for (fun _ ρ μ => Sh2 s K (.int i) p q k o w ρ ∧ μ = μ6) ⟨⟨_, _, _, _, _, _, _, _, _, rfl⟩, rfl⟩ (fun j d ρ μ hd ⟨h1, h2⟩ => ?_) (fun ρ μ ⟨h1, h2⟩ => ?_)
    · subst h2
      exact hD d (List.mem_of_getElem? hd) ρ _ _ h1 fun ρ h => ⟨h, rfl⟩
    · subst h2
      obtain ⟨e2, e3, e4, e5, e6, e10, e11, e12, e17, rfl⟩ := h1
      exact hJ _ ⟨_, _, _, _, _, _, _, _, _, _, _, _, _, _, _, rfl⟩
theorem cut_ks {ks : List Int} (h : KS ks) (lo hi : OI) : ∃ cs : List Int, cutD (ks.map D.int) lo hi = cs.map D.int ∧ KS cs ∧ cs.length ≤ ks.length := by
  unfold cutD
  rw [List.length_map, ← List.map_drop, ← List.map_take]
  have sb := ((List.take_sublist (HT.sIx ks.length ks.length hi - HT.sIx ks.length 0 lo) (ks.drop (HT.sIx ks.length 0 lo))).trans (List.drop_sublist (HT.sIx ks.length 0 lo) ks))
  exact ⟨_, rfl, ⟨h.1.sublist sb, fun k hk => h.2 k (sb.subset hk)⟩, sb.length_le⟩
theorem ints_of {ks : List Int} {c : Int} {d : D} (h : ∀ k ∈ ks, 0 ≤ k ∧ k ≤ 999) (c0 : 0 ≤ c) (c1 : c ≤ 999) (hd : d ∈ ks.map D.int ++ [.int c]) : ∃ k : Int, d = .int k ∧ 0 ≤ k ∧ k ≤ 999 := by
  rcases List.mem_append.mp hd with z | z
  · obtain ⟨k, a, rfl⟩ := List.mem_map.mp z
    exact ⟨k, rfl, h k a⟩
  · rw [List.mem_singleton.mp z]
    exact ⟨c, rfl, c0, c1⟩
theorem g3i {i : Int} (h0 : -100000 ≤ i) (h1 : i ≤ 100000) : Gw 3 31000 (.int i) := (gw_int h0 h1).mono (by decide) (by decide)
theorem pB_ok {n : Int} {μ : Sto} {ks : List Int} {s : D} {i : Int} {ρ : Env} {Q : Fl → Env → Sto → Prop} (B : Bag n μ) (hn : n < 700000) (k : KS ks) (hl : ks.length ≤ 100) (hs : Sh s (.tup (ks.map D.int)) ρ) :
    Wp (bo (tgN 8 (.int i) ρ μ) fun _ => pB) (trn (fun ρ μ => Sh s (.tup (ks.map D.int)) ρ ∧ Bag (n + 20) μ) Q) := by
  have lm : (ks.map D.int).length = ks.length := List.length_map _
  have ad : ∀ c : Int, addD (.lst (ks.map D.int)) (.lst [.int c]) = some (.lst (ks.map D.int ++ [.int c])) := fun c => add_ll (by rw [lm, List.length_singleton]; omega)
  have la : ∀ c : Int, (ks.map D.int ++ [D.int c]).length = ks.length + 1 := fun c => by rw [List.length_append, lm, List.length_singleton]
  obtain ⟨p, μ1, hp, x1, B1⟩ := of_lst (ds := ks.map D.int ++ [.int 7]) B (by omega) (by rw [la]; omega) (by rw [la]; omega)
  obtain ⟨q, μ2, hq, x2, B2⟩ := of_lst (ds := ks.map D.int ++ [.int 0]) B1 (by omega) (by rw [la]; omega) (by rw [la]; omega)
  obtain ⟨p, rfl, p0, p1⟩ := ints_of k.2 (by decide) (by decide) hp
  obtain ⟨q, rfl, q0, q1⟩ := ints_of k.2 (by decide) (by decide) hq
  obtain ⟨f, μ3, x3, f0, f1, B3⟩ := strange_ok B2 (by omega) k.2 (by omega)
  obtain ⟨o, μ4, x4, go, B4⟩ := odd_ok (more := [.int f]) B3 (by omega) k.2 (by omega) (fun v hv => by
    rw [List.mem_singleton.mp hv]
    exact g3i (by omega) (by omega)) (by show 1 ≤ 50; decide)
  obtain ⟨cs, ec, kc, lc⟩ := cut_ks k none (some 1)
  have sl : slD (.tup (ks.map D.int)) none (some 1) = some (.tup (cs.map D.int)) := by
    show some (D.tup (cutD (ks.map D.int) none (some 1))) = _
    rw [ec]
  obtain ⟨w, μ5, x5, gw, B5⟩ := odd_ok (more := [.lst [.int p], .tup [.int q]]) B4 (by omega) kc.2 (by omega) (fun v hv => by
    simp only [List.mem_cons, List.not_mem_nil, or_false] at hv
    rcases hv with rfl | rfl
    · exact (gw_oneL (gw_int (by omega) (by omega))).mono (by decide) (by decide)
    · exact (gw_one (gw_int (by omega) (by omega))).mono (by decide) (by decide)) (by show 2 ≤ 50; decide)
  obtain ⟨dr, μ6, x6, d0, d1, B6⟩ := draw_ok (top := 1000) B5 (by omega) (by decide) (lg (by decide) (by decide))
  have gp : Gw 3 40000 (.int p) := (g3i (by omega) (by omega)).mono (by decide) (by decide)
  have gq : Gw 3 40000 (.int q) := (g3i (by omega) (by omega)).mono (by decide) (by decide)
  have go := go.mono (m := 3) (w' := 40000) (by decide) (by decide)
  have gw := gw.mono (m := 3) (w' := 40000) (by decide) (by decide)
  have gb : ∀ b, Gw 3 40000 (.bl b) := fun b => (gw_bl b).mono (by decide) (by decide)
  refine pB_run hs rfl rfl rfl (ad 7) (ad 0) x1 x2 x3 x4 sl x5 x6 (fun x y hm ρ J Q h hJ => ?_) (fun x hm ρ J Q h hJ => ?_) fun ρ h => ⟨h, B6.up (by omega)⟩
  · have : Gw 3 40000 x ∧ Gw 3 40000 y := by
      simp only [pC9, List.mem_cons, List.not_mem_nil, or_false, D.tup.injEq, List.cons.injEq, and_true] at hm
      rcases hm with ⟨rfl, rfl⟩ | ⟨rfl, rfl⟩ | ⟨rfl, rfl⟩ | ⟨rfl, rfl⟩ | ⟨rfl, rfl⟩ | ⟨rfl, rfl⟩ | ⟨rfl, rfl⟩ | ⟨rfl, rfl⟩ | ⟨rfl, rfl⟩
      · exact ⟨gp, gq⟩
      · exact ⟨gq, gp⟩
      · exact ⟨gp, gp⟩
      · exact ⟨gp, go⟩
      · exact ⟨go, gq⟩
      · exact ⟨go, gw⟩
      · exact ⟨gw, go⟩
      · exact ⟨gb _, gp⟩
      · exact ⟨gq, gb _⟩
    exact pC_ok (by omega) this.1 this.2 h hJ
  · obtain ⟨x, rfl⟩ : ∃ j : Int, x = .int j := by
      simp only [List.mem_cons, List.not_mem_nil, or_false] at hm
      rcases hm with rfl | rfl | rfl | rfl | rfl | rfl <;> exact ⟨_, rfl⟩
    exact pD_ok (by omega) h hJ
def Sh0 (s : D) (ρ : Env) : Prop := ∃ e2 e3 e4 e5 e6 e7 e8 e9 e10 e11 e12 e13 e14 e15 e16 e17 : Option Ent, ρ = [some (.sh s), some (.sh (.cell 0)), e2, e3, e4, e5, e6, e7, e8, e9, e10, e11, e12, e13, e14, e15, e16, e17]
abbrev kMenu : List D := [.int 0, .int 1, .int 2, .int 3, .int 5, .int 8, .int 12, .int 13, .int 30, .int 60]
theorem r3 : rng1 [.int 3] = some [.int 0, .int 1, .int 2] := rfl
theorem r6 : rng1 [.int 6] = some [.int 0, .int 1, .int 2, .int 3, .int 4, .int 5] := rfl
theorem pT_ok {n : Int} {μ : Sto} {s h : D} {ρ : Env} {Q : Fl → Env → Sto → Prop} (B : Bag n μ) (hn : n < 600000) (hs : Sh0 s ρ) :
    Wp (bo (tgN 2 h ρ μ) fun _ => pT) (trn (fun ρ μ => Sh0 s ρ ∧ Bag (n + 1000) μ) Q) := by
  obtain ⟨e2, e3, e4, e5, e6, e7, e8, e9, e10, e11, e12, e13, e14, e15, e16, e17, rfl⟩ := hs
  obtain ⟨m, μ1, hm, x1, B1⟩ := of_lst (ds := kMenu) B (by omega) (by decide) (by decide)
  obtain ⟨m, rfl, m1⟩ : ∃ j : Nat, m = .int (j : Nat) ∧ j ≤ 60 := by
    simp only [List.mem_cons, List.not_mem_nil, or_false] at hm
    rcases hm with rfl | rfl | rfl | rfl | rfl | rfl | rfl | rfl | rfl | rfl
    · exact ⟨0, rfl, by decide⟩
    · exact ⟨1, rfl, by decide⟩
    · exact ⟨2, rfl, by decide⟩
    · exact ⟨3, rfl, by decide⟩
    · exact ⟨5, rfl, by decide⟩
    · exact ⟨8, rfl, by decide⟩
    · exact ⟨12, rfl, by decide⟩
    · exact ⟨13, rfl, by decide⟩
    · exact ⟨30, rfl, by decide⟩
    · exact ⟨60, rfl, by decide⟩
  obtain ⟨ks, μ2, x2, kl, k, B2⟩ := keys_ok (many := m) B1 (by omega) (by omega)
  obtain ⟨K, hK⟩ : ∃ K, D.tup (ks.map D.int) = K := ⟨_, rfl⟩
  rw [hK] at x2
  simp only [pT, runD_ap, List.length_cons, List.length_nil, Nat.reduceAdd, Nat.reduceSub, List.map_cons, List.map_nil, List.replicate_succ, List.replicate_zero, List.cons_append, List.nil_append, seqM_ap, sq_nx, sq_rt, stiM_ap, bnd_ap, bo_ok, op2_ap, op2v_ap, op1_ap, cst_ap, lift_so, ret_ap, pek_ap, lett_ap, pekD, List.getElem?_cons_zero, List.getElem?_cons_succ, ix_l, ix50, ix51, ix52, ix53, ix54, isLst, lstUp, lstAt, lstPut, Option.map_some, add_ii, List.set_cons_zero, List.set_cons_succ, ifS_ap, andM_ap, tst_ap, eq_ii, lt_ii, gt_ii, ge_ii, len_l, asBl_b, bf_t, bf_f, bf_d, if_true, if_false, ite_true, ite_false, decide_true, decide_false, setM_ap, put_ap, skp_ap, rtM_ap, ri_rt, int_i, abs_i, ixN50, ixN51, ixN52, ixN53, ixN54, walkA_ap, isiM_ap, kwD_ap, newM_ap, ni_ok, ni_ex, fldV_ap, fldM_ap, asgM_ap, parM_ap, parM3_ap, tgN_ap, tgT2, tgT3, tgCons_ap, tgNil_ap, calM_ap, acons_ap, anil_ap, rb_ok, rb_ow, tupM_ap, lstM_ap, slM_ap, noP_ap, prt_ap, forM_ap, rngM1_ap, rngM2_ap, lcM_ap, andV_ap, notV_ap, orV_ap, ifM_ap, orM_ap, notM_ap, tru_ap, tru_b, chn_ap, seqA_l, seqA_t, seqA_f, seqA_s, len_t, len_f, opN_ap, met0_ap, met1_ap, metT_ap, apnM_ap, rtF_ap, ri_nx, ri_ro, sq_bk, sq_ct, sq_ro, mkT_ok, mkL_ok, List.length_append, List.length_singleton, asI, Wp_ok, nxt_nx, nxt_rt, nxt_bk, nxt_ct, trn_nx, trn_ct, trn_bk, trn_rt, ends_nx, ends_rt, ix_t, leA_ii, le_ii, sub_ii, Bool.not_true, Bool.not_false, Bool.false_eq_true, Bool.true_eq_false, eq_bb, ne_bb, eq_ss, ne_ss, raiM_ap, tryM_ap, tr_ok, tr_ex, rb_ex, bo_ex, sq_ex, ri_ex, kwA_ap, drp_ap, runI_ap, rin_nx, rin_ex, satM_ap, Nat.reduceLeDiff, Nat.zero_le, Nat.reduceMul, x1, x2, r3]
  refine Wp_sq (Wp_for (fun j ρ μ => Sh s K ρ ∧ Bag (n + 100 + 60 * j) μ) ⟨⟨_, _, _, _, _, _, _, _, _, _, _, _, _, _, _, rfl⟩, B2.up (by omega)⟩ (fun j d ρ μ hd ⟨h1, h2⟩ => ?_) (fun ρ μ ⟨h1, h2⟩ => ?_))
  · have hj : j < 3 := (List.getElem?_eq_some_iff.mp hd).1
    rw [← hK] at h1 ⊢
    refine Wp.mono (pA_ok (Q := trn (fun _ _ => False) fun _ _ _ => False) h2 (by omega) k (by omega) h1) fun fl ρ μ z => ?_
    cases fl <;> first | exact ⟨z.1, z.2.up (by omega)⟩ | exact z.elim
  · have h2 : Bag (n + 100 + 60 * (3 : Nat)) μ := h2
    obtain ⟨e2, e3, e4, e5, e6, e8, e9, e10, e11, e12, e13, e14, e15, e16, e17, rfl⟩ := h1
    simp only [runD_ap, List.length_cons, List.length_nil, Nat.reduceAdd, Nat.reduceSub, List.map_cons, List.map_nil, List.replicate_succ, List.replicate_zero, List.cons_append, List.nil_append, seqM_ap, sq_nx, sq_rt, stiM_ap, bnd_ap, bo_ok, op2_ap, op2v_ap, op1_ap, cst_ap, lift_so, ret_ap, pek_ap, lett_ap, pekD, List.getElem?_cons_zero, List.getElem?_cons_succ, ix_l, ix50, ix51, ix52, ix53, ix54, isLst, lstUp, lstAt, lstPut, Option.map_some, add_ii, List.set_cons_zero, List.set_cons_succ, ifS_ap, andM_ap, tst_ap, eq_ii, lt_ii, gt_ii, ge_ii, len_l, asBl_b, bf_t, bf_f, bf_d, if_true, if_false, ite_true, ite_false, decide_true, decide_false, setM_ap, put_ap, skp_ap, rtM_ap, ri_rt, int_i, abs_i, ixN50, ixN51, ixN52, ixN53, ixN54, walkA_ap, isiM_ap, kwD_ap, newM_ap, ni_ok, ni_ex, fldV_ap, fldM_ap, asgM_ap, parM_ap, parM3_ap, tgN_ap, tgT2, tgT3, tgCons_ap, tgNil_ap, calM_ap, acons_ap, anil_ap, rb_ok, rb_ow, tupM_ap, lstM_ap, slM_ap, noP_ap, prt_ap, forM_ap, rngM1_ap, rngM2_ap, lcM_ap, andV_ap, notV_ap, orV_ap, ifM_ap, orM_ap, notM_ap, tru_ap, tru_b, chn_ap, seqA_l, seqA_t, seqA_f, seqA_s, len_t, len_f, opN_ap, met0_ap, met1_ap, metT_ap, apnM_ap, rtF_ap, ri_nx, ri_ro, sq_bk, sq_ct, sq_ro, mkT_ok, mkL_ok, List.length_append, List.length_singleton, asI, Wp_ok, nxt_nx, nxt_rt, nxt_bk, nxt_ct, trn_nx, trn_ct, trn_bk, trn_rt, ends_nx, ends_rt, ix_t, leA_ii, le_ii, sub_ii, Bool.not_true, Bool.not_false, Bool.false_eq_true, Bool.true_eq_false, eq_bb, ne_bb, eq_ss, ne_ss, raiM_ap, tryM_ap, tr_ok, tr_ex, rb_ex, bo_ex, sq_ex, ri_ex, kwA_ap, drp_ap, runI_ap, rin_nx, rin_ex, satM_ap, Nat.reduceLeDiff, Nat.zero_le, Nat.reduceMul, r3]
    refine Wp_for (fun j ρ μ => Sh s K ρ ∧ Bag (n + 300 + 30 * j) μ) ⟨⟨_, _, _, _, _, _, _, _, _, _, _, _, _, _, _, rfl⟩, h2.up (by omega)⟩ (fun j d ρ μ hd ⟨h1, h2⟩ => ?_) (fun ρ μ ⟨h1, h2⟩ => ?_)
    · have hj : j < 3 := (List.getElem?_eq_some_iff.mp hd).1
      obtain ⟨i, rfl⟩ : ∃ i : Int, d = .int i := by
        have hm := List.mem_of_getElem? hd
        simp only [List.mem_cons, List.not_mem_nil, or_false] at hm
        rcases hm with rfl | rfl | rfl <;> exact ⟨_, rfl⟩
      rw [← hK] at h1 ⊢
      refine Wp.mono (pB_ok (Q := trn (fun _ _ => False) fun _ _ _ => False) h2 (by omega) k (by omega) h1) fun fl ρ μ z => ?_
      cases fl <;> first | exact ⟨z.1, z.2.up (by omega)⟩ | exact z.elim
    · have h2 : Bag (n + 300 + 30 * (3 : Nat)) μ := h2
      obtain ⟨e2, e3, e4, e5, e6, e8, e9, e10, e11, e12, e13, e14, e15, e16, e17, rfl⟩ := h1
      exact ⟨⟨_, _, _, _, _, _, _, _, _, _, _, _, _, _, _, _, rfl⟩, h2.up (by omega)⟩
/-! the end -/
theorem pF_ok {v : D} {μ : Sto} {a0 a1 a2 a3 a4 a5 a6 a7 a8 a9 a10 a11 a12 a13 a14 a15 a16 a17 : Option Ent} {J : Env → Sto → Prop} {Q : Fl → Env → Sto → Prop} (pv : Pv v) (ln : ∀ ds, v = .tup ds → ds.length ≤ 1000) (k : isKey v = false) (l : isLot v = isSet v) (m : isName v = false)
    (hJ : J [a0, a1, a2, a3, a4, some (.sh v), a6, a7, a8, a9, a10, a11, a12, a13, a14, a15, a16, a17] μ) : Wp (bo (tgN 5 v [a0, a1, a2, a3, a4, a5, a6, a7, a8, a9, a10, a11, a12, a13, a14, a15, a16, a17] μ) fun _ => pF) (trn J Q) := by
  have j : G_ljudged [v, .bl false] μ = .ok (.lst [.bl false, .bl (isSet v), .bl (isSet v), .bl false]) μ := by
    have := judged_ok (μ := μ) (b := false) pv
    unfold jdg at this
    rw [k, l, m] at this
    exact this
  have y := lset_ok (μ := μ) pv ln
  have sm : Sm 5 (.lst [.bl false, .bl (isSet v), .bl (isSet v), .bl false]) := .lst _ (by show 4 ≤ 1000; decide) fun d hd => by
    simp only [List.mem_cons, List.not_mem_nil, or_false] at hd
    rcases hd with rfl | rfl | rfl | rfl <;> exact .bl _ _
  have x3 := same_ok (μ := μ) sm
  simp only [pF, runD_ap, List.length_cons, List.length_nil, Nat.reduceAdd, Nat.reduceSub, List.map_cons, List.map_nil, List.replicate_succ, List.replicate_zero, List.cons_append, List.nil_append, seqM_ap, sq_nx, sq_rt, stiM_ap, bnd_ap, bo_ok, op2_ap, op2v_ap, op1_ap, cst_ap, lift_so, ret_ap, pek_ap, lett_ap, pekD, List.getElem?_cons_zero, List.getElem?_cons_succ, ix_l, ix50, ix51, ix52, ix53, ix54, isLst, lstUp, lstAt, lstPut, Option.map_some, add_ii, List.set_cons_zero, List.set_cons_succ, ifS_ap, andM_ap, tst_ap, eq_ii, lt_ii, gt_ii, ge_ii, len_l, asBl_b, bf_t, bf_f, bf_d, if_true, if_false, ite_true, ite_false, decide_true, decide_false, setM_ap, put_ap, skp_ap, rtM_ap, ri_rt, int_i, abs_i, ixN50, ixN51, ixN52, ixN53, ixN54, walkA_ap, isiM_ap, kwD_ap, newM_ap, ni_ok, ni_ex, fldV_ap, fldM_ap, asgM_ap, parM_ap, parM3_ap, tgN_ap, tgT2, tgT3, tgCons_ap, tgNil_ap, calM_ap, acons_ap, anil_ap, rb_ok, rb_ow, tupM_ap, lstM_ap, slM_ap, noP_ap, prt_ap, forM_ap, rngM1_ap, rngM2_ap, lcM_ap, andV_ap, notV_ap, orV_ap, ifM_ap, orM_ap, notM_ap, tru_ap, tru_b, chn_ap, seqA_l, seqA_t, seqA_f, seqA_s, len_t, len_f, opN_ap, met0_ap, met1_ap, metT_ap, apnM_ap, rtF_ap, ri_nx, ri_ro, sq_bk, sq_ct, sq_ro, mkT_ok, mkL_ok, List.length_append, List.length_singleton, asI, Wp_ok, nxt_nx, nxt_rt, nxt_bk, nxt_ct, trn_nx, trn_ct, trn_bk, trn_rt, ends_nx, ends_rt, ix_t, leA_ii, le_ii, sub_ii, Bool.not_true, Bool.not_false, Bool.false_eq_true, Bool.true_eq_false, eq_bb, ne_bb, eq_ss, ne_ss, raiM_ap, tryM_ap, tr_ok, tr_ex, rb_ex, bo_ex, sq_ex, ri_ex, kwA_ap, drp_ap, runI_ap, rin_nx, rin_ex, satM_ap, Nat.reduceLeDiff, Nat.zero_le, Nat.reduceMul, j, y, x3]
  exact hJ
theorem rg3_ok {a c : Int} (a0 : 0 ≤ a) (a1 : a < 600) (c0 : 1 ≤ c) (c1 : c ≤ 3) : ∃ ks : List Int, 134 ≤ ks.length ∧ ks.length ≤ 1000 ∧ KS ks ∧ rg3 [.int a, .int 1000, .int c] = some (ks.map D.int) := by
  obtain ⟨n, e, n0, n1, n2⟩ : ∃ n : Nat, Builtin.Range.rangeSize a 1000 c = n ∧ 134 ≤ n ∧ n ≤ 1000 ∧ ∀ k : Nat, k < n → a + k * c ≤ 999 := by
    unfold Builtin.Range.rangeSize
    rw [if_pos (by omega), if_pos (by omega)]
    obtain rfl | rfl | rfl : c = 1 ∨ c = 2 ∨ c = 3 := by omega
    · exact ⟨((1000 - a - 1) / 1 + 1).toNat, by omega, by omega, by omega, fun k hk => by omega⟩
    · exact ⟨((1000 - a - 1) / 2 + 1).toNat, by omega, by omega, by omega, fun k hk => by omega⟩
    · exact ⟨((1000 - a - 1) / 3 + 1).toNat, by omega, by omega, by omega, fun k hk => by omega⟩
  refine ⟨(List.range n).map fun k : Nat => a + (k : Nat) * c, by rw [List.length_map, List.length_range]; exact n0, by rw [List.length_map, List.length_range]; exact n1, ⟨?_, fun k hk => ?_⟩, ?_⟩
  · refine List.pairwise_map.mpr (List.pairwise_lt_range.imp fun {x y} h => ?_)
    obtain rfl | rfl | rfl : c = 1 ∨ c = 2 ∨ c = 3 := by omega
    all_goals omega
  · obtain ⟨j, hj, rfl⟩ := List.mem_map.mp hk
    have := n2 j (List.mem_range.mp hj)
    obtain rfl | rfl | rfl : c = 1 ∨ c = 2 ∨ c = 3 := by omega
    all_goals omega
  · have sm : Builtin.Range.small a 1000 c = true := by
      unfold Builtin.Range.small
      rw [e]
      unfold Builtin.Range.rangeFitsLong
      rw [if_pos (by omega)]
      simp only [Bool.and_eq_true, Bool.or_eq_true, decide_eq_true_eq, beq_iff_eq]
      omega
    unfold rg3
    simp only []
    rw [if_pos ⟨by omega, by omega, sm, by rw [e]; omega, by rw [e]; unfold lineN; omega⟩, e, Int.toNat_natCast]
    unfold rg3D
    rw [List.map_map]
    rfl
abbrev bMenu (p : D) : List D := [.bl true, p, .int 1000, .int (-1), .non, .str "3"]
abbrev lMenu : List D := [.int 400, .int 399, .int 399, .int 400, .int 13]
theorem pE_run {s p b y v1 v2 : D} {R Y C E : List D} {a c m n : Int} {μ μ1 μ2 μ3 μ4 μ5 μ6 : Sto} {ρ : Env} (hs : Sh0 s ρ)
    (x1 : G_ldraw [.cell 0, .int 600] μ = .ok (.int a) μ1) (x2 : G_ldraw [.cell 0, .int 3] μ1 = .ok (.int c) μ2) (rg : rg3 [.int a, .int 1000, .int (1 + c)] = some R) (x3 : G_lof [.cell 0, .lst lMenu] μ2 = .ok (.int m) μ3) (sY : slD (.tup R) none (some m) = some (.tup Y))
    (x4 : G_lof [.cell 0, .tup Y] μ3 = .ok p μ4) (x5 : G_ldraw [.cell 0, .int Y.length] μ4 = .ok (.int n) μ5) (sC : slD (.tup Y) none (some n) = some (.tup C)) (sE : slD (.tup Y) (some (n + 1)) none = some (.tup E)) (x6 : G_lof [.cell 0, .lst (bMenu p)] μ5 = .ok b μ6)
    (a1 : addD (.tup C) (.tup [b]) = some (.tup (C ++ [b]))) (a2 : addD (.tup (C ++ [b])) (.tup E) = some (.tup (C ++ [b] ++ E)))
    (hF : ∀ v, v ∈ [D.tup Y, .tup (C ++ [b] ++ E)] → ∀ (ρ : Env) (J : Env → Sto → Prop) (Q : Fl → Env → Sto → Prop), Sh0 s ρ → ρ.length = 18 → ρ[3]? = some (some (.sh (.tup Y))) → ρ[8]? = some (some (.sh (.int n))) → ρ[9]? = some (some (.sh p)) → J (ρ.set 5 (some (.sh v))) μ6 → Wp (bo (tgN 5 v ρ μ6) fun _ => pF) (trn J Q))
    (iy : ixD (.tup Y) (.int n) = some y) (z1 : G_lstretch [.tup Y, p, y, .bl false] μ6 = .ok v1 μ6) (z2 : G_neighbours_of [.tup Y, p] μ6 = .ok v2 μ6) (z3 : G_lstretch_due [.tup Y, p, y] μ6 = .ok v1 μ6) (z4 : G_lnear [.tup Y, p] μ6 = .ok v2 μ6)
    (sm : G_lsame [.lst [v1, v2], .lst [v1, v2]] μ6 = .ok (.bl true) μ6) : Wp (pE ρ μ) (ends fun v _ => v = .bl true) := by
  obtain ⟨e2, e3, e4, e5, e6, e7, e8, e9, e10, e11, e12, e13, e14, e15, e16, e17, rfl⟩ := hs
  have ng : negD (.int 1) = some (.int (-1)) := rfl
  simp only [pE, runD_ap, List.length_cons, List.length_nil, Nat.reduceAdd, Nat.reduceSub, List.map_cons, List.map_nil, List.replicate_succ, List.replicate_zero, List.cons_append, List.nil_append, seqM_ap, sq_nx, sq_rt, stiM_ap, bnd_ap, bo_ok, op2_ap, op2v_ap, op1_ap, cst_ap, lift_so, ret_ap, pek_ap, lett_ap, pekD, List.getElem?_cons_zero, List.getElem?_cons_succ, ix_l, ix50, ix51, ix52, ix53, ix54, isLst, lstUp, lstAt, lstPut, Option.map_some, add_ii, List.set_cons_zero, List.set_cons_succ, ifS_ap, andM_ap, tst_ap, eq_ii, lt_ii, gt_ii, ge_ii, len_l, asBl_b, bf_t, bf_f, bf_d, if_true, if_false, ite_true, ite_false, decide_true, decide_false, setM_ap, put_ap, skp_ap, rtM_ap, ri_rt, int_i, abs_i, ixN50, ixN51, ixN52, ixN53, ixN54, walkA_ap, isiM_ap, kwD_ap, newM_ap, ni_ok, ni_ex, fldV_ap, fldM_ap, asgM_ap, parM_ap, parM3_ap, tgN_ap, tgT2, tgT3, tgCons_ap, tgNil_ap, calM_ap, acons_ap, anil_ap, rb_ok, rb_ow, tupM_ap, lstM_ap, slM_ap, noP_ap, prt_ap, forM_ap, rngM1_ap, rngM2_ap, lcM_ap, andV_ap, notV_ap, orV_ap, ifM_ap, orM_ap, notM_ap, tru_ap, tru_b, chn_ap, seqA_l, seqA_t, seqA_f, seqA_s, len_t, len_f, opN_ap, met0_ap, met1_ap, metT_ap, apnM_ap, rtF_ap, ri_nx, ri_ro, sq_bk, sq_ct, sq_ro, mkT_ok, mkL_ok, List.length_append, List.length_singleton, asI, Wp_ok, nxt_nx, nxt_rt, nxt_bk, nxt_ct, trn_nx, trn_ct, trn_bk, trn_rt, ends_nx, ends_rt, ix_t, leA_ii, le_ii, sub_ii, Bool.not_true, Bool.not_false, Bool.false_eq_true, Bool.true_eq_false, eq_bb, ne_bb, eq_ss, ne_ss, raiM_ap, tryM_ap, tr_ok, tr_ex, rb_ex, bo_ex, sq_ex, ri_ex, kwA_ap, drp_ap, runI_ap, rin_nx, rin_ex, satM_ap, Nat.reduceLeDiff, Nat.zero_le, Nat.reduceMul, tupR3_ap, x1, x2, rg, x3, sY, x4, x5, sC, sE, ng, x6, a1, a2, Option.map_some]
  obtain ⟨Z, hZ⟩ : ∃ Z, C ++ [b] ++ E = Z := ⟨_, rfl⟩
  rw [hZ] at hF ⊢
  refine Wp_sq (Wp_for (fun _ ρ μ => (∃ e5, ρ = [some (.sh s), some (.sh (.cell 0)), e2, some (.sh (.tup Y)), some (.sh (.tup Z)), e5, e6, e7, some (.sh (.int n)), some (.sh p), e10, e11, e12, e13, e14, e15, e16, e17]) ∧ μ = μ6) ⟨⟨_, rfl⟩, rfl⟩ (fun j d ρ μ hd ⟨⟨e5, h1⟩, h2⟩ => ?_) (fun ρ μ ⟨⟨e5, h1⟩, h2⟩ => ?_))
  · subst h1 h2
    exact hF d (List.mem_of_getElem? hd) _ _ _ ⟨_, _, _, _, _, _, _, _, _, _, _, _, _, _, _, _, rfl⟩ rfl rfl rfl rfl ⟨⟨_, rfl⟩, rfl⟩
  · subst h1 h2
    simp only [runD_ap, List.length_cons, List.length_nil, Nat.reduceAdd, Nat.reduceSub, List.map_cons, List.map_nil, List.replicate_succ, List.replicate_zero, List.cons_append, List.nil_append, seqM_ap, sq_nx, sq_rt, stiM_ap, bnd_ap, bo_ok, op2_ap, op2v_ap, op1_ap, cst_ap, lift_so, ret_ap, pek_ap, lett_ap, pekD, List.getElem?_cons_zero, List.getElem?_cons_succ, ix_l, ix50, ix51, ix52, ix53, ix54, isLst, lstUp, lstAt, lstPut, Option.map_some, add_ii, List.set_cons_zero, List.set_cons_succ, ifS_ap, andM_ap, tst_ap, eq_ii, lt_ii, gt_ii, ge_ii, len_l, asBl_b, bf_t, bf_f, bf_d, if_true, if_false, ite_true, ite_false, decide_true, decide_false, setM_ap, put_ap, skp_ap, rtM_ap, ri_rt, int_i, abs_i, ixN50, ixN51, ixN52, ixN53, ixN54, walkA_ap, isiM_ap, kwD_ap, newM_ap, ni_ok, ni_ex, fldV_ap, fldM_ap, asgM_ap, parM_ap, parM3_ap, tgN_ap, tgT2, tgT3, tgCons_ap, tgNil_ap, calM_ap, acons_ap, anil_ap, rb_ok, rb_ow, tupM_ap, lstM_ap, slM_ap, noP_ap, prt_ap, forM_ap, rngM1_ap, rngM2_ap, lcM_ap, andV_ap, notV_ap, orV_ap, ifM_ap, orM_ap, notM_ap, tru_ap, tru_b, chn_ap, seqA_l, seqA_t, seqA_f, seqA_s, len_t, len_f, opN_ap, met0_ap, met1_ap, metT_ap, apnM_ap, rtF_ap, ri_nx, ri_ro, sq_bk, sq_ct, sq_ro, mkT_ok, mkL_ok, List.length_append, List.length_singleton, asI, Wp_ok, nxt_nx, nxt_rt, nxt_bk, nxt_ct, trn_nx, trn_ct, trn_bk, trn_rt, ends_nx, ends_rt, ix_t, leA_ii, le_ii, sub_ii, Bool.not_true, Bool.not_false, Bool.false_eq_true, Bool.true_eq_false, eq_bb, ne_bb, eq_ss, ne_ss, raiM_ap, tryM_ap, tr_ok, tr_ex, rb_ex, bo_ex, sq_ex, ri_ex, kwA_ap, drp_ap, runI_ap, rin_nx, rin_ex, satM_ap, Nat.reduceLeDiff, Nat.zero_le, Nat.reduceMul, iy, z1, z2, z3, z4, sm]
theorem isKey_t (ds : List D) : isKey (.tup ds) = false := rfl
theorem pE_ok {n : Int} {μ : Sto} {s : D} {ρ : Env} (B : Bag n μ) (hn : n < 700000) (hs : Sh0 s ρ) : Wp (pE ρ μ) (ends fun v _ => v = .bl true) := by
  obtain ⟨a, μ1, x1, a0, a1, B1⟩ := draw_ok (top := 600) B (by omega) (by decide) (lg (by decide) (by decide))
  obtain ⟨c, μ2, x2, c0, c1, B2⟩ := draw_ok (top := 3) B1 (by omega) (by decide) (lg (by decide) (by decide))
  obtain ⟨m, μ3, hm, x3, B3⟩ := of_lst (ds := lMenu) B2 (by omega) (by decide) (by decide)
  obtain ⟨m, rfl, m0⟩ : ∃ j : Nat, m = .int (j : Nat) ∧ 13 ≤ j := by
    simp only [List.mem_cons, List.not_mem_nil, or_false] at hm
    rcases hm with rfl | rfl | rfl | rfl | rfl
    · exact ⟨400, rfl, by decide⟩
    · exact ⟨399, rfl, by decide⟩
    · exact ⟨399, rfl, by decide⟩
    · exact ⟨400, rfl, by decide⟩
    · exact ⟨13, rfl, by decide⟩
  obtain ⟨rs, r0, r1, r2, rg⟩ := rg3_ok (a := a) (c := 1 + c) a0 a1 (by omega) (by omega)
  obtain ⟨ks, ec, k, lc⟩ := cut_ks r2 none (some (m : Int))
  have sY : slD (.tup (rs.map D.int)) none (some (m : Int)) = some (.tup (ks.map D.int)) := by
    show some (D.tup (cutD (rs.map D.int) none (some (m : Int)))) = _
    rw [ec]
  have l13 : 13 ≤ ks.length := by
    have : (ks.map D.int).length = min m rs.length := by
      rw [← ec]
      unfold cutD
      rw [List.length_take, List.length_drop, HT.sIx_none, HT.sIx_nat, List.length_map]
      omega
    rw [List.length_map] at this
    omega
  have ne : ks ≠ [] := fun z => by rw [z] at l13; exact absurd l13 (by decide)
  have lm : (ks.map D.int).length = ks.length := List.length_map _
  obtain ⟨p, μ4, hp, x4, B4⟩ := of_tup (ds := ks.map D.int) B3 (by omega) (by omega) (by omega)
  obtain ⟨p, hpk, rfl⟩ := List.mem_map.mp hp
  obtain ⟨n', μ5, x5, n0, n1, B5⟩ := draw_ok (top := (ks.map D.int).length) B4 (by omega) (by omega) (lg (by omega) (by omega))
  obtain ⟨b, μ6, hb, x6, B6⟩ := of_lst (ds := bMenu (.int p)) B5 (by omega) (by show (0 : Nat) < 6; decide) (by show (6 : Nat) ≤ 1000; decide)
  have kp := k.2 p hpk
  have gb : Gw 2 200 b := by
    simp only [List.mem_cons, List.not_mem_nil, or_false] at hb
    rcases hb with rfl | rfl | rfl | rfl | rfl | rfl
    · exact (gw_bl _).mono (by decide) (by decide)
    · exact (gw_int (by omega) (by omega)).mono (by decide) (by decide)
    · exact (gw_int (by decide) (by decide)).mono (by decide) (by decide)
    · exact (gw_int (by decide) (by decide)).mono (by decide) (by decide)
    · exact gw_non.mono (by decide) (by decide)
    · exact (gw_str (by decide +kernel) (by decide +kernel)).mono (by decide) (by decide)
  obtain ⟨cs, ec1, kc, lc1⟩ := cut_ks k none (some n')
  have sC : slD (.tup (ks.map D.int)) none (some n') = some (.tup (cs.map D.int)) := by
    show some (D.tup (cutD (ks.map D.int) none (some n'))) = _
    rw [ec1]
  obtain ⟨es, ee1, ke, le1⟩ := cut_ks k (some (n' + 1)) none
  have sE : slD (.tup (ks.map D.int)) (some (n' + 1)) none = some (.tup (es.map D.int)) := by
    show some (D.tup (cutD (ks.map D.int) (some (n' + 1)) none)) = _
    rw [ee1]
  have lcs : (cs.map D.int).length = cs.length := List.length_map _
  have les : (es.map D.int).length = es.length := List.length_map _
  have l1 : (cs.map D.int ++ [b]).length = cs.length + 1 := by rw [List.length_append, lcs, List.length_singleton]
  have l1e : (cs.map D.int ++ [b] ++ es.map D.int).length = cs.length + 1 + es.length := by rw [List.length_append, l1, les]
  have lcs2 : cs.length = min n'.toNat ks.length := by
    have : (cs.map D.int).length = min n'.toNat ks.length := by
      rw [← ec1]
      unfold cutD
      obtain ⟨q, rfl⟩ : ∃ q : Nat, n' = (q : Nat) := ⟨n'.toNat, by omega⟩
      rw [List.length_take, List.length_drop, HT.sIx_none, HT.sIx_nat, List.length_map]
      omega
    rw [← lcs, this]
  have les2 : es.length ≤ ks.length - (n' + 1).toNat := by
    have : (es.map D.int).length = ks.length - (n' + 1).toNat := by
      rw [← ee1]
      unfold cutD
      obtain ⟨q, hq⟩ : ∃ q : Nat, n' + 1 = (q : Nat) := ⟨(n' + 1).toNat, by omega⟩
      rw [hq, List.length_take, List.length_drop, HT.sIx_none, HT.sIx_nat, List.length_map]
      omega
    omega
  have iy : ixD (.tup (ks.map D.int)) (.int n') = some (.int (ks.getD n'.toNat 0)) := at_int (k := n'.toNat) (by omega) (by omega)
  have ky : ∃ j, j ∈ ks ∧ ks.getD n'.toNat 0 = j := by
    refine ⟨ks.getD n'.toNat 0, ?_, rfl⟩
    rw [List.getD_eq_getElem?_getD, List.getElem?_eq_getElem (by omega)]
    exact List.getElem_mem _
  obtain ⟨y, hy, ey⟩ := ky
  rw [ey] at iy
  have kyr := k.2 y hy
  have gp : Gw 3 40000 (.int p) := (g3i (by omega) (by omega)).mono (by decide) (by decide)
  have gy : Gw 3 40000 (.int y) := (g3i (by omega) (by omega)).mono (by decide) (by decide)
  obtain ⟨v1, s1, z1, z3⟩ := stretch_ok (ks := ks) (μ := μ6) (by omega) gp gy
  obtain ⟨v2, s2, z2, z4⟩ := near_ok (ks := ks) (p := p) (μ := μ6) (by omega)
  have sm : Sm 5 (.lst [v1, v2]) := .lst _ (by show 2 ≤ 1000; decide) fun d hd => by
    simp only [List.mem_cons, List.not_mem_nil, or_false] at hd
    rcases hd with rfl | rfl
    · exact s1
    · exact s2.up
  refine pE_run hs x1 x2 rg x3 sY x4 x5 sC sE x6 (add_tt (by rw [lcs, List.length_singleton]; omega)) (add_tt (by rw [l1, les]; omega)) (fun v hv ρ J Q h _ _ _ _ hJ => ?_) iy (z1 false) z2 z3 z4 (same_ok sm)
  obtain ⟨e2, e3, e4, e5, e6, e7, e8, e9, e10, e11, e12, e13, e14, e15, e16, e17, rfl⟩ := h
  have nl : ∀ (ds : List D), ds ≠ [] → isLot (.tup ds) = isSet (.tup ds) := fun ds hd => by
    unfold isLot
    cases ds with
    | nil => exact (hd rfl).elim
    | cons x xs => simp
  simp only [List.mem_cons, List.not_mem_nil, or_false] at hv
  rcases hv with rfl | rfl
  · exact pF_ok (pv_ks ks) (fun ds e => by cases e; omega) rfl (nl _ fun z => ne (List.map_eq_nil_iff.mp z)) rfl hJ
  · refine pF_ok (.tup fun d hd => ?_) (fun ds e => by cases e; omega) rfl (nl _ fun z => by rw [z] at l1e; simp at l1e; omega) rfl hJ
    rcases List.mem_append.mp hd with z | z
    · rcases List.mem_append.mp z with z | z
      · obtain ⟨j, _, rfl⟩ := List.mem_map.mp z
        exact .int j
      · rw [List.mem_singleton.mp z]
        exact gb.pv
    · obtain ⟨j, _, rfl⟩ := List.mem_map.mp z
      exact .int j
theorem cel_1 {g : Mo Fl} {a : Option Ent} {ds : List D} {ρ : Env} : celM 1 g (a :: some (.ow (.lst ds)) :: ρ) [] = g (a :: some (.sh (.cell 0)) :: ρ) [.lst ds] := rfl
theorem answer : ∀ ns : List Int, ns.length ≤ 63 → ∃ μ, G_law [.frz (ns.map D.int)] [] = .ok (.bl true) μ := fun ns h => by
  obtain ⟨cs, m, x, m0, m1⟩ := bag_ok ns h
  have main : Rw (G_law [.frz (ns.map D.int)] []) fun v _ => v = .bl true := by
    unfold G_law
    rw [g_law_eq]
    refine Rw_run rfl ?_
    have B0 : Bag 0 [bagC cs 0 0 m 0] := ⟨cs, 0, 0, m, 0, rfl, by decide, by decide, m0, by omega, by decide, by decide⟩
    obtain ⟨s, hs⟩ : ∃ s, D.frz (ns.map D.int) = s := ⟨_, rfl⟩
    rw [hs] at x ⊢
    obtain ⟨bl, hbl⟩ : ∃ bl, [D.lst (cs.map D.int), .int 0, .int 0, .int m, .int 0] = bl := ⟨_, rfl⟩
    unfold bagC at B0
    rw [hbl] at x B0
    simp only [runD_ap, List.length_cons, List.length_nil, Nat.reduceAdd, Nat.reduceSub, List.map_cons, List.map_nil, List.replicate_succ, List.replicate_zero, List.cons_append, List.nil_append, seqM_ap, sq_nx, sq_rt, stiM_ap, bnd_ap, bo_ok, op2_ap, op2v_ap, op1_ap, cst_ap, lift_so, ret_ap, pek_ap, lett_ap, pekD, List.getElem?_cons_zero, List.getElem?_cons_succ, ix_l, ix50, ix51, ix52, ix53, ix54, isLst, lstUp, lstAt, lstPut, Option.map_some, add_ii, List.set_cons_zero, List.set_cons_succ, ifS_ap, andM_ap, tst_ap, eq_ii, lt_ii, gt_ii, ge_ii, len_l, asBl_b, bf_t, bf_f, bf_d, if_true, if_false, ite_true, ite_false, decide_true, decide_false, setM_ap, put_ap, skp_ap, rtM_ap, ri_rt, int_i, abs_i, ixN50, ixN51, ixN52, ixN53, ixN54, walkA_ap, isiM_ap, kwD_ap, newM_ap, ni_ok, ni_ex, fldV_ap, fldM_ap, asgM_ap, parM_ap, parM3_ap, tgN_ap, tgT2, tgT3, tgCons_ap, tgNil_ap, calM_ap, acons_ap, anil_ap, rb_ok, rb_ow, tupM_ap, lstM_ap, slM_ap, noP_ap, prt_ap, forM_ap, rngM1_ap, rngM2_ap, lcM_ap, andV_ap, notV_ap, orV_ap, ifM_ap, orM_ap, notM_ap, tru_ap, tru_b, chn_ap, seqA_l, seqA_t, seqA_f, seqA_s, len_t, len_f, opN_ap, met0_ap, met1_ap, metT_ap, apnM_ap, rtF_ap, ri_nx, ri_ro, sq_bk, sq_ct, sq_ro, mkT_ok, mkL_ok, List.length_append, List.length_singleton, asI, Wp_ok, nxt_nx, nxt_rt, nxt_bk, nxt_ct, trn_nx, trn_ct, trn_bk, trn_rt, ends_nx, ends_rt, ix_t, leA_ii, le_ii, sub_ii, Bool.not_true, Bool.not_false, Bool.false_eq_true, Bool.true_eq_false, eq_bb, ne_bb, eq_ss, ne_ss, raiM_ap, tryM_ap, tr_ok, tr_ex, rb_ex, bo_ex, sq_ex, ri_ex, kwA_ap, drp_ap, runI_ap, rin_nx, rin_ex, satM_ap, Nat.reduceLeDiff, Nat.zero_le, Nat.reduceMul, cawM_ap, rw_ow, setF_ap, cel_1, x, r6]
    refine Wp_sq (Wp_for (fun j ρ μ => Sh0 s ρ ∧ Bag (1000 * j) μ) ⟨⟨_, _, _, _, _, _, _, _, _, _, _, _, _, _, _, _, rfl⟩, B0.up (by omega)⟩ (fun j d ρ μ hd ⟨h1, h2⟩ => ?_) (fun ρ μ ⟨h1, h2⟩ => ?_))
    · have hj : j < 6 := (List.getElem?_eq_some_iff.mp hd).1
      refine Wp.mono (pT_ok (Q := trn (fun _ _ => False) fun _ _ _ => False) h2 (by omega) h1) fun fl ρ μ z => ?_
      cases fl <;> first | exact ⟨z.1, z.2.up (by omega)⟩ | exact z.elim
    · have h2 : Bag (1000 * (6 : Nat)) μ := h2
      exact pE_ok h2 (by decide) h1
  obtain ⟨d, μ, e, rfl⟩ := main.ex
  exact ⟨μ, e⟩
end L2.DL.K02

open PySem PySem.W PyProof.Rows
set_option maxRecDepth 100000 in
set_option maxHeartbeats 0 in
theorem PySem.Challenge.cw_shapebetween_k02_keys_lots_and_names_holds : PySem.Challenge.rw_shapebetween_k02_keys_lots_and_names.Holds := by
  w_on; o_law; k_head; (case hw => w_witness2)
  k_fill
  refine L2.DL.walk_M (l := PySem.Challenge.rw_shapebetween_k02_keys_lots_and_names) (n := 63) (G := L2.DL.K02.G_law) (x := "_law_script") rfl (by decide) rfl (by rfl) (fun w h Y => PySem.W.kIn_of Y) ?F L2.DL.K02.answer
  case F =>
    intro w mg fa h KX G hmg
    refine' L2.DL.K02.all_mk KX G hmg ?g_UnknownKey ?g_InvalidLot ?g_InvalidMark ?g_Row ?xl_UnknownKey ?xr_UnknownKey ?xo_UnknownKey ?xs_UnknownKey ?xe_UnknownKey ?xt_UnknownKey ?xk_UnknownKey ?xi_UnknownKey ?xf_UnknownKey ?xc_UnknownKey ?xd_UnknownKey ?xp_UnknownKey ?xg_UnknownKey ?xh_UnknownKey ?xj_UnknownKey ?xn_UnknownKey_code ?xn_UnknownKey_key ?xl_InvalidLot ?xr_InvalidLot ?xo_InvalidLot ?xs_InvalidLot ?xe_InvalidLot ?xt_InvalidLot ?xk_InvalidLot ?xi_InvalidLot ?xf_InvalidLot ?xc_InvalidLot ?xd_InvalidLot ?xp_InvalidLot ?xg_InvalidLot ?xh_InvalidLot ?xj_InvalidLot ?xn_InvalidLot_code ?xn_InvalidLot_key ?xn_InvalidLot_value ?xl_InvalidMark ?xr_InvalidMark ?xo_InvalidMark ?xs_InvalidMark ?xe_InvalidMark ?xt_InvalidMark ?xk_InvalidMark ?xi_InvalidMark ?xf_InvalidMark ?xc_InvalidMark ?xd_InvalidMark ?xp_InvalidMark ?xg_InvalidMark ?xh_InvalidMark ?xj_InvalidMark ?xn_InvalidMark_code ?xn_InvalidMark_key ?xn_InvalidMark_value ?ic_UnknownKey ?sb_UnknownKey_UnknownKey ?sb_InvalidLot_UnknownKey ?sb_InvalidMark_UnknownKey ?cpg_Row ?chd_Row ?cpo_Row ?csa_Row ?nf_Row_lot ?nf_Row_coming ?nf_Row_going ?mk_Row ?kc_Row ?at_fRow_init ?fn_fRow_init ?l_fRow_init ?c_fRow_init ?k_fRow_init ?kd_fRow_init_coming ?kd_fRow_init_going ?at_fRow_text ?fn_fRow_text ?l_fRow_text ?c_fRow_text ?k_fRow_text ?at_fRow_repr ?fn_fRow_repr ?l_fRow_repr ?c_fRow_repr ?k_fRow_repr ?og ?otk ?oh_Row ?om_Row ?kk_4 ?kk_3 ?kk_2 ?kk_1 ?kk_0 ?bz_abs ?bz_all ?bz_bool ?bz_int ?bz_isinstance ?bz_len ?bz_list ?bz_max ?bz_min ?bz_range ?bz_repr ?bz_sorted ?bz_str ?bz_tuple ?bz_zip ?a_flbag ?l_flbag ?c_flbag ?k_flbag ?a_fldraw ?l_fldraw ?c_fldraw ?k_fldraw ?a_flof ?l_flof ?c_flof ?k_flof ?a_flkeys ?l_flkeys ?c_flkeys ?k_flkeys ?a_flnumber ?l_flnumber ?c_flnumber ?k_flnumber ?a_flword ?l_flword ?c_flword ?k_flword ?a_fis_key ?l_fis_key ?c_fis_key ?k_fis_key ?a_fis_key_set ?l_fis_key_set ?c_fis_key_set ?k_fis_key_set ?a_fis_lot ?l_fis_lot ?c_fis_lot ?k_fis_lot ?a_fltuple ?l_fltuple ?c_fltuple ?k_fltuple ?a_flis_name ?l_flis_name ?c_flis_name ?k_flis_name ?a_flis_key ?l_flis_key ?c_flis_key ?k_flis_key ?a_flis_set ?l_flis_set ?c_flis_set ?k_flis_set ?a_flsame ?l_flsame ?c_flsame ?k_flsame ?a_fis_name ?l_fis_name ?c_fis_name ?k_fis_name ?a_fljudged ?l_fljudged ?c_fljudged ?k_fljudged ?a_flstranger ?l_flstranger ?c_flstranger ?k_flstranger ?a_flodd ?l_flodd ?c_flodd ?k_flodd ?a_flstretch_due ?l_flstretch_due ?c_flstretch_due ?k_flstretch_due ?a_fstretch_between ?l_fstretch_between ?c_fstretch_between ?k_fstretch_between ?a_flstretch ?l_flstretch ?c_flstretch ?k_flstretch ?a_fneighbours_of ?l_fneighbours_of ?c_fneighbours_of ?k_fneighbours_of ?a_flnear ?l_flnear ?c_flnear ?k_flnear ?a_flaw ?l_flaw ?c_flaw ?k_flaw
    (case g_UnknownKey => k_is)
    (case g_InvalidLot => k_is)
    (case g_InvalidMark => k_is)
    (case g_Row => k_is)
    (case xl_UnknownKey => k_is)
    (case xr_UnknownKey => decide +kernel)
    (case xo_UnknownKey => decide +kernel)
    (case xs_UnknownKey => k_is)
    (case xe_UnknownKey => k_is)
    (case xt_UnknownKey => k_is)
    (case xk_UnknownKey => k_is)
    (case xi_UnknownKey => k_is)
    (case xf_UnknownKey => k_is)
    (case xc_UnknownKey => k_is)
    (case xd_UnknownKey => k_is)
    (case xp_UnknownKey => k_is)
    (case xg_UnknownKey => k_is)
    (case xh_UnknownKey => k_is)
    (case xj_UnknownKey => k_is)
    (case xn_UnknownKey_code => k_is)
    (case xn_UnknownKey_key => k_is)
    (case xl_InvalidLot => k_is)
    (case xr_InvalidLot => decide +kernel)
    (case xo_InvalidLot => decide +kernel)
    (case xs_InvalidLot => k_is)
    (case xe_InvalidLot => k_is)
    (case xt_InvalidLot => k_is)
    (case xk_InvalidLot => k_is)
    (case xi_InvalidLot => k_is)
    (case xf_InvalidLot => k_is)
    (case xc_InvalidLot => k_is)
    (case xd_InvalidLot => k_is)
    (case xp_InvalidLot => k_is)
    (case xg_InvalidLot => k_is)
    (case xh_InvalidLot => k_is)
    (case xj_InvalidLot => k_is)
    (case xn_InvalidLot_code => k_is)
    (case xn_InvalidLot_key => k_is)
    (case xn_InvalidLot_value => k_is)
    (case xl_InvalidMark => k_is)
    (case xr_InvalidMark => decide +kernel)
    (case xo_InvalidMark => decide +kernel)
    (case xs_InvalidMark => k_is)
    (case xe_InvalidMark => k_is)
    (case xt_InvalidMark => k_is)
    (case xk_InvalidMark => k_is)
    (case xi_InvalidMark => k_is)
    (case xf_InvalidMark => k_is)
    (case xc_InvalidMark => k_is)
    (case xd_InvalidMark => k_is)
    (case xp_InvalidMark => k_is)
    (case xg_InvalidMark => k_is)
    (case xh_InvalidMark => k_is)
    (case xj_InvalidMark => k_is)
    (case xn_InvalidMark_code => k_is)
    (case xn_InvalidMark_key => k_is)
    (case xn_InvalidMark_value => k_is)
    (case ic_UnknownKey => k_is)
    (case sb_UnknownKey_UnknownKey => k_is)
    (case sb_InvalidLot_UnknownKey => k_is)
    (case sb_InvalidMark_UnknownKey => k_is)
    (case cpg_Row => k_is)
    (case chd_Row => k_is)
    (case cpo_Row => k_is)
    (case csa_Row => k_is)
    (case nf_Row_lot => k_is)
    (case nf_Row_coming => k_is)
    (case nf_Row_going => k_is)
    (case mk_Row => k_is)
    (case kc_Row => k_is)
    (case at_fRow_init => k_is)
    (case fn_fRow_init => k_is)
    (case l_fRow_init => k_is)
    (case c_fRow_init => k_is)
    (case k_fRow_init => k_is)
    (case kd_fRow_init_coming => k_is)
    (case kd_fRow_init_going => k_is)
    (case at_fRow_text => k_is)
    (case fn_fRow_text => k_is)
    (case l_fRow_text => k_is)
    (case c_fRow_text => k_is)
    (case k_fRow_text => k_is)
    (case at_fRow_repr => k_is)
    (case fn_fRow_repr => k_is)
    (case l_fRow_repr => k_is)
    (case c_fRow_repr => k_is)
    (case k_fRow_repr => k_is)
    (case og => k_is)
    (case otk => k_is)
    (case oh_Row => k_is)
    (case om_Row => k_is)
    (case kk_4 => k_is)
    (case kk_3 => k_is)
    (case kk_2 => k_is)
    (case kk_1 => k_is)
    (case kk_0 => k_is)
    (case bz_abs => k_is)
    (case bz_all => k_is)
    (case bz_bool => k_is)
    (case bz_int => k_is)
    (case bz_isinstance => k_is)
    (case bz_len => k_is)
    (case bz_list => k_is)
    (case bz_max => k_is)
    (case bz_min => k_is)
    (case bz_range => k_is)
    (case bz_repr => k_is)
    (case bz_sorted => k_is)
    (case bz_str => k_is)
    (case bz_tuple => k_is)
    (case bz_zip => k_is)
    (case a_flbag => k_is)
    (case l_flbag => k_is)
    (case c_flbag => k_is)
    (case k_flbag => k_is)
    (case a_fldraw => k_is)
    (case l_fldraw => k_is)
    (case c_fldraw => k_is)
    (case k_fldraw => k_is)
    (case a_flof => k_is)
    (case l_flof => k_is)
    (case c_flof => k_is)
    (case k_flof => k_is)
    (case a_flkeys => k_is)
    (case l_flkeys => k_is)
    (case c_flkeys => k_is)
    (case k_flkeys => k_is)
    (case a_flnumber => k_is)
    (case l_flnumber => k_is)
    (case c_flnumber => k_is)
    (case k_flnumber => k_is)
    (case a_flword => k_is)
    (case l_flword => k_is)
    (case c_flword => k_is)
    (case k_flword => k_is)
    (case a_fis_key => k_is)
    (case l_fis_key => k_is)
    (case c_fis_key => k_is)
    (case k_fis_key => k_is)
    (case a_fis_key_set => k_is)
    (case l_fis_key_set => k_is)
    (case c_fis_key_set => k_is)
    (case k_fis_key_set => k_is)
    (case a_fis_lot => k_is)
    (case l_fis_lot => k_is)
    (case c_fis_lot => k_is)
    (case k_fis_lot => k_is)
    (case a_fltuple => k_is)
    (case l_fltuple => k_is)
    (case c_fltuple => k_is)
    (case k_fltuple => k_is)
    (case a_flis_name => k_is)
    (case l_flis_name => k_is)
    (case c_flis_name => k_is)
    (case k_flis_name => k_is)
    (case a_flis_key => k_is)
    (case l_flis_key => k_is)
    (case c_flis_key => k_is)
    (case k_flis_key => k_is)
    (case a_flis_set => k_is)
    (case l_flis_set => k_is)
    (case c_flis_set => k_is)
    (case k_flis_set => k_is)
    (case a_flsame => k_is)
    (case l_flsame => k_is)
    (case c_flsame => k_is)
    (case k_flsame => k_is)
    (case a_fis_name => k_is)
    (case l_fis_name => k_is)
    (case c_fis_name => k_is)
    (case k_fis_name => k_is)
    (case a_fljudged => k_is)
    (case l_fljudged => k_is)
    (case c_fljudged => k_is)
    (case k_fljudged => k_is)
    (case a_flstranger => k_is)
    (case l_flstranger => k_is)
    (case c_flstranger => k_is)
    (case k_flstranger => k_is)
    (case a_flodd => k_is)
    (case l_flodd => k_is)
    (case c_flodd => k_is)
    (case k_flodd => k_is)
    (case a_flstretch_due => k_is)
    (case l_flstretch_due => k_is)
    (case c_flstretch_due => k_is)
    (case k_flstretch_due => k_is)
    (case a_fstretch_between => k_is)
    (case l_fstretch_between => k_is)
    (case c_fstretch_between => k_is)
    (case k_fstretch_between => k_is)
    (case a_flstretch => k_is)
    (case l_flstretch => k_is)
    (case c_flstretch => k_is)
    (case k_flstretch => k_is)
    (case a_fneighbours_of => k_is)
    (case l_fneighbours_of => k_is)
    (case c_fneighbours_of => k_is)
    (case k_fneighbours_of => k_is)
    (case a_flnear => k_is)
    (case l_flnear => k_is)
    (case c_flnear => k_is)
    (case k_flnear => k_is)
    (case a_flaw => k_is)
    (case l_flaw => k_is)
    (case c_flaw => k_is)
    (case k_flaw => k_is)

