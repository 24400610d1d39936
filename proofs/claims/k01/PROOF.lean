import PyProof.Rows.All
import Wide.All
import OpenK.AllK
import Wide.FinOn
import PySem.Challenge.RW_sungbyturns_k01_books_validated
import HandS.ForMost
import HandS.Exc
import HandS.ExcOwn
import HandS.TryOnly
import HandS.WordsExc
import HandS.Wide
import HandS.Lambda
import HandS.TupAny
import HandS.IsInst
import HandS.Iter
import HandS.Text
import HandS.SortInts
import HandS.Zip
import KE.GoesNew
import KE.GoesMore
import KE.GoesEnum
import HandS.CallSlots
import HandS.Walk
import HandS.ExcInit
import HandS.Dict
import HandS.Style
import HandS.Comp
import HandS.EndBits
import HandS.EndTab
import HandS.Set
import HandS.SetFor
import HandS.Strs
import HandS.More
import HandS.DictComp
import HandS.TupMul
import KE.KDictCopyH
import HandS.DictTup
import KE.SortData
import HandS.ExcIs
import KE.DataFind
import KE.KNestM
import HandS.ExcField
import HandS.MakeKwOnly
import KE.KExcIs
import KE.DataEq
import PyProof.Rows.StrMeet
import PyProof.Rows.SortStr
import KE.KLam
set_option Elab.async false
set_option linter.all false
set_option maxRecDepth 100000
set_option maxHeartbeats 2000000
namespace D3
open PySem PySem.Spec PyProof.Rows L2
/-- a value: tuples and read-only lists as they are, mutable objects by their index in the store, the module's own things by address -/
inductive Dv where
  | non | bl (b : Bool) | int (i : Int) | str (x : Str) | byt (b : Array UInt8) | ty (n : String) | adr (a : Addr) | obj (i : Nat) | tup (ds : List Dv) | fls (ds : List Dv)
inductive Mo where
  | lst (xs : List Dv) | dk (kvs : List (Key × Dv)) | ldk (kvs : List (Key × Dv)) | ins (C : Addr) (fs : List (Str × Dv))
abbrev Store := List Mo
abbrev Sl := List (Option Dv)
structure Cf where
  K : PySem.W.Frag
  T : List (Addr × Str)
/-- a list that nothing writes -/
def FzL (K : PySem.W.Frag) (H : Hp) (a : Addr) (xs : List V) : Prop :=
  (∃ o, H a = some (.frz o (.lst xs))) ∨
    ∃ (o : Obj) (its : Array Value) (n : Nat), K.lookup a = some o ∧ o.cls = .type "list" ∧ o.dict = none ∧ o.data = .seq its n ∧ its.size ≤ sizeLine ∧ Vals xs its.toList
theorem FzL.sq {K : PySem.W.Frag} {H : Hp} {a : Addr} {xs : List V} (h : FzL K H a xs) : SqL K H a xs := by
  rcases h with ⟨o, h⟩ | h
  · exact .inl (.inr ⟨o, h⟩)
  · exact .inr h
/-- a tuple -/
def TpL (K : PySem.W.Frag) (H : Hp) (a : Addr) (xs : List V) : Prop :=
  H a = some (.tup xs) ∨
    ∃ (o : Obj) (its : Array Value) (n : Nat), K.lookup a = some o ∧ o.cls = .type "tuple" ∧ o.data = .seq its n ∧ its.size ≤ sizeLine ∧ Vals xs its.toList
theorem TpL.sq {K : PySem.W.Frag} {H : Hp} {a : Addr} {xs : List V} (h : TpL K H a xs) : SqT K H a xs := by
  rcases h with h | h
  · exact .inl (.inl h)
  · exact .inr h
mutual
inductive Rep (G : Cf) (π : List Addr) (H : Hp) : Dv → V → Prop
  | non : Rep G π H .non .non
  | bl (b : Bool) : Rep G π H (.bl b) (.bl b)
  | int (i : Int) : Rep G π H (.int i) (.int i)
  | str (x : Str) : Rep G π H (.str x) (.str x)
  | byt (x : Array UInt8) : Rep G π H (.byt x) (.byt x)
  | ty (n : String) : Rep G π H (.ty n) (.ty n)
  | adr (a : Addr) : Rep G π H (.adr a) (.ref a)
  | obj {i : Nat} {a : Addr} (h : π[i]? = some a) : Rep G π H (.obj i) (.ref a)
  | tup {a : Addr} {xs : List V} {ds : List Dv} (h : TpL G.K H a xs) (r : RepL G π H ds xs) : Rep G π H (.tup ds) (.ref a)
  | fls {a : Addr} {xs : List V} {ds : List Dv} (h : FzL G.K H a xs) (r : RepL G π H ds xs) : Rep G π H (.fls ds) (.ref a)
inductive RepL (G : Cf) (π : List Addr) (H : Hp) : List Dv → List V → Prop
  | nil : RepL G π H [] []
  | cons {d : Dv} {v : V} {ds : List Dv} {vs : List V} (h : Rep G π H d v) (t : RepL G π H ds vs) : RepL G π H (d :: ds) (v :: vs)
end
/-- what data lean on stays -/
structure Mon (G : Cf) (π : List Addr) (H : Hp) (π' : List Addr) (H' : Hp) : Prop where
  get : ∀ (i : Nat) (a : Addr), π[i]? = some a → π'[i]? = some a
  tup : ∀ a xs, TpL G.K H a xs → TpL G.K H' a xs
  fzl : ∀ a xs, FzL G.K H a xs → FzL G.K H' a xs
/-- nothing stands there but, may be, a table of code objects -/
def Nn (H : Hp) (b : Addr) : Prop := ∀ o, H b = some o → ∃ ps, o = .tbl ps
theorem Nn.of {H : Hp} {b : Addr} (h : H b = none) : Nn H b := fun o e => by rw [h] at e; cases e
/-- what a later state keeps of an earlier one -/
structure Ext (G : Cf) (π : List Addr) (H : Hp) (π' : List Addr) (H' : Hp) : Prop where
  pre : ∃ t, π' = π ++ t ∧ ∀ a ∈ t, Nn H a
  tup : ∀ a xs, TpL G.K H a xs → TpL G.K H' a xs
  fzl : ∀ a xs, FzL G.K H a xs → FzL G.K H' a xs
  frm : ∀ b o, H b = some o → b ∉ π → (∀ ps, o ≠ .tbl ps) → H' b = some o
  there : ∀ b, Nn H' b → Nn H b
  lck : ∀ b od u, H b = some (.frz od u) → H' b = some (.frz od u)
theorem Ext.refl (G : Cf) (π : List Addr) (H : Hp) : Ext G π H π H :=
  ⟨⟨[], by simp, fun _ h => by cases h⟩, fun _ _ h => h, fun _ _ h => h, fun _ _ h _ _ => h, fun _ h => h, fun _ _ _ h => h⟩
theorem Ext.trans {G : Cf} {π π1 π2 : List Addr} {H H1 H2 : Hp} (x : Ext G π H π1 H1) (y : Ext G π1 H1 π2 H2) : Ext G π H π2 H2 := by
  obtain ⟨t, e, n⟩ := x.pre
  obtain ⟨t2, e2, n2⟩ := y.pre
  refine ⟨⟨t ++ t2, by rw [e2, e, List.append_assoc], fun a ha => ?_⟩, fun a xs h => y.tup a xs (x.tup a xs h), fun a xs h => y.fzl a xs (x.fzl a xs h), fun b o h hb hn => ?_, fun b h => x.there b (y.there b h), fun b od u h => y.lck b od u (x.lck b od u h)⟩
  · rcases List.mem_append.mp ha with h | h
    · exact n a h
    · exact x.there a (n2 a h)
  · refine y.frm b o (x.frm b o h hb hn) (fun z => ?_) hn
    rw [e] at z
    rcases List.mem_append.mp z with z | z
    · exact hb z
    · obtain ⟨ps, w⟩ := n b z _ h
      exact hn ps w
theorem Ext.get {G : Cf} {π π' : List Addr} {H H' : Hp} (x : Ext G π H π' H') {i : Nat} {a : Addr} (h : π[i]? = some a) : π'[i]? = some a := by
  obtain ⟨t, e, _⟩ := x.pre
  rw [e, List.getElem?_append_left (List.getElem?_eq_some_iff.mp h).1]
  exact h
theorem Ext.mon {G : Cf} {π π' : List Addr} {H H' : Hp} (x : Ext G π H π' H') : Mon G π H π' H' := ⟨fun _ _ h => x.get h, x.tup, x.fzl⟩
section
variable {G : Cf} {π π' : List Addr} {H H' : Hp}
mutual
theorem Rep.mon (x : Mon G π H π' H') : ∀ {d : Dv} {v : V}, Rep G π H d v → Rep G π' H' d v
  | _, _, .non => .non
  | _, _, .bl b => .bl b
  | _, _, .int i => .int i
  | _, _, .str s => .str s
  | _, _, .byt b => .byt b
  | _, _, .ty n => .ty n
  | _, _, .adr a => .adr a
  | _, _, .obj h => .obj (x.get _ _ h)
  | _, _, .tup h r => .tup (x.tup _ _ h) (RepL.mon x r)
  | _, _, .fls h r => .fls (x.fzl _ _ h) (RepL.mon x r)
theorem RepL.mon (x : Mon G π H π' H') : ∀ {ds : List Dv} {vs : List V}, RepL G π H ds vs → RepL G π' H' ds vs
  | _, _, .nil => .nil
  | _, _, .cons h t => .cons (Rep.mon x h) (RepL.mon x t)
end
theorem Rep.mono (x : Ext G π H π' H') {d : Dv} {v : V} (h : Rep G π H d v) : Rep G π' H' d v := h.mon x.mon
theorem RepL.mono (x : Ext G π H π' H') {d : List Dv} {v : List V} (h : RepL G π H d v) : RepL G π' H' d v := h.mon x.mon
theorem RepL.length : ∀ {ds : List Dv} {vs : List V}, RepL G π H ds vs → ds.length = vs.length
  | _, _, .nil => rfl
  | _, _, .cons _ t => by rw [List.length_cons, List.length_cons, RepL.length t]
theorem RepL.get : ∀ {ds : List Dv} {vs : List V} {i : Nat} {d : Dv}, RepL G π H ds vs → ds[i]? = some d → ∃ v, vs[i]? = some v ∧ Rep G π H d v
  | _, _, _, _, .nil, e => by simp at e
  | _, _, 0, _, .cons h _, e => by simp at e; subst e; exact ⟨_, rfl, h⟩
  | _, _, i + 1, _, .cons _ t, e => by
    obtain ⟨v, h1, h2⟩ := RepL.get (i := i) t (by simpa using e)
    exact ⟨v, by simpa using h1, h2⟩
theorem RepL.getV : ∀ {ds : List Dv} {vs : List V} {i : Nat} {v : V}, RepL G π H ds vs → vs[i]? = some v → ∃ d, ds[i]? = some d ∧ Rep G π H d v
  | _, _, _, _, .nil, e => by simp at e
  | _, _, 0, _, .cons h _, e => by simp at e; subst e; exact ⟨_, rfl, h⟩
  | _, _, i + 1, _, .cons _ t, e => by
    obtain ⟨d, h1, h2⟩ := RepL.getV (i := i) t (by simpa using e)
    exact ⟨d, by simpa using h1, h2⟩
theorem RepL.append : ∀ {ds es : List Dv} {vs ws : List V}, RepL G π H ds vs → RepL G π H es ws → RepL G π H (ds ++ es) (vs ++ ws)
  | _, _, _, _, .nil, s => s
  | _, _, _, _, .cons h t, s => .cons h (RepL.append t s)
theorem RepL.take : ∀ {ds : List Dv} {vs : List V} (n : Nat), RepL G π H ds vs → RepL G π H (ds.take n) (vs.take n)
  | _, _, 0, _ => .nil
  | _, _, _ + 1, .nil => .nil
  | _, _, n + 1, .cons h t => .cons h (RepL.take n t)
theorem RepL.drop : ∀ {ds : List Dv} {vs : List V} (n : Nat), RepL G π H ds vs → RepL G π H (ds.drop n) (vs.drop n)
  | _, _, 0, r => r
  | _, _, _ + 1, .nil => .nil
  | _, _, n + 1, .cons _ t => RepL.drop n t
theorem RepL.set {d : Dv} {v : V} (r : Rep G π H d v) : ∀ {ds : List Dv} {vs : List V} (i : Nat), RepL G π H ds vs → RepL G π H (ds.set i d) (vs.set i v)
  | _, _, _, .nil => .nil
  | _, _, 0, .cons _ t => .cons r t
  | _, _, i + 1, .cons h t => .cons h (RepL.set r i t)
theorem RepL.erase : ∀ {ds : List Dv} {vs : List V} (i : Nat), RepL G π H ds vs → RepL G π H (ds.eraseIdx i) (vs.eraseIdx i)
  | _, _, _, .nil => by simpa using .nil
  | _, _, 0, .cons _ t => by simpa using t
  | _, _, i + 1, .cons h t => by simpa using .cons h (RepL.erase i t)
theorem RepL.dropLast {ds : List Dv} {vs : List V} (r : RepL G π H ds vs) : RepL G π H ds.dropLast vs.dropLast := by
  rw [List.dropLast_eq_take, List.dropLast_eq_take, r.length]
  exact r.take _
theorem RepL.ints : ∀ ns : List Int, RepL G π H (ns.map Dv.int) (ns.map V.int)
  | [] => .nil
  | n :: r => .cons (.int n) (RepL.ints r)
theorem RepL.one {d : Dv} {v : V} (h : Rep G π H d v) : RepL G π H [d] [v] := .cons h .nil
theorem RepL.one_inv {d : Dv} {vs : List V} (h : RepL G π H [d] vs) : ∃ v, vs = [v] ∧ Rep G π H d v := by
  cases h with
  | cons h t => cases t; exact ⟨_, rfl, h⟩
theorem RepL.two_inv {d e : Dv} {vs : List V} (h : RepL G π H [d, e] vs) : ∃ v u, vs = [v, u] ∧ Rep G π H d v ∧ Rep G π H e u := by
  cases h with
  | cons h t =>
    obtain ⟨u, rfl, hu⟩ := RepL.one_inv t
    exact ⟨_, _, rfl, h, hu⟩
theorem RepL.nil_inv {vs : List V} (h : RepL G π H [] vs) : vs = [] := by cases h; rfl
theorem RepL.flat {ds : List Dv} {vs : List V} (h : RepL G π H ds vs) : ∀ n : Nat, RepL G π H (List.replicate n ds).flatten (List.replicate n vs).flatten
  | 0 => .nil
  | n + 1 => by
    rw [List.replicate_succ, List.replicate_succ, List.flatten_cons, List.flatten_cons]
    exact RepL.append h (RepL.flat h n)
theorem Rep.int_inv {i : Int} {v : V} (h : Rep G π H (.int i) v) : v = .int i := by cases h; rfl
theorem Rep.bl_inv {i : Bool} {v : V} (h : Rep G π H (.bl i) v) : v = .bl i := by cases h; rfl
theorem Rep.str_inv {i : Str} {v : V} (h : Rep G π H (.str i) v) : v = .str i := by cases h; rfl
theorem Rep.byt_inv {i : Array UInt8} {v : V} (h : Rep G π H (.byt i) v) : v = .byt i := by cases h; rfl
theorem Rep.non_inv {v : V} (h : Rep G π H .non v) : v = .non := by cases h; rfl
theorem Rep.ty_inv {i : String} {v : V} (h : Rep G π H (.ty i) v) : v = .ty i := by cases h; rfl
theorem Rep.adr_inv {i : Addr} {v : V} (h : Rep G π H (.adr i) v) : v = .ref i := by cases h; rfl
theorem Rep.obj_inv {i : Nat} {v : V} (h : Rep G π H (.obj i) v) : ∃ a, v = .ref a ∧ π[i]? = some a := by cases h with | obj h => exact ⟨_, rfl, h⟩
theorem Rep.tup_inv {ds : List Dv} {v : V} (h : Rep G π H (.tup ds) v) : ∃ a xs, v = .ref a ∧ TpL G.K H a xs ∧ RepL G π H ds xs := by cases h with | tup h r => exact ⟨_, _, rfl, h, r⟩
theorem Rep.fls_inv {ds : List Dv} {v : V} (h : Rep G π H (.fls ds) v) : ∃ a xs, v = .ref a ∧ FzL G.K H a xs ∧ RepL G π H ds xs := by cases h with | fls h r => exact ⟨_, _, rfl, h, r⟩
end
/-- fields, entries -/
def RepF (G : Cf) (π : List Addr) (H : Hp) : List (Str × Dv) → List (Str × V) → Prop := Paired fun p q => p.1 = q.1 ∧ Rep G π H p.2 q.2
def RepK (G : Cf) (π : List Addr) (H : Hp) : List (Key × Dv) → List (Key × V) → Prop := Paired fun p q => p.1 = q.1 ∧ Rep G π H p.2 q.2
theorem paired_imp {α β : Type} {F F' : α → β → Prop} (h : ∀ a b, F a b → F' a b) : ∀ {l : List α} {m : List β}, Paired F l m → Paired F' l m
  | _, _, .nil => .nil
  | _, _, .cons r t => .cons (h _ _ r) (paired_imp h t)
def MRep (G : Cf) (π : List Addr) (H : Hp) : Mo → Addr → Prop
  | .lst ds, a => ∃ xs, H a = some (.lst xs) ∧ RepL G π H ds xs
  | .dk kvs, a => ∃ ws, H a = some (.dK ws) ∧ RepK G π H kvs ws
  | .ldk kvs, a => ∃ ws, (∃ od, H a = some (.frz od (.dK ws))) ∧ RepK G π H kvs ws
  | .ins C fs, a => ∃ dx vs, H a = some (.ins C dx vs) ∧ RepF G π H fs vs
theorem MRep.mon {G : Cf} {π π' : List Addr} {H H' : Hp} (x : Mon G π H π' H') {m : Mo} {a : Addr} (e : H' a = H a) (h : MRep G π H m a) : MRep G π' H' m a := by
  cases m with
  | lst ds => obtain ⟨xs, h1, h2⟩ := h; exact ⟨xs, e.trans h1, h2.mon x⟩
  | dk kvs => obtain ⟨xs, h1, h2⟩ := h; exact ⟨xs, e.trans h1, paired_imp (fun _ _ q => ⟨q.1, q.2.mon x⟩) h2⟩
  | ldk kvs => obtain ⟨xs, ⟨od, h1⟩, h2⟩ := h; exact ⟨xs, ⟨od, e.trans h1⟩, paired_imp (fun _ _ q => ⟨q.1, q.2.mon x⟩) h2⟩
  | ins C fs => obtain ⟨dx, vs, h1, h2⟩ := h; exact ⟨dx, vs, e.trans h1, paired_imp (fun _ _ q => ⟨q.1, q.2.mon x⟩) h2⟩
/-- what a store's object is in the abstract heap -/
def isMo : HO → Bool
  | .lst _ => true
  | .dK _ => true
  | .frz _ (.dK _) => true
  | .ins _ _ _ => true
  | _ => false
theorem MRep.mo {G : Cf} {π : List Addr} {H : Hp} {m : Mo} {a : Addr} (h : MRep G π H m a) : ∃ o, H a = some o ∧ isMo o = true := by
  cases m with
  | lst ds => obtain ⟨xs, h1, h2⟩ := h; exact ⟨_, h1, rfl⟩
  | dk kvs => obtain ⟨xs, h1, h2⟩ := h; exact ⟨_, h1, rfl⟩
  | ldk kvs => obtain ⟨xs, ⟨_, h1⟩, h2⟩ := h; exact ⟨_, h1, rfl⟩
  | ins C fs => obtain ⟨dx, vs, h1, h2⟩ := h; exact ⟨_, h1, rfl⟩
structure RepS (G : Cf) (π : List Addr) (H : Hp) (S : Store) : Prop where
  len : π.length = S.length
  nd : π.Nodup
  at_ : ∀ (i : Nat) (m : Mo) (a : Addr), S[i]? = some m → π[i]? = some a → MRep G π H m a
  tab : LamX.Tabs G.T H
theorem RepS.addr {G : Cf} {π : List Addr} {H : Hp} {S : Store} (R : RepS G π H S) {i : Nat} {m : Mo} (h : S[i]? = some m) : ∃ a, π[i]? = some a ∧ MRep G π H m a := by
  have hi : i < π.length := by rw [R.len]; exact (List.getElem?_eq_some_iff.mp h).1
  exact ⟨π[i], List.getElem?_eq_getElem hi, R.at_ i m _ h (List.getElem?_eq_getElem hi)⟩
theorem RepS.here {G : Cf} {π : List Addr} {H : Hp} {S : Store} (R : RepS G π H S) {i : Nat} {m : Mo} {v : V} (h : S[i]? = some m) (r : Rep G π H (.obj i) v) : ∃ a, v = .ref a ∧ π[i]? = some a ∧ MRep G π H m a := by
  obtain ⟨a, rfl, e⟩ := r.obj_inv
  exact ⟨a, rfl, e, R.at_ i m a h e⟩
/-- what stands at a store's address -/
theorem RepS.kind {G : Cf} {π : List Addr} {H : Hp} {S : Store} (R : RepS G π H S) {a : Addr} (h : a ∈ π) : ∃ o, H a = some o ∧ isMo o = true := by
  obtain ⟨i, hi, e⟩ := List.getElem_of_mem h
  have hs : i < S.length := by rw [← R.len]; exact hi
  exact (R.at_ i S[i] a (List.getElem?_eq_getElem hs) (by rw [List.getElem?_eq_getElem hi, e])).mo
theorem RepS.out {G : Cf} {π : List Addr} {H : Hp} {S : Store} (R : RepS G π H S) {a : Addr} {o : HO} (h : H a = some o) (n : isMo o = false) : a ∉ π := fun z => by
  obtain ⟨u, e, t⟩ := R.kind z
  rw [h] at e
  cases e
  rw [n] at t
  cases t
theorem RepS.new {G : Cf} {π : List Addr} {H : Hp} {S : Store} (R : RepS G π H S) {a : Addr} (h : H a = none) : a ∉ π := fun z => by
  obtain ⟨u, e, t⟩ := R.kind z
  rw [h] at e
  cases e
/-- the tables stand where neither they nor the code objects that they tell are written -/
theorem tabs_keep {T : List (Addr × Str)} {H H' : Hp} (t : LamX.Tabs T H) (k : ∀ b o, H b = some o → isMo o = false → H' b = some o) : LamX.Tabs T H' := fun p hp => by
  obtain ⟨ps, h1, h2, h3⟩ := t p hp
  refine ⟨ps, k _ _ h1 rfl, h2, fun pos cv hc => ?_⟩
  obtain ⟨c, e1, e2⟩ := h3 pos cv hc
  exact ⟨c, e1, k _ _ e2 rfl⟩
theorem nodup_at {α : Type} {l : List α} (nd : l.Nodup) {i j : Nat} {a : α} (h : l[i]? = some a) (h' : l[j]? = some a) : i = j := by
  obtain ⟨hi, e⟩ := List.getElem?_eq_some_iff.mp h
  obtain ⟨hj, e'⟩ := List.getElem?_eq_some_iff.mp h'
  rcases Nat.lt_trichotomy i j with q | q | q
  · exact absurd (e.trans e'.symm) (List.pairwise_iff_getElem.mp nd i j hi hj q)
  · exact q
  · exact absurd (e'.trans e.symm) (List.pairwise_iff_getElem.mp nd j i hj hi q)
section
variable {G : Cf} {π : List Addr} {H H' : Hp} {S : Store}
/-- all that was tracked stands -/
theorem ext_same (k : ∀ b o, H b = some o → H' b = some o) : Ext G π H π H' := by
  refine ⟨⟨[], by simp, fun _ h => by cases h⟩, fun a xs h => ?_, fun a xs h => ?_, fun b u e _ _ => k b u e, fun b e => ?_, fun b od u e => k b _ e⟩
  · rcases h with h | h
    · exact .inl (k _ _ h)
    · exact .inr h
  · rcases h with ⟨_, h⟩ | h
    · exact .inl ⟨_, k _ _ h⟩
    · exact .inr h
  · exact fun o q => e o (k b o q)
theorem step_same (R : RepS G π H S) (k : ∀ b o, H b = some o → H' b = some o) : RepS G π H' S ∧ Ext G π H π H' := by
  have x : Ext G π H π H' := ext_same k
  refine ⟨⟨R.len, R.nd, fun i m a h1 h2 => ?_, tabs_keep R.tab fun b o e _ => k b o e⟩, x⟩
  have q := R.at_ i m a h1 h2
  obtain ⟨o, e, _⟩ := q.mo
  exact q.mon x.mon ((k _ _ e).trans e.symm)
theorem same_upd {p : Addr} {o : HO} (hp : H p = none) : ∀ b u, H b = some u → upd H p o b = some u := fun b u e => by rw [upd_ne (ne_of_none e hp)]; exact e
/-- a new object that is no part of the store (a tuple, an instance's dict) -/
theorem step_aside (R : RepS G π H S) {p : Addr} {o : HO} (hp : H p = none) : RepS G π (upd H p o) S ∧ Ext G π H π (upd H p o) := step_same R (same_upd hp)
/-- what stands at D becomes the store's last -/
theorem step_adopt (R : RepS G π H S) {D : Addr} {m : Mo} (hn : D ∉ π) (h : MRep G (π ++ [D]) H m D) : RepS G (π ++ [D]) H (S ++ [m]) := by
  have mo : Mon G π H (π ++ [D]) H := ⟨fun i a e => by rw [List.getElem?_append_left (List.getElem?_eq_some_iff.mp e).1]; exact e, fun _ _ h => h, fun _ _ h => h⟩
  refine ⟨by rw [List.length_append, List.length_append, R.len]; rfl, ?_, fun i m' a h1 h2 => ?_, R.tab⟩
  · rw [List.nodup_append]
    refine ⟨R.nd, by simp, fun a ha b hb e => ?_⟩
    rw [List.mem_singleton] at hb
    rw [e, hb] at ha
    exact hn ha
  · by_cases hi : i < S.length
    · rw [List.getElem?_append_left hi] at h1
      rw [List.getElem?_append_left (by rw [R.len]; exact hi)] at h2
      exact (R.at_ i m' a h1 h2).mon mo rfl
    · have ei : i = S.length := by
        have := (List.getElem?_eq_some_iff.mp h1).1
        rw [List.length_append, List.length_singleton] at this
        omega
      subst ei
      rw [List.getElem?_append_right (Nat.le_refl _), Nat.sub_self] at h1
      rw [← R.len, List.getElem?_append_right (Nat.le_refl _), Nat.sub_self] at h2
      simp at h1 h2
      subst h1
      subst h2
      exact h
theorem ext_adopt {H1 : Hp} {π' : List Addr} {D : Addr} {o : HO} (x : Ext G π (upd H1 D o) π' H') (h : H1 D = none) : Ext G π H1 (π' ++ [D]) H' := by
  have y : Ext G π H1 π (upd H1 D o) := ext_same (same_upd h)
  have z := y.trans x
  obtain ⟨t, e, n⟩ := z.pre
  refine ⟨⟨t ++ [D], by rw [e, List.append_assoc], fun a ha => ?_⟩, z.tup, z.fzl, z.frm, z.there, z.lck⟩
  rcases List.mem_append.mp ha with q | q
  · exact n a q
  · rw [List.mem_singleton.mp q]; exact .of h
/-- a new object of the store's -/
theorem step_new (R : RepS G π H S) {p : Addr} {o : HO} {m : Mo} (hp : H p = none) (h : MRep G (π ++ [p]) (upd H p o) m p) :
    RepS G (π ++ [p]) (upd H p o) (S ++ [m]) ∧ Ext G π H (π ++ [p]) (upd H p o) :=
  ⟨step_adopt (step_aside R hp).1 (R.new hp) h, ext_adopt (Ext.refl _ _ _) hp⟩
/-- an object of the store's is written -/
theorem mon_write (R : RepS G π H S) {i : Nat} {a : Addr} (o : HO) (hi : π[i]? = some a) : Mon G π H π (upd H a o) := by
  have ha : a ∈ π := List.mem_of_getElem? hi
  have k : ∀ b u, H b = some u → isMo u = false → upd H a o b = some u := fun b u e n => by rw [upd_ne (fun z => R.out e n (by rw [z]; exact ha))]; exact e
  refine ⟨fun _ _ h => h, fun b xs h => ?_, fun b xs h => ?_⟩
  · rcases h with h | h
    · exact .inl (k _ _ h rfl)
    · exact .inr h
  · rcases h with ⟨_, h⟩ | h
    · exact .inl ⟨_, k _ _ h rfl⟩
    · exact .inr h
theorem ext_write (R : RepS G π H S) {i : Nat} {a : Addr} (o : HO) (hi : π[i]? = some a) (hz : ∀ od u, H a ≠ some (.frz od u)) (ho : ∀ ps, o ≠ .tbl ps := by intro ps z; cases z) : Ext G π H π (upd H a o) := by
  have ha : a ∈ π := List.mem_of_getElem? hi
  have m := mon_write R o hi
  refine ⟨⟨[], by simp, fun _ h => by cases h⟩, m.tup, m.fzl, fun b u e hb _ => by rw [upd_ne (fun z => hb (by rw [z]; exact ha))]; exact e, fun b e => ?_, fun b od u e => by rw [upd_ne (fun z => hz od u (by rw [← z]; exact e))]; exact e⟩
  by_cases q : b = a
  · subst q
    obtain ⟨ps, w⟩ := e _ upd_same
    exact (ho ps w).elim
  · exact fun u hu => e u (by rw [upd_ne q]; exact hu)
theorem step_write (R : RepS G π H S) {i : Nat} {a : Addr} {o : HO} {m : Mo} (hi : π[i]? = some a) (h : MRep G π (upd H a o) m a) :
    RepS G π (upd H a o) (S.set i m) := by
  have ha : a ∈ π := List.mem_of_getElem? hi
  have k : ∀ b u, H b = some u → isMo u = false → upd H a o b = some u := fun b u e n => by rw [upd_ne (fun z => R.out e n (by rw [z]; exact ha))]; exact e
  have x := mon_write R o hi
  refine ⟨by rw [List.length_set]; exact R.len, R.nd, fun j m' b h1 h2 => ?_, tabs_keep R.tab k⟩
  by_cases e : j = i
  · subst e
    rw [hi] at h2
    cases h2
    have hj : j < S.length := by have q := (List.getElem?_eq_some_iff.mp h1).1; rw [List.length_set] at q; exact q
    rw [List.getElem?_set_self hj] at h1
    cases h1
    exact h
  · rw [List.getElem?_set_ne (fun z => e z.symm)] at h1
    refine (R.at_ j m' b h1 h2).mon x (upd_ne fun z => e ?_)
    rw [z] at h2
    exact nodup_at R.nd h2 hi
end
mutual
def Dv.clo (n : Nat) : Dv → Bool
  | .obj i => decide (i < n)
  | .tup ds => Dv.cloL n ds
  | .fls ds => Dv.cloL n ds
  | .non => true
  | .bl _ => true
  | .int _ => true
  | .str _ => true
  | .byt _ => true
  | .ty _ => true
  | .adr _ => true
def Dv.cloL (n : Nat) : List Dv → Bool
  | [] => true
  | d :: ds => Dv.clo n d && Dv.cloL n ds
end
def Mo.clo (n : Nat) : Mo → Bool
  | .lst ds => Dv.cloL n ds
  | .dk kvs => kvs.all fun p => p.2.clo n
  | .ldk kvs => kvs.all fun p => p.2.clo n
  | .ins _ fs => fs.all fun p => p.2.clo n
mutual
theorem clo_le {n m : Nat} (h : n ≤ m) : ∀ (d : Dv), d.clo n = true → d.clo m = true
  | .obj i, c => decide_eq_true (Nat.lt_of_lt_of_le (of_decide_eq_true c) h)
  | .tup ds, c => cloL_le h ds c
  | .fls ds, c => cloL_le h ds c
  | .non, _ => rfl
  | .bl _, _ => rfl
  | .int _, _ => rfl
  | .str _, _ => rfl
  | .byt _, _ => rfl
  | .ty _, _ => rfl
  | .adr _, _ => rfl
theorem cloL_le {n m : Nat} (h : n ≤ m) : ∀ (ds : List Dv), Dv.cloL n ds = true → Dv.cloL m ds = true
  | [], _ => rfl
  | d :: ds, c => by
    have c' : (Dv.clo n d && Dv.cloL n ds) = true := c
    rw [Bool.and_eq_true] at c'
    show (Dv.clo m d && Dv.cloL m ds) = true
    rw [clo_le h d c'.1, cloL_le h ds c'.2]; rfl
end
theorem mo_clo_le {n k : Nat} (h : n ≤ k) {m : Mo} (c : m.clo n = true) : m.clo k = true := by
  cases m with
  | lst ds => exact cloL_le h ds c
  | dk kvs => exact List.all_eq_true.mpr fun p hp => clo_le h _ (List.all_eq_true.mp c p hp)
  | ldk kvs => exact List.all_eq_true.mpr fun p hp => clo_le h _ (List.all_eq_true.mp c p hp)
  | ins C fs => exact List.all_eq_true.mpr fun p hp => clo_le h _ (List.all_eq_true.mp c p hp)
def StClo (S : Store) : Prop := ∀ m ∈ S, m.clo S.length = true
section
variable {G : Cf} {π π' : List Addr} {H H' : Hp}
mutual
theorem Rep.clo : ∀ {d : Dv} {v : V}, Rep G π H d v → d.clo π.length = true
  | _, _, .non => rfl
  | _, _, .bl _ => rfl
  | _, _, .int _ => rfl
  | _, _, .str _ => rfl
  | _, _, .byt _ => rfl
  | _, _, .ty _ => rfl
  | _, _, .adr _ => rfl
  | _, _, .obj h => decide_eq_true (List.getElem?_eq_some_iff.mp h).1
  | _, _, .tup _ r => RepL.clo r
  | _, _, .fls _ r => RepL.clo r
theorem RepL.clo : ∀ {ds : List Dv} {vs : List V}, RepL G π H ds vs → Dv.cloL π.length ds = true
  | _, _, .nil => rfl
  | _, _, .cons h t => by show (Dv.clo _ _ && Dv.cloL _ _) = true; rw [Rep.clo h, RepL.clo t]; rfl
end
mutual
theorem Rep.drop (n : Nat) : ∀ {d : Dv} {v : V}, Rep G π H d v → d.clo n = true → Rep G (π.take n) H d v
  | _, _, .non, _ => .non
  | _, _, .bl b, _ => .bl b
  | _, _, .int i, _ => .int i
  | _, _, .str s, _ => .str s
  | _, _, .byt b, _ => .byt b
  | _, _, .ty n, _ => .ty n
  | _, _, .adr a, _ => .adr a
  | _, _, .obj h, c => .obj (by
      have q : _ < n := of_decide_eq_true c
      rw [List.getElem?_take_of_lt q]; exact h)
  | _, _, .tup h r, c => .tup h (RepL.dropN n r c)
  | _, _, .fls h r, c => .fls h (RepL.dropN n r c)
theorem RepL.dropN (n : Nat) : ∀ {ds : List Dv} {vs : List V}, RepL G π H ds vs → Dv.cloL n ds = true → RepL G (π.take n) H ds vs
  | _, _, .nil, _ => .nil
  | _, _, .cons h t, c => by
    have c' : (Dv.clo n _ && Dv.cloL n _) = true := c
    rw [Bool.and_eq_true] at c'
    exact .cons (Rep.drop n h c'.1) (RepL.dropN n t c'.2)
end
theorem paired_clo {κ : Type} {n : Nat} : ∀ {l : List (κ × Dv)} {m : List (κ × V)}, Paired (fun (p : κ × Dv) (q : κ × V) => p.1 = q.1 ∧ Rep G π H p.2 q.2) l m → π.length = n → (l.all fun p => p.2.clo n) = true
  | _, _, .nil, _ => rfl
  | _, _, .cons r t, e => by rw [List.all_cons, paired_clo t e, ← e, r.2.clo]; rfl
theorem paired_drop {κ : Type} {n : Nat} : ∀ {l : List (κ × Dv)} {m : List (κ × V)}, Paired (fun (p : κ × Dv) (q : κ × V) => p.1 = q.1 ∧ Rep G π H p.2 q.2) l m → (l.all fun p => p.2.clo n) = true →
    Paired (fun (p : κ × Dv) (q : κ × V) => p.1 = q.1 ∧ Rep G (π.take n) H p.2 q.2) l m
  | _, _, .nil, _ => .nil
  | _, _, .cons r t, e => by
    rw [List.all_cons, Bool.and_eq_true] at e
    exact .cons ⟨r.1, r.2.drop n e.1⟩ (paired_drop t e.2)
theorem MRep.clo {m : Mo} {a : Addr} (h : MRep G π H m a) : m.clo π.length = true := by
  cases m with
  | lst ds => obtain ⟨_, _, r⟩ := h; exact r.clo
  | dk kvs => obtain ⟨_, _, r⟩ := h; exact paired_clo r rfl
  | ldk kvs => obtain ⟨_, _, r⟩ := h; exact paired_clo r rfl
  | ins C fs => obtain ⟨_, _, _, r⟩ := h; exact paired_clo r rfl
theorem MRep.drop (n : Nat) {m : Mo} {a : Addr} (h : MRep G π H m a) (c : m.clo n = true) : MRep G (π.take n) H m a := by
  cases m with
  | lst ds => obtain ⟨xs, h1, r⟩ := h; exact ⟨xs, h1, r.dropN n c⟩
  | dk kvs => obtain ⟨xs, h1, r⟩ := h; exact ⟨xs, h1, paired_drop r c⟩
  | ldk kvs => obtain ⟨xs, h1, r⟩ := h; exact ⟨xs, h1, paired_drop r c⟩
  | ins C fs => obtain ⟨dx, vs, h1, r⟩ := h; exact ⟨dx, vs, h1, paired_drop r c⟩
theorem RepS.clo {S : Store} (R : RepS G π H S) : StClo S := fun m hm => by
  obtain ⟨i, hi, e⟩ := List.getElem_of_mem hm
  obtain ⟨a, _, h⟩ := R.addr (i := i) (m := m) (by rw [List.getElem?_eq_getElem hi, e])
  rw [← R.len]
  exact h.clo
theorem RepS.drop {S : Store} (R : RepS G π H S) (n : Nat) (c : StClo (S.take n)) : RepS G (π.take n) H (S.take n) := by
  refine ⟨by rw [List.length_take, List.length_take, R.len], List.Nodup.sublist (List.take_sublist _ _) R.nd, fun i m a h1 h2 => ?_, R.tab⟩
  have cm := c m (List.mem_of_getElem? h1)
  rw [List.getElem?_take] at h1 h2
  split at h1
  · rename_i q
    rw [if_pos q] at h2
    have h := R.at_ i m a h1 h2
    refine h.drop n ?_
    by_cases z : n ≤ S.length
    · rw [List.length_take, Nat.min_eq_left z] at cm
      exact cm
    · rw [List.length_take, Nat.min_eq_right (by omega)] at cm
      exact mo_clo_le (by omega) cm
  · cases h1
theorem Ext.drop (x : Ext G π H π' H') {n : Nat} (h : π.length ≤ n) : Ext G π H (π'.take n) H' := by
  obtain ⟨t, e, hn⟩ := x.pre
  refine ⟨⟨t.take (n - π.length), by rw [e, List.take_append, List.take_of_length_le h], fun a ha => hn a (List.mem_of_mem_take ha)⟩, x.tup, x.fzl, x.frm, x.there, x.lck⟩
end
end D3
set_option Elab.async false
set_option linter.all false
set_option maxRecDepth 100000
set_option maxHeartbeats 2000000
namespace D3
open PySem PySem.Spec PyProof.Rows L2
abbrev KD := Dv → Store → Prop
abbrev TEd := Sl → Store → KD → Prop
abbrev TTd := Sl → Store → (Bool → Store → Prop) → Prop
abbrev TAd := Sl → Store → (List Dv → Store → Prop) → Prop
structure EndsD where
  nx : Sl → Store → Prop
  rt : KD
  bk : Sl → Store → Prop := fun _ _ => False
  ct : Sl → Store → Prop := fun _ _ => False
abbrev TSd := EndsD → Sl → Store → Prop
abbrev TGd := Dv → Sl → Store → (Sl → Store → Prop) → Prop
abbrev TGsd := List Dv → Sl → Store → (Sl → Store → Prop) → Prop
abbrev RD1 := Dv → Store → KD → Prop
abbrev RD2 := Dv → Dv → Store → KD → Prop
abbrev RDs := List Dv → Store → KD → Prop
structure Bs where
  G : Cf
  π0 : List Addr
  H0 : Hp
def RepSl (G : Cf) (π : List Addr) (H : Hp) (σd : Sl) (σ : L2.St) : Prop := σ.length = σd.length ∧ ∀ (i : Nat) (d : Dv), σd[i]? = some (some d) → ∃ v : V, σ[i]? = some (some v) ∧ Rep G π H d v
structure Rs (B : Bs) (π : List Addr) (H : Hp) (S : Store) (σd : Sl) (σ : L2.St) : Prop where
  ext : Ext B.G B.π0 B.H0 π H
  sto : RepS B.G π H S
  slt : RepSl B.G π H σd σ
theorem RepSl.mono {G : Cf} {π π' : List Addr} {H H' : Hp} {σd : Sl} {σ : L2.St} (x : Ext G π H π' H') (h : RepSl G π H σd σ) : RepSl G π' H' σd σ :=
  ⟨h.1, fun i d e => by obtain ⟨v, h1, h2⟩ := h.2 i d e; exact ⟨v, h1, h2.mono x⟩⟩
theorem Rs.to {B : Bs} {π π' : List Addr} {H H' : Hp} {S S' : Store} {σd : Sl} {σ : L2.St} (R : Rs B π H S σd σ) (x : Ext B.G π H π' H') (R' : RepS B.G π' H' S') : Rs B π' H' S' σd σ :=
  ⟨R.ext.trans x, R', R.slt.mono x⟩
theorem RepSl.set {G : Cf} {π : List Addr} {H : Hp} {σd : Sl} {σ : L2.St} {d : Dv} {v : V} (h : RepSl G π H σd σ) (r : Rep G π H d v) (i : Nat) : RepSl G π H (σd.set i (some d)) (σ.set i (some v)) := by
  refine ⟨by rw [List.length_set, List.length_set]; exact h.1, fun j e q => ?_⟩
  by_cases z : j = i
  · subst z
    have hj : j < σd.length := by have q := (List.getElem?_eq_some_iff.mp q).1; rw [List.length_set] at q; exact q
    rw [List.getElem?_set_self hj] at q
    cases q
    exact ⟨v, List.getElem?_set_self (by rw [h.1]; exact hj), r⟩
  · rw [List.getElem?_set_ne (fun y => z y.symm)] at q
    obtain ⟨u, h1, h2⟩ := h.2 j e q
    exact ⟨u, by rw [List.getElem?_set_ne (fun y => z y.symm)]; exact h1, h2⟩
theorem RepSl.setN {G : Cf} {π : List Addr} {H : Hp} {σd : Sl} {σ : L2.St} (h : RepSl G π H σd σ) (i : Nat) (o : Option V) : RepSl G π H (σd.set i none) (σ.set i o) := by
  refine ⟨by rw [List.length_set, List.length_set]; exact h.1, fun j e q => ?_⟩
  by_cases z : j = i
  · subst z
    have hj : j < σd.length := by have q := (List.getElem?_eq_some_iff.mp q).1; rw [List.length_set] at q; exact q
    rw [List.getElem?_set_self hj] at q
    cases q
  · rw [List.getElem?_set_ne (fun y => z y.symm)] at q
    obtain ⟨u, h1, h2⟩ := h.2 j e q
    exact ⟨u, by rw [List.getElem?_set_ne (fun y => z y.symm)]; exact h1, h2⟩
def KV' (B : Bs) (π : List Addr) (H : Hp) (Qd : KD) (Q : VK) : Prop := ∀ π' H' S' d v, Ext B.G π H π' H' → RepS B.G π' H' S' → Rep B.G π' H' d v → Qd d S' → Q v H'
def LE (B : Bs) (td : TEd) : TE := fun σ H Q => ∃ π S σd Qd, Rs B π H S σd σ ∧ td σd S Qd ∧ KV' B π H Qd Q
def LT (B : Bs) (td : TTd) : TT := fun σ H Q => ∃ π S σd Qd, Rs B π H S σd σ ∧ td σd S Qd ∧ ∀ π' H' S' b, Ext B.G π H π' H' → RepS B.G π' H' S' → Qd b S' → Q b H'
def LA (B : Bs) (td : TAd) : TA := fun σ H Q => ∃ π S σd Qd, Rs B π H S σd σ ∧ td σd S Qd ∧ ∀ π' H' S' ds vs, Ext B.G π H π' H' → RepS B.G π' H' S' → RepL B.G π' H' ds vs → Qd ds S' → Q vs H'
def EndsR (B : Bs) (π : List Addr) (H : Hp) (Dd : EndsD) (D : Ends) : Prop :=
  (∀ π' H' S' σd' σ', Ext B.G π H π' H' → RepS B.G π' H' S' → RepSl B.G π' H' σd' σ' → Dd.nx σd' S' → D.nx σ' H') ∧
  (∀ π' H' S' d v, Ext B.G π H π' H' → RepS B.G π' H' S' → Rep B.G π' H' d v → Dd.rt d S' → D.rt v H') ∧
  (∀ π' H' S' σd' σ', Ext B.G π H π' H' → RepS B.G π' H' S' → RepSl B.G π' H' σd' σ' → Dd.bk σd' S' → D.bk σ' H') ∧
  (∀ π' H' S' σd' σ', Ext B.G π H π' H' → RepS B.G π' H' S' → RepSl B.G π' H' σd' σ' → Dd.ct σd' S' → D.ct σ' H')
def LS (B : Bs) (td : TSd) : TS := fun D σ H => ∃ π S σd Dd, Rs B π H S σd σ ∧ td Dd σd S ∧ EndsR B π H Dd D
def LG (B : Bs) (g : TGd) : TG := fun v σ H Q => ∃ π S σd d Qd, Rs B π H S σd σ ∧ Rep B.G π H d v ∧ g d σd S Qd ∧ ∀ π' H' S' σd' σ', Ext B.G π H π' H' → RepS B.G π' H' S' → RepSl B.G π' H' σd' σ' → Qd σd' S' → Q σ' H'
def LGs (B : Bs) (g : TGsd) : TGs := fun vs σ H Q => ∃ π S σd ds Qd, Rs B π H S σd σ ∧ RepL B.G π H ds vs ∧ g ds σd S Qd ∧ ∀ π' H' S' σd' σ', Ext B.G π H π' H' → RepS B.G π' H' S' → RepSl B.G π' H' σd' σ' → Qd σd' S' → Q σ' H'
/-- by values -/
def L1 (B : Bs) (r : RD1) : V → Hp → VK → Prop := fun v H Q => ∃ π S d Qd, RepS B.G π H S ∧ Rep B.G π H d v ∧ r d S Qd ∧ KV' B π H Qd Q
def L2' (B : Bs) (r : RD2) : R2 := fun v u H Q => ∃ π S d e Qd, RepS B.G π H S ∧ Rep B.G π H d v ∧ Rep B.G π H e u ∧ r d e S Qd ∧ KV' B π H Qd Q
def LC (B : Bs) (r : RDs) : List V → Hp → VK → Prop := fun vs H Q => ∃ π S ds Qd, RepS B.G π H S ∧ RepL B.G π H ds vs ∧ r ds S Qd ∧ KV' B π H Qd Q
def LM (B : Bs) (r : Dv → RDs) : V → List V → Hp → VK → Prop := fun v vs H Q => ∃ π S d ds Qd, RepS B.G π H S ∧ Rep B.G π H d v ∧ RepL B.G π H ds vs ∧ r d ds S Qd ∧ KV' B π H Qd Q
theorem KV'.to {B : Bs} {π π1 : List Addr} {H H1 : Hp} {Qd : KD} {Q : VK} (k : KV' B π H Qd Q) (x : Ext B.G π H π1 H1) : KV' B π1 H1 Qd Q := fun π' H' S' d v y R r q => k π' H' S' d v (x.trans y) R r q
theorem EndsR.to {B : Bs} {π π1 : List Addr} {H H1 : Hp} {Dd : EndsD} {D : Ends} (k : EndsR B π H Dd D) (x : Ext B.G π H π1 H1) : EndsR B π1 H1 Dd D :=
  ⟨fun π' H' S' d v y R r q => k.1 π' H' S' d v (x.trans y) R r q, fun π' H' S' d v y R r q => k.2.1 π' H' S' d v (x.trans y) R r q,
    fun π' H' S' d v y R r q => k.2.2.1 π' H' S' d v (x.trans y) R r q, fun π' H' S' d v y R r q => k.2.2.2 π' H' S' d v (x.trans y) R r q⟩
/-- an end, at once -/
theorem KV'.here {B : Bs} {π : List Addr} {H : Hp} {S : Store} {Qd : KD} {Q : VK} {d : Dv} {v : V} (k : KV' B π H Qd Q) (R : RepS B.G π H S) (r : Rep B.G π H d v) (q : Qd d S) : Q v H := k π H S d v (Ext.refl _ _ _) R r q
/-- .. with a new tuple -/
theorem KV'.tup {B : Bs} {π : List Addr} {H : Hp} {S : Store} {Qd : KD} {Q : VK} {ds : List Dv} {vs : List V} (k : KV' B π H Qd Q) (R : RepS B.G π H S) (r : RepL B.G π H ds vs) (q : Qd (.tup ds) S) {p : Addr} (hp : H p = none) : Q (.ref p) (upd H p (.tup vs)) := by
  obtain ⟨R1, x⟩ := step_aside R (o := .tup vs) hp
  exact k π _ S (.tup ds) _ x R1 (.tup (.inl upd_same) (r.mono x)) q
/-- .. with a new list -/
theorem KV'.lst {B : Bs} {π : List Addr} {H : Hp} {S : Store} {Qd : KD} {Q : VK} {ds : List Dv} {vs : List V} (k : KV' B π H Qd Q) (R : RepS B.G π H S) (r : RepL B.G π H ds vs) (q : Qd (.obj S.length) (S ++ [.lst ds])) {p : Addr} (hp : H p = none) : Q (.ref p) (upd H p (.lst vs)) := by
  have x1 : Ext B.G π H (π ++ [p]) (upd H p (.lst vs)) := ext_adopt (Ext.refl _ _ _) hp
  obtain ⟨R1, x⟩ := step_new R (o := .lst vs) (m := .lst ds) hp ⟨vs, upd_same, r.mono x1⟩
  exact k _ _ _ (.obj S.length) _ x R1 (.obj (by rw [← R.len, List.getElem?_append_right (Nat.le_refl _), Nat.sub_self]; rfl)) q
/-- .. with an object written -/
theorem KV'.wr {B : Bs} {π : List Addr} {H : Hp} {S : Store} {Qd : KD} {Q : VK} {ds : List Dv} {vs : List V} {i : Nat} {a : Addr} {d : Dv} {v : V} (k : KV' B π H Qd Q) (R : RepS B.G π H S) (hi : π[i]? = some a) {zs : List V} (hz : H a = some (.lst zs)) (r : RepL B.G π H ds vs) (rd : Rep B.G π H d v)
    (q : Qd d (S.set i (.lst ds))) : Q v (upd H a (.lst vs)) := by
  have x := ext_write R (.lst vs) hi (fun od u e => by rw [hz] at e; cases e)
  exact k _ _ _ d v x (step_write (m := .lst ds) R hi ⟨vs, upd_same, r.mono x⟩) (rd.mono x) q
section
variable {X : Cx}
theorem PE_imp {e : Expr} {t t' : TE} (h : PE X e t) (k : ∀ σ H Q, t' σ H Q → t σ H Q) : PE X e t' := ⟨fun pins s σ H Q I q => h.run pins s σ H Q I (k σ H Q q)⟩
theorem PT_imp {e : Expr} {t t' : TT} (h : PT X e t) (k : ∀ σ H Q, t' σ H Q → t σ H Q) : PT X e t' := ⟨fun pins s σ H Q I q => h.run pins s σ H Q I (k σ H Q q)⟩
theorem PW_imp {e : Expr} {t t' : TT} (h : PW X e t) (k : ∀ σ H Q, t' σ H Q → t σ H Q) : PW X e t' := ⟨fun w pins s σ H Q I q => h.run w pins s σ H Q I (k σ H Q q)⟩
theorem PA_imp {e : List Expr} {t t' : TA} (h : PA X e t) (k : ∀ σ H Q, t' σ H Q → t σ H Q) : PA X e t' := ⟨fun pos pins s σ H Q I q => h.run pos pins s σ H Q I (k σ H Q q)⟩
theorem PS_imp {e : Stmt} {t t' : TS} (h : PS X e t) (k : ∀ D σ H, t' D σ H → t D σ H) : PS X e t' := ⟨fun pins s σ H D I q => h.run pins s σ H D I (k D σ H q)⟩
theorem PSs_imp {e : List Stmt} {t t' : TS} (h : PSs X e t) (k : ∀ D σ H, t' D σ H → t D σ H) : PSs X e t' := ⟨fun pins s σ H D I q => h.run pins s σ H D I (k D σ H q)⟩
theorem PG_imp {e : Expr} {t t' : TG} (h : PG X e t) (k : ∀ v σ H Q, t' v σ H Q → t v σ H Q) : PG X e t' := ⟨fun pins s σ H v u Q I r q => h.run pins s σ H v u Q I r (k v σ H Q q)⟩
theorem PGs_imp {e : List Expr} {t t' : TGs} (h : PGs X e t) (k : ∀ v σ H Q, t' v σ H Q → t v σ H Q) : PGs X e t' := ⟨fun pins s σ H v u Q I r q => h.run pins s σ H v u Q I r (k v σ H Q q)⟩
theorem OpR_imp {f : Value → Value → Sem Value} {r r' : R2} (h : OpR X f r) (k : ∀ x y H Q, r' x y H Q → r x y H Q) : OpR X f r' := fun pins s σ H x y v u Q I rx ry q => h pins s σ H x y v u Q I rx ry (k _ _ _ _ q)
theorem UnR_imp {f : Value → Sem Value} {r r' : V → Hp → VK → Prop} (h : UnR X f r) (k : ∀ x H Q, r' x H Q → r x H Q) : UnR X f r' := fun pins s σ H x v Q I rx q => h pins s σ H x v Q I rx (k _ _ _ q)
theorem CallR_imp {f : Value} {r r' : List V → Hp → VK → Prop} (h : CallR X f r) (k : ∀ x H Q, r' x H Q → r x H Q) : CallR X f r' := fun pins s σ H x v Q I rx q => h pins s σ H x v Q I rx (k _ _ _ q)
end
end D3
set_option Elab.async false
set_option linter.all false
set_option maxRecDepth 100000
set_option maxHeartbeats 2000000
namespace D3
open PySem PySem.Spec PyProof.Rows L2
def eVar (i : Nat) : TEd := fun σ S Q => ∃ d, σ[i]? = some (some d) ∧ Q d S
def eC (d : Dv) : TEd := fun _ S Q => Q d S
def eOp (r : RD2) (a b : TEd) : TEd := fun σ S Q => a σ S fun x S1 => b σ S1 fun y S2 => r x y S2 Q
def eUn (r : RD1) (a : TEd) : TEd := fun σ S Q => a σ S fun x S1 => r x S1 Q
def cVal (t : TEd) : TTd := fun σ S Q => t σ S fun x S1 => ∃ c, x = .bl c ∧ Q c S1
def eChain (r r' : RD2) (a b c : TEd) : TEd := fun σ S Q => a σ S fun x S1 => b σ S1 fun y S2 => r x y S2 fun z S3 => ∃ k, z = .bl k ∧ (if k = true then c σ S3 fun w S4 => r' y w S4 Q else Q (.bl false) S3)
def cAnd (t u : TTd) : TTd := fun σ S Q => t σ S fun c S1 => if c = true then u σ S1 Q else Q false S1
def cOr (t u : TTd) : TTd := fun σ S Q => t σ S fun c S1 => if c = true then Q true S1 else u σ S1 Q
def cNot (t : TTd) : TTd := fun σ S Q => t σ S fun c S1 => Q (!c) S1
def eAnd (a b : TEd) : TEd := fun σ S Q => a σ S fun x S1 => ∃ c, x = .bl c ∧ if c = true then b σ S1 Q else Q (.bl false) S1
def eOr (a b : TEd) : TEd := fun σ S Q => a σ S fun x S1 => ∃ c, x = .bl c ∧ if c = true then Q (.bl true) S1 else b σ S1 Q
def eNot (a : TEd) : TEd := fun σ S Q => a σ S fun x S1 => ∃ c, x = .bl c ∧ Q (.bl (!c)) S1
def eIf (t : TTd) (a b : TEd) : TEd := fun σ S Q => t σ S fun c S1 => if c = true then a σ S1 Q else b σ S1 Q
def aNil : TAd := fun _ S Q => Q [] S
def aCons (e : TEd) (r : TAd) : TAd := fun σ S Q => e σ S fun x S1 => r σ S1 fun xs S2 => Q (x :: xs) S2
def eTup (t : TAd) : TEd := fun σ S Q => t σ S fun xs S1 => xs.length ≤ sizeLine ∧ Q (.tup xs) S1
def eLst (t : TAd) : TEd := fun σ S Q => t σ S fun xs S1 => xs.length ≤ sizeLine ∧ Q (.obj S1.length) (S1 ++ [.lst xs])
def eArgs (r : RDs) (t : TAd) : TEd := fun σ S Q => t σ S fun xs S1 => r xs S1 Q
section
variable {X : Cx} {B : Bs} {a b c e : Expr} {pos : Pos} {ta tb tc td : TEd}
theorem LE_same {t : TE} {td : TEd} (h : ∀ π S σd σ H Qd Q, Rs B π H S σd σ → td σd S Qd → KV' B π H Qd Q → t σ H Q) : ∀ σ H Q, LE B td σ H Q → t σ H Q := fun σ H Q ⟨π, S, σd, Qd, R, q, k⟩ => h π S σd σ H Qd Q R q k
theorem pv' (i : Nat) {x : Str} (hN : X.N[i]? = some x := by rfl) (hv : Vis X.env.scope x := by first | exact Or.inl rfl | exact Or.inr (Or.inl rfl) | exact Or.inr (Or.inr rfl)) (hd : (x == ("__debug__" : Str)) = false := by decide)
    (hcd : (x == ("__classdict__" : Str)) = false := by decide) : PE X (.Name x pos) (LE B (eVar i)) :=
  PE_imp (pe_var hN hv hd hcd) (LE_same fun π S σd σ H Qd Q R ⟨d, e, q⟩ k => by
    obtain ⟨v, h1, h2⟩ := R.slt.2 i d e
    exact ⟨v, h1, k.here R.sto h2 q⟩)
theorem pC {d : Dv} {v : V} (h : PE X e (tC v)) (r : ∀ π H, Rep B.G π H d v) : PE X e (LE B (eC d)) :=
  PE_imp h (LE_same fun π S σd σ H Qd Q R q k => k.here R.sto (r _ _) q)
theorem pInt {i : Int} {j : Nat} : PE X (.Constant (.int i) j pos) (LE B (eC (.int i))) := pC pe_int fun _ _ => .int i
theorem pBl {i : Bool} {j : Nat} : PE X (.Constant (.bool i) j pos) (LE B (eC (.bl i))) := pC pe_bl fun _ _ => .bl i
theorem pNon {j : Nat} : PE X (.Constant .none j pos) (LE B (eC .non)) := pC pe_non fun _ _ => .non
theorem pStr {i : Str} {j : Nat} : PE X (.Constant (.str i) j pos) (LE B (eC (.str i))) := pC pe_str fun _ _ => .str i
theorem pGlob {x : Str} {d : Dv} {v : V} {u : Value} (hg : Gl X x) (hm : X.mg x = some u) (r : RelV v u) (rd : ∀ π H, Rep B.G π H d v) (hd : (x == ("__debug__" : Str)) = false := by decide) : PE X (.Name x pos) (LE B (eC d)) := pC (pe_glob hg hm r hd) rd
theorem pTy {x : Str} {n : String} (hg : Gl X x) (hm : X.mg x = none) (hv : bootBuiltins x = some (.type n)) (hn : x ≠ "__name__" := by decide) (hd : (x == ("__debug__" : Str)) = false := by decide) : PE X (.Name x pos) (LE B (eC (.ty n))) := pC (pe_bltn hg hm hv (v := .ty n) rfl hn hd) fun _ _ => .ty n
theorem LE_op {r : RD2} (ta tb : TEd) : ∀ σ H Q, LE B (eOp r ta tb) σ H Q → tOp (L2' B r) (LE B ta) (LE B tb) σ H Q := by
  rintro σ H Q ⟨π, S, σd, Qd, R, h, k⟩
  refine ⟨π, S, σd, _, R, h, fun π1 H1 S1 x v e1 R1 rx q => ?_⟩
  refine ⟨π1, S1, σd, _, R.to e1 R1, q, fun π2 H2 S2 y u e2 R2 ry q2 => ?_⟩
  exact ⟨π2, S2, x, y, Qd, R2, rx.mono e2, ry, q2, k.to (e1.trans e2)⟩
theorem LE_un {r : RD1} (ta : TEd) : ∀ σ H Q, LE B (eUn r ta) σ H Q → tUn (L1 B r) (LE B ta) σ H Q := by
  rintro σ H Q ⟨π, S, σd, Qd, R, h, k⟩
  exact ⟨π, S, σd, _, R, h, fun π1 H1 S1 x v e1 R1 rx q => ⟨π1, S1, x, Qd, R1, rx, q, k.to e1⟩⟩
theorem pOp {op : Operator} {r : RD2} (ho : OpR X (binaryOp op) (L2' B r)) (ha : PE X a (LE B ta)) (hb : PE X b (LE B tb)) : PE X (.BinOp a op b pos) (LE B (eOp r ta tb)) := PE_imp (pe_op ho ha hb) (LE_op ta tb)
theorem pUn {op : UnaryOp} {r : RD1} (ho : UnR X (unaryOp op) (L1 B r)) (ha : PE X a (LE B ta)) : PE X (.UnaryOp op a pos) (LE B (eUn r ta)) := PE_imp (pe_un ho ha) (LE_un ta)
theorem pCmp {op : CmpOp} {r : RD2} (ho : OpR X (compareOp op) (L2' B r)) (ha : PE X a (LE B ta)) (hb : PE X b (LE B tb)) (hm : behindInMarks op b = false := by first | exact nomark _ (by decide) (by decide) | rfl | with_unfolding_all rfl) : PE X (.Compare a [op] [b] pos) (LE B (eOp r ta tb)) := PE_imp (pe_cmpR ho ha hb hm) (LE_op ta tb)
theorem pChain {op op' : CmpOp} {r r' : RD2} (ho : OpR X (compareOp op) (L2' B r)) (ho' : OpR X (compareOp op') (L2' B r')) (ha : PE X a (LE B ta)) (hb : PE X b (LE B tb)) (hc : PE X c (LE B tc))
    (hm : lastMarks [op, op'] [b, c] = false := by with_unfolding_all rfl) : PE X (.Compare a [op, op'] [b, c] pos) (LE B (eChain r r' ta tb tc)) := by
  refine PE_imp (pe_chain ho ho' ha hb hc hm) ?_
  rintro σ H Q ⟨π, S, σd, Qd, R, h, k⟩
  refine ⟨π, S, σd, _, R, h, fun π1 H1 S1 x v e1 R1 rx q => ?_⟩
  refine ⟨π1, S1, σd, _, R.to e1 R1, q, fun π2 H2 S2 y u e2 R2 ry q2 => ?_⟩
  refine ⟨π2, S2, x, y, _, R2, rx.mono e2, ry, q2, fun π3 H3 S3 z w e3 R3 rz q3 => ?_⟩
  obtain ⟨kk, rfl, q4⟩ := q3
  obtain rfl := rz.bl_inv
  refine ⟨kk, rfl, ?_⟩
  cases kk with
  | true =>
    rw [if_pos rfl] at q4 ⊢
    refine ⟨π3, S3, σd, _, R.to (e1.trans (e2.trans e3)) R3, q4, fun π4 H4 S4 d4 v4 e4 R4 r4 q5 => ?_⟩
    exact ⟨π4, S4, y, d4, Qd, R4, ry.mono (e3.trans e4), r4, q5, k.to (e1.trans (e2.trans (e3.trans e4)))⟩
  | false =>
    rw [if_neg Bool.false_ne_true] at q4 ⊢
    exact k π3 H3 S3 _ _ (e1.trans (e2.trans e3)) R3 (.bl false) q4
theorem LT_val (td : TEd) : ∀ σ H Q, LT B (cVal td) σ H Q → tB (LE B td) σ H Q := by
  rintro σ H Q ⟨π, S, σd, Qd, R, h, k⟩
  refine ⟨π, S, σd, _, R, h, fun π1 H1 S1 x v e1 R1 rx q => ?_⟩
  obtain ⟨c, rfl, q⟩ := q
  obtain rfl := rx.bl_inv
  exact ⟨c, rfl, k π1 H1 S1 c e1 R1 q⟩
theorem tVal (h : PE X e (LE B td)) (he : ∀ whole, isTrue e X.env whole = (do let v ← whole; standAt e.pos; holding [v] (truthy v)) := by intro _; rfl) : PT X e (LT B (cVal td)) := PT_imp (pt_val h he) (LT_val td)
theorem tCmp' {op : CmpOp} {r : RD2} (ho : OpR X (compareOp op) (L2' B r)) (ha : PE X a (LE B ta)) (hb : PE X b (LE B tb)) (hm : behindInMarks op b = false := by first | exact nomark _ (by decide) (by decide) | rfl | with_unfolding_all rfl) : PT X (.Compare a [op] [b] pos) (LT B (cVal (eOp r ta tb))) :=
  PT_imp (pt_cmpR ho ha hb hm) (by
    rintro σ H Q ⟨π, S, σd, Qd, R, h, k⟩
    have q := LE_op (B := B) (r := r) ta tb σ H (fun x H1 => ∃ c, x = .bl c ∧ Q c H1) ⟨π, S, σd, _, R, h, fun π1 H1 S1 x v e1 R1 rx q => by
      obtain ⟨c, rfl, q⟩ := q
      obtain rfl := rx.bl_inv
      exact ⟨c, rfl, k π1 H1 S1 c e1 R1 q⟩⟩
    exact q)
theorem tChain' {op op' : CmpOp} {r r' : RD2} (ho : OpR X (compareOp op) (L2' B r)) (ho' : OpR X (compareOp op') (L2' B r')) (ha : PE X a (LE B ta)) (hb : PE X b (LE B tb)) (hc : PE X c (LE B tc))
    (hm : lastMarks [op, op'] [b, c] = false := by with_unfolding_all rfl) : PT X (.Compare a [op, op'] [b, c] pos) (LT B (cVal (eChain r r' ta tb tc))) := by
  refine PT_imp (pt_chain ho ho' ha hb hc hm) ?_
  rintro σ H Q ⟨π, S, σd, Qd, R, h, k⟩
  refine ⟨π, S, σd, _, R, h, fun π1 H1 S1 x v e1 R1 rx q => ?_⟩
  refine ⟨π1, S1, σd, _, R.to e1 R1, q, fun π2 H2 S2 y u e2 R2 ry q2 => ?_⟩
  refine ⟨π2, S2, x, y, _, R2, rx.mono e2, ry, q2, fun π3 H3 S3 z w e3 R3 rz q3 => ?_⟩
  obtain ⟨kk, rfl, q4⟩ := q3
  obtain rfl := rz.bl_inv
  refine ⟨kk, rfl, ?_⟩
  cases kk with
  | true =>
    rw [if_pos rfl] at q4 ⊢
    refine ⟨π3, S3, σd, _, R.to (e1.trans (e2.trans e3)) R3, q4, fun π4 H4 S4 d4 v4 e4 R4 r4 q5 => ?_⟩
    refine ⟨π4, S4, y, d4, _, R4, ry.mono (e3.trans e4), r4, q5, fun π5 H5 S5 d5 v5 e5 R5 r5 q6 => ?_⟩
    obtain ⟨c, rfl, q7⟩ := q6
    obtain rfl := r5.bl_inv
    exact ⟨c, rfl, k π5 H5 S5 c (e1.trans (e2.trans (e3.trans (e4.trans e5)))) R5 q7⟩
  | false =>
    rw [if_neg Bool.false_ne_true] at q4 ⊢
    obtain ⟨c, hc, q7⟩ := q4
    cases hc
    exact ⟨false, rfl, k π3 H3 S3 false (e1.trans (e2.trans e3)) R3 q7⟩
variable {tA tB' : TTd} {rest : List Expr}
theorem LT_and (t u : TTd) : ∀ σ H Q, LT B (cAnd t u) σ H Q → tAnd (LT B t) (LT B u) σ H Q := by
  rintro σ H Q ⟨π, S, σd, Qd, R, h, k⟩
  refine ⟨π, S, σd, _, R, h, fun π1 H1 S1 c e1 R1 q => ?_⟩
  cases c with
  | true =>
    rw [if_pos rfl] at q ⊢
    exact ⟨π1, S1, σd, Qd, R.to e1 R1, q, fun π2 H2 S2 c e2 R2 q => k π2 H2 S2 c (e1.trans e2) R2 q⟩
  | false =>
    rw [if_neg Bool.false_ne_true] at q ⊢
    exact k π1 H1 S1 false e1 R1 q
theorem LT_or (t u : TTd) : ∀ σ H Q, LT B (cOr t u) σ H Q → tOr (LT B t) (LT B u) σ H Q := by
  rintro σ H Q ⟨π, S, σd, Qd, R, h, k⟩
  refine ⟨π, S, σd, _, R, h, fun π1 H1 S1 c e1 R1 q => ?_⟩
  cases c with
  | false =>
    rw [if_neg Bool.false_ne_true] at q ⊢
    exact ⟨π1, S1, σd, Qd, R.to e1 R1, q, fun π2 H2 S2 c e2 R2 q => k π2 H2 S2 c (e1.trans e2) R2 q⟩
  | true =>
    rw [if_pos rfl] at q ⊢
    exact k π1 H1 S1 true e1 R1 q
theorem wAnd1 (ha : PT X a (LT B tA)) : PW X (.BoolOp .And [a] pos) (LT B tA) := pw_and1 ha
theorem wOr1 (ha : PT X a (LT B tA)) : PW X (.BoolOp .Or [a] pos) (LT B tA) := pw_or1 ha
theorem wAnd (ha : PT X a (LT B tA)) (hb : PW X (.BoolOp .And (b :: rest) pos) (LT B tB')) : PW X (.BoolOp .And (a :: b :: rest) pos) (LT B (cAnd tA tB')) := PW_imp (pw_and ha hb) (LT_and _ _)
theorem wOr (ha : PT X a (LT B tA)) (hb : PW X (.BoolOp .Or (b :: rest) pos) (LT B tB')) : PW X (.BoolOp .Or (a :: b :: rest) pos) (LT B (cOr tA tB')) := PW_imp (pw_or ha hb) (LT_or _ _)
theorem tNot' (ha : PT X a (LT B tA)) : PT X (.UnaryOp .Not a pos) (LT B (cNot tA)) := PT_imp (pt_not ha) (by
  rintro σ H Q ⟨π, S, σd, Qd, R, h, k⟩
  exact ⟨π, S, σd, _, R, h, fun π1 H1 S1 c e1 R1 q => k π1 H1 S1 _ e1 R1 q⟩)
/-- .. as values -/
theorem pOne {op} (h : PE X a (LE B ta)) : PE X (.BoolOp op [a] pos) (LE B ta) := pe_one h
theorem pAnd (ha : PE X a (LE B ta)) (hb : PE X (.BoolOp .And (b :: rest) pos) (LE B tb)) : PE X (.BoolOp .And (a :: b :: rest) pos) (LE B (eAnd ta tb)) := PE_imp (pe_and ha hb) (by
  rintro σ H Q ⟨π, S, σd, Qd, R, h, k⟩
  refine ⟨π, S, σd, _, R, h, fun π1 H1 S1 x v e1 R1 rx q => ?_⟩
  obtain ⟨c, rfl, q⟩ := q
  obtain rfl := rx.bl_inv
  refine ⟨c, rfl, ?_⟩
  cases c with
  | true =>
    rw [if_pos rfl] at q ⊢
    exact ⟨π1, S1, σd, Qd, R.to e1 R1, q, k.to e1⟩
  | false =>
    rw [if_neg Bool.false_ne_true] at q ⊢
    exact k π1 H1 S1 _ _ e1 R1 (.bl false) q)
theorem pNot (ha : PE X a (LE B ta)) : PE X (.UnaryOp .Not a pos) (LE B (eNot ta)) := PE_imp (pe_not ha) (by
  rintro σ H Q ⟨π, S, σd, Qd, R, h, k⟩
  refine ⟨π, S, σd, _, R, h, fun π1 H1 S1 x v e1 R1 rx q => ?_⟩
  obtain ⟨c, rfl, q⟩ := q
  obtain rfl := rx.bl_inv
  exact ⟨c, rfl, k π1 H1 S1 _ _ e1 R1 (.bl _) q⟩)
theorem pIfE (hc : PT X c (LT B tA)) (ha : PE X a (LE B ta)) (hb : PE X b (LE B tb)) : PE X (.IfExp c a b pos) (LE B (eIf tA ta tb)) := PE_imp (pe_ifExp hc ha hb) (by
  rintro σ H Q ⟨π, S, σd, Qd, R, h, k⟩
  refine ⟨π, S, σd, _, R, h, fun π1 H1 S1 c e1 R1 q => ?_⟩
  cases c with
  | false =>
    rw [if_neg Bool.false_ne_true] at q ⊢
    exact ⟨π1, S1, σd, Qd, R.to e1 R1, q, k.to e1⟩
  | true =>
    rw [if_pos rfl] at q ⊢
    exact ⟨π1, S1, σd, Qd, R.to e1 R1, q, k.to e1⟩)
variable {es : List Expr} {t : TAd}
theorem aNil' : PA X [] (LA B aNil) := PA_imp pa_nil (by
  rintro σ H Q ⟨π, S, σd, Qd, R, h, k⟩
  exact k π H S [] [] (Ext.refl _ _ _) R.sto .nil h)
theorem aCons' (ha : PE X e (LE B ta)) (hr : PA X es (LA B t)) (hs : starEach (e :: es) X.env = (false, eval e X.env) :: starEach es X.env := by rfl) : PA X (e :: es) (LA B (aCons ta t)) := PA_imp (pa_cons ha hr hs) (by
  rintro σ H Q ⟨π, S, σd, Qd, R, h, k⟩
  refine ⟨π, S, σd, _, R, h, fun π1 H1 S1 x v e1 R1 rx q => ?_⟩
  refine ⟨π1, S1, σd, _, R.to e1 R1, q, fun π2 H2 S2 ys us e2 R2 ry q2 => ?_⟩
  exact k π2 H2 S2 _ _ (e1.trans e2) R2 (.cons (rx.mono e2) ry) q2)
theorem pTup {x1} (h : PA X es (LA B t)) : PE X (.Tuple es x1 pos) (LE B (eTup t)) := PE_imp (pe_tup h) (by
  rintro σ H Q ⟨π, S, σd, Qd, R, h, k⟩
  refine ⟨π, S, σd, _, R, h, fun π1 H1 S1 ys us e1 R1 ry q => ⟨by rw [← ry.length]; exact q.1, fun p hp => ?_⟩⟩
  exact (k.to e1).tup R1 ry q.2 hp)
theorem pLst (h : PA X es (LA B t)) : PE X (.List es pos) (LE B (eLst t)) := PE_imp (pe_lst h) (by
  rintro σ H Q ⟨π, S, σd, Qd, R, h, k⟩
  refine ⟨π, S, σd, _, R, h, fun π1 H1 S1 ys us e1 R1 ry q => ⟨by rw [← ry.length]; exact q.1, fun p hp => ?_⟩⟩
  exact (k.to e1).lst R1 ry q.2 hp)
end
end D3
set_option Elab.async false
set_option linter.all false
set_option maxRecDepth 100000
set_option maxHeartbeats 2000000
namespace D3
open PySem PySem.Spec PyProof.Rows L2
def getL (S : Store) (i : Nat) : Option (List Dv) := match S[i]? with | some (.lst xs) => some xs | _ => none
theorem getL_iff {S : Store} {i : Nat} {xs : List Dv} : getL S i = some xs ↔ S[i]? = some (.lst xs) := by
  unfold getL
  split
  · rename_i ys h; rw [h]; simp
  · rename_i h; constructor
    · intro z; cases z
    · intro z; exact (h _ z).elim
def dAdd : RD2 := fun x y S Q => match x, y with
  | .int i, .int j => Q (.int (i + j)) S
  | .str a, .str b => a.length + b.length ≤ sizeLine ∧ Q (.str (a ++ b)) S
  | .byt a, .byt b => a.size + b.size ≤ 16777216 ∧ Q (.byt (a ++ b)) S
  | .tup a, .tup b => a.length + b.length ≤ sizeLine ∧ Q (.tup (a ++ b)) S
  | .obj i, .obj j => ∃ xs ys, getL S i = some xs ∧ getL S j = some ys ∧ xs.length + ys.length ≤ sizeLine ∧ Q (.obj S.length) (S ++ [.lst (xs ++ ys)])
  | _, _ => False
def dSub : RD2 := fun x y S Q => match x, y with
  | .int i, .int j => Q (.int (i - j)) S
  | _, _ => False
def MulOk (i j : Int) : Prop := CMul i j ∨ CMulW i j
def dMul : RD2 := fun x y S Q => match x, y with
  | .int i, .int j => MulOk i j ∧ Q (.int (i * j)) S
  | .obj i, .int k => ∃ xs, getL S i = some xs ∧ -(2 ^ 63) ≤ k ∧ k < 2 ^ 63 ∧ xs.length * k.toNat ≤ sizeLine ∧ Q (.obj S.length) (S ++ [.lst (List.replicate k.toNat xs).flatten])
  | _, _ => False
def DivOk (i j : Int) : Prop := CDiv i j ∨ CDivW i j
def dDiv : RD2 := fun x y S Q => match x, y with
  | .int i, .int j => DivOk i j ∧ Q (.int (i / j)) S
  | _, _ => False
def dMod : RD2 := fun x y S Q => match x, y with
  | .int i, .int j => 0 < j ∧ Q (.int (i % j)) S
  | _, _ => False
def dPow : RD2 := fun x y S Q => match x, y with
  | .int i, .int j => CPow i j ∧ Q (.int (i ^ j.toNat)) S
  | _, _ => False
def dNeg : RD1 := fun x S Q => match x with
  | .int i => Q (.int (-i)) S
  | _ => False
def dCmpI (p : Int → Int → Bool) : RD2 := fun x y S Q => match x, y with
  | .int i, .int j => Q (.bl (p i j)) S
  | _, _ => False
abbrev dLt : RD2 := dCmpI fun i j => decide (i < j)
abbrev dLe : RD2 := dCmpI fun i j => decide (i ≤ j)
abbrev dGt : RD2 := dCmpI fun i j => decide (j < i)
/-- is None, is not None -/
def isNon : Dv → Bool
  | .non => true
  | _ => false
def dIs : RD2 := fun x y S Q => match y with
  | .non => Q (.bl (isNon x)) S
  | _ => False
def dIsNot : RD2 := fun x y S Q => match y with
  | .non => Q (.bl (!isNon x)) S
  | _ => False
section
variable {X : Cx} {B : Bs}
theorem oAdd (hK : B.G.K = X.K := by rfl) : OpR X (binaryOp .Add) (L2' B dAdd) := by
  refine OpR_imp (OpR.or op_add (OpR.or op_add_str (OpR.or op_add_byt (OpR.or (op_catA (X := X)) op_cat)))) ?_
  rintro v u H Q ⟨π, S, d, e, Qd, R, r1, r2, q, k⟩
  unfold dAdd at q
  split at q
  · obtain rfl := r1.int_inv
    obtain rfl := r2.int_inv
    exact .inl ⟨_, _, rfl, rfl, k.here R (.int _) q⟩
  · obtain rfl := r1.str_inv
    obtain rfl := r2.str_inv
    exact .inr (.inl ⟨_, _, rfl, rfl, q.1, k.here R (.str _) q.2⟩)
  · obtain rfl := r1.byt_inv
    obtain rfl := r2.byt_inv
    exact .inr (.inr (.inl ⟨_, _, rfl, rfl, q.1, k.here R (.byt _) q.2⟩))
  · obtain ⟨a1, xs, rfl, s1, l1⟩ := r1.tup_inv
    obtain ⟨a2, ys, rfl, s2, l2⟩ := r2.tup_inv
    refine .inr (.inr (.inr (.inl ⟨_, _, xs, ys, rfl, rfl, by rw [← hK]; exact s1.sq, by rw [← hK]; exact s2.sq, by rw [← l1.length, ← l2.length]; exact q.1, fun e => ?_, fun _ e => ?_, fun _ _ p hp => k.tup R (l1.append l2) q.2 hp⟩)))
    · subst e
      refine k.here R (d := .tup (_ ++ _)) ?_ q.2
      cases l1
      exact .tup s2 l2
    · subst e
      refine k.here R (d := .tup (_ ++ _)) ?_ q.2
      cases l2
      rw [List.append_nil]
      exact .tup s1 l1
  · obtain ⟨xs, ys, g1, g2, hz, q⟩ := q
    obtain ⟨a, rfl, i1, zs, h1, l1⟩ := R.here (getL_iff.mp g1) r1
    obtain ⟨b, rfl, i2, ws, h2, l2⟩ := R.here (getL_iff.mp g2) r2
    exact .inr (.inr (.inr (.inr ⟨a, b, zs, ws, rfl, rfl, h1, h2, by rw [← l1.length, ← l2.length]; exact hz, fun p hp => k.lst R (l1.append l2) q hp⟩)))
  · exact q.elim
theorem oSub : OpR X (binaryOp .Sub) (L2' B dSub) := by
  refine OpR_imp op_sub ?_
  rintro v u H Q ⟨π, S, d, e, Qd, R, r1, r2, q, k⟩
  unfold dSub at q
  split at q
  · obtain rfl := r1.int_inv
    obtain rfl := r2.int_inv
    exact ⟨_, _, rfl, rfl, k.here R (.int _) q⟩
  · exact q.elim
theorem oMul : OpR X (binaryOp .Mult) (L2' B dMul) := by
  refine OpR_imp (OpR.or op_mul (OpR.or op_mulW op_rep)) ?_
  rintro v u H Q ⟨π, S, d, e, Qd, R, r1, r2, q, k⟩
  unfold dMul at q
  split at q
  · obtain rfl := r1.int_inv
    obtain rfl := r2.int_inv
    rcases q.1 with c | c
    · exact .inl ⟨_, _, rfl, rfl, c, k.here R (.int _) q.2⟩
    · exact .inr (.inl ⟨_, _, rfl, rfl, c, k.here R (.int _) q.2⟩)
  · obtain ⟨xs, g1, h1, h2, hz, q⟩ := q
    obtain ⟨a, rfl, i1, zs, e1, l1⟩ := R.here (getL_iff.mp g1) r1
    obtain rfl := r2.int_inv
    exact .inr (.inr ⟨a, _, zs, rfl, rfl, e1, h1, h2, by rw [← l1.length]; exact hz, fun p hp => k.lst R (l1.flat _) q hp⟩)
  · exact q.elim
theorem oDiv : OpR X (binaryOp .FloorDiv) (L2' B dDiv) := by
  refine OpR_imp (OpR.or op_fdiv op_fdivW) ?_
  rintro v u H Q ⟨π, S, d, e, Qd, R, r1, r2, q, k⟩
  unfold dDiv at q
  split at q
  · obtain rfl := r1.int_inv
    obtain rfl := r2.int_inv
    rcases q.1 with c | c
    · exact .inl ⟨_, _, rfl, rfl, c, k.here R (.int _) q.2⟩
    · exact .inr ⟨_, _, rfl, rfl, c, k.here R (.int _) q.2⟩
  · exact q.elim
theorem oMod : OpR X (binaryOp .Mod) (L2' B dMod) := by
  refine OpR_imp op_mod ?_
  rintro v u H Q ⟨π, S, d, e, Qd, R, r1, r2, q, k⟩
  unfold dMod at q
  split at q
  · obtain rfl := r1.int_inv
    obtain rfl := r2.int_inv
    exact ⟨_, _, rfl, rfl, q.1, k.here R (.int _) q.2⟩
  · exact q.elim
theorem oNeg : UnR X (unaryOp .USub) (L1 B dNeg) := by
  refine UnR_imp un_neg ?_
  rintro v H Q ⟨π, S, d, Qd, R, r1, q, k⟩
  unfold dNeg at q
  split at q
  · obtain rfl := r1.int_inv
    exact ⟨_, rfl, k.here R (.int _) q⟩
  · exact q.elim
theorem oCmpI {op : CmpOp} {p : Int → Int → Bool} (h : OpR X (compareOp op) (rI0 fun i j => .bl (p i j))) : OpR X (compareOp op) (L2' B (dCmpI p)) := by
  refine OpR_imp h ?_
  rintro v u H Q ⟨π, S, d, e, Qd, R, r1, r2, q, k⟩
  unfold dCmpI at q
  split at q
  · obtain rfl := r1.int_inv
    obtain rfl := r2.int_inv
    exact ⟨_, _, rfl, rfl, k.here R (.bl _) q⟩
  · exact q.elim
theorem oLt : OpR X (compareOp .Lt) (L2' B dLt) := oCmpI op_lt
theorem oLe : OpR X (compareOp .LtE) (L2' B dLe) := oCmpI op_le
theorem oGt : OpR X (compareOp .Gt) (L2' B dGt) := oCmpI op_gt
theorem isNon_rep {G : Cf} {π : List Addr} {H : Hp} {d : Dv} {v : V} (r : Rep G π H d v) : decide (v = V.non) = isNon d := by
  cases r <;> first | rfl | (exact decide_eq_false (by intro z; cases z))
theorem oIs : OpR X (compareOp .Is) (L2' B dIs) := by
  refine OpR_imp op_isN ?_
  rintro v u H Q ⟨π, S, d, e, Qd, R, r1, r2, q, k⟩
  unfold dIs at q
  split at q
  · obtain rfl := r2.non_inv
    exact ⟨rfl, by rw [isNon_rep r1]; exact k.here R (.bl _) q⟩
  · exact q.elim
theorem oIsNot : OpR X (compareOp .IsNot) (L2' B dIsNot) := by
  refine OpR_imp op_notN ?_
  rintro v u H Q ⟨π, S, d, e, Qd, R, r1, r2, q, k⟩
  unfold dIsNot at q
  split at q
  · obtain rfl := r2.non_inv
    exact ⟨rfl, by rw [isNon_rep r1]; exact k.here R (.bl _) q⟩
  · exact q.elim
end
mutual
def den (f : Nat → Option PyData) : Dv → Option PyData
  | .non => some .none
  | .bl b => some (.bool b)
  | .int i => some (.int i)
  | .str x => some (.str x)
  | .tup ds => (denL f ds).map .tuple
  | .fls ds => (denL f ds).map .list
  | .obj i => f i
  | .byt _ => none
  | .ty _ => none
  | .adr _ => none
def denL (f : Nat → Option PyData) : List Dv → Option (List PyData)
  | [] => some []
  | d :: ds => match den f d, denL f ds with
    | some x, some xs => some (x :: xs)
    | _, _ => none
end
def fO (S : Store) : Nat → Nat → Option PyData
  | 0, _ => none
  | n + 1, i => match getL S i with
    | some xs => (denL (fO S n) xs).map .list
    | none => none
section
variable {G : Cf} {π : List Addr} {H : Hp} {f : Nat → Option PyData}
mutual
theorem den_dp (hf : ∀ i d a, f i = some d → π[i]? = some a → Dp G.K H (.ref a) d) : ∀ {d : Dv} {v : V} {x : PyData}, Rep G π H d v → den f d = some x → Dp G.K H v x
  | _, _, _, .non, e => by cases e; exact .non
  | _, _, _, .bl b, e => by cases e; exact .bl b
  | _, _, _, .int i, e => by cases e; exact .int i
  | _, _, _, .str s, e => by cases e; exact .str s
  | _, _, _, .byt b, e => by cases e
  | _, _, _, .ty n, e => by cases e
  | _, _, _, .adr a, e => by cases e
  | _, _, _, .obj h, e => hf _ _ _ e h
  | _, _, _, .tup h r, e => by
    unfold den at e
    rw [Option.map_eq_some_iff] at e
    obtain ⟨xs, e1, rfl⟩ := e
    exact .tup h.sq (denL_dp hf r e1)
  | _, _, _, .fls h r, e => by
    unfold den at e
    rw [Option.map_eq_some_iff] at e
    obtain ⟨xs, e1, rfl⟩ := e
    exact .lst h.sq (denL_dp hf r e1)
theorem denL_dp (hf : ∀ i d a, f i = some d → π[i]? = some a → Dp G.K H (.ref a) d) : ∀ {ds : List Dv} {vs : List V} {xs : List PyData}, RepL G π H ds vs → denL f ds = some xs → DpAll G.K H vs xs
  | _, _, _, .nil, e => by cases e; exact .nil
  | _, _, _, .cons h t, e => by
    unfold denL at e
    split at e
    · rename_i x xs e1 e2
      cases e
      exact .cons (den_dp hf h e1) (denL_dp hf t e2)
    · cases e
end
theorem fO_dp {S : Store} (R : RepS G π H S) : ∀ (n : Nat) (i : Nat) (d : PyData) (a : Addr), fO S n i = some d → π[i]? = some a → Dp G.K H (.ref a) d
  | 0, _, _, _, e, _ => by cases e
  | n + 1, i, d, a, e, h => by
    unfold fO at e
    split at e
    · rename_i xs g
      rw [Option.map_eq_some_iff] at e
      obtain ⟨ys, e1, rfl⟩ := e
      obtain ⟨zs, h1, l⟩ := R.at_ i _ a (getL_iff.mp g) h
      exact .lst (SqL.of h1) (denL_dp (fO_dp R n) l e1)
    · cases e
end
/-- == of scalars, at once -/
def sEq : Dv → Dv → Option Bool
  | .int i, .int j => some (decide (i = j))
  | .str a, .str b => some (decide (a = b))
  | .bl a, .bl b => some (decide (a = b))
  | .byt a, .byt b => some (decide (a = b))
  | .non, .non => some true
  | .int _, .str _ => some false
  | .str _, .int _ => some false
  | .non, .int _ => some false
  | .int _, .non => some false
  | .non, .str _ => some false
  | .str _, .non => some false
  | _, _ => none
def dEq : RD2 := fun x y S Q => match sEq x y with
  | some b => Q (.bl b) S
  | none => ∃ dx dy, den (fO S 4) x = some dx ∧ den (fO S 4) y = some dy ∧ SeqAt.shaped dx = true ∧ SeqAt.shaped dy = true ∧ Q (.bl (PyData.eqv dx dy)) S
def dNe : RD2 := fun x y S Q => match sEq x y with
  | some b => Q (.bl (!b)) S
  | none => ∃ dx dy, den (fO S 4) x = some dx ∧ den (fO S 4) y = some dy ∧ SeqAt.shaped dx = true ∧ SeqAt.shaped dy = true ∧ Q (.bl (!PyData.eqv dx dy)) S
theorem sEq_rep {G : Cf} {π : List Addr} {H : Hp} {d e : Dv} {v u : V} {b : Bool} (r1 : Rep G π H d v) (r2 : Rep G π H e u) (h : sEq d e = some b) : scal v u = true ∧ decide (v = u) = b := by
  unfold sEq at h
  split at h
  all_goals first
    | (obtain rfl := r1.int_inv; obtain rfl := r2.int_inv; cases h; refine ⟨rfl, ?_⟩; rw [Bool.eq_iff_iff]; simp)
    | (obtain rfl := r1.str_inv; obtain rfl := r2.str_inv; cases h; refine ⟨rfl, ?_⟩; rw [Bool.eq_iff_iff]; simp)
    | (obtain rfl := r1.bl_inv; obtain rfl := r2.bl_inv; cases h; refine ⟨rfl, ?_⟩; rw [Bool.eq_iff_iff]; simp)
    | (obtain rfl := r1.byt_inv; obtain rfl := r2.byt_inv; cases h; refine ⟨rfl, ?_⟩; rw [Bool.eq_iff_iff]; simp)
    | (obtain rfl := r1.non_inv; obtain rfl := r2.non_inv; cases h; exact ⟨rfl, rfl⟩)
    | (obtain rfl := r1.int_inv; obtain rfl := r2.str_inv; cases h; exact ⟨rfl, rfl⟩)
    | (obtain rfl := r1.str_inv; obtain rfl := r2.int_inv; cases h; exact ⟨rfl, rfl⟩)
    | (obtain rfl := r1.non_inv; obtain rfl := r2.int_inv; cases h; exact ⟨rfl, rfl⟩)
    | (obtain rfl := r1.int_inv; obtain rfl := r2.non_inv; cases h; exact ⟨rfl, rfl⟩)
    | (obtain rfl := r1.non_inv; obtain rfl := r2.str_inv; cases h; exact ⟨rfl, rfl⟩)
    | (obtain rfl := r1.str_inv; obtain rfl := r2.non_inv; cases h; exact ⟨rfl, rfl⟩)
    | cases h
section
variable {X : Cx} {B : Bs}
theorem oEq (hK : B.G.K = X.K := by rfl) (hu : X.A.units + 64 < cLine) : OpR X (compareOp .Eq) (L2' B dEq) := by
  refine OpR_imp (OpR.or op_eq (op_eqD hu)) ?_
  rintro v u H Q ⟨π, S, d, e, Qd, R, r1, r2, q, k⟩
  unfold dEq at q
  split at q
  · rename_i b h
    obtain ⟨h1, h2⟩ := sEq_rep r1 r2 h
    exact .inl ⟨h1, by rw [h2]; exact k.here R (.bl _) q⟩
  · obtain ⟨dx, dy, e1, e2, s1, s2, q⟩ := q
    rw [← hK]
    exact .inr ⟨dx, dy, den_dp (fO_dp R 4) r1 e1, den_dp (fO_dp R 4) r2 e2, s1, s2, k.here R (.bl _) q⟩
theorem oNe (hK : B.G.K = X.K := by rfl) (hu : X.A.units + 64 < cLine) : OpR X (compareOp .NotEq) (L2' B dNe) := by
  refine OpR_imp (OpR.or op_ne (op_neD hu)) ?_
  rintro v u H Q ⟨π, S, d, e, Qd, R, r1, r2, q, k⟩
  unfold dNe at q
  split at q
  · rename_i b h
    obtain ⟨h1, h2⟩ := sEq_rep r1 r2 h
    exact .inl ⟨h1, by rw [h2]; exact k.here R (.bl _) q⟩
  · obtain ⟨dx, dy, e1, e2, s1, s2, q⟩ := q
    rw [← hK]
    exact .inr ⟨dx, dy, den_dp (fO_dp R 4) r1 e1, den_dp (fO_dp R 4) r2 e2, s1, s2, k.here R (.bl _) q⟩
end
end D3
set_option Elab.async false
set_option linter.all false
set_option maxRecDepth 100000
set_option maxHeartbeats 2000000
namespace D3
open PySem PySem.Spec PyProof.Rows L2
def flatD : Dv → Bool
  | .non => true
  | .bl _ => true
  | .int _ => true
  | .str _ => true
  | _ => false
def eqD : Dv → Dv → Bool
  | .non, .non => true
  | .bl a, .bl b => a == b
  | .bl a, .int b => (if a then 1 else 0) == b
  | .int a, .bl b => a == (if b then 1 else 0)
  | .int a, .int b => a == b
  | .str a, .str b => a == b
  | _, _ => false
def inD (x : Dv) (xs : List Dv) : Bool := xs.any fun y => eqD y x
def flatL : List Dv → Bool
  | [] => true
  | d :: ds => flatD d && flatL ds
/-- the items of a sequence -/
def seqOf (S : Store) : Dv → Option (List Dv)
  | .tup ds => some ds
  | .fls ds => some ds
  | .obj i => getL S i
  | _ => none
section
variable {G : Cf} {π : List Addr} {H : Hp} {S : Store}
theorem flat_rep {d : Dv} {v : V} (r : Rep G π H d v) (h : flatD d = true) : flatV v = true := by
  cases r <;> first | rfl | cases h
theorem eqD_rep {d e : Dv} {v u : V} (r1 : Rep G π H d v) (r2 : Rep G π H e u) (h1 : flatD d = true) (h2 : flatD e = true) : eqV v u = eqD d e := by
  cases r1 <;> first | (cases h1; done) | (cases r2 <;> first | rfl | (cases h2; done))
theorem flatL_rep : ∀ {ds : List Dv} {vs : List V}, RepL G π H ds vs → flatL ds = true → vs.all flatV = true
  | _, _, .nil, _ => rfl
  | _, _, .cons h t, e => by
    have e' : (flatD _ && flatL _) = true := e
    rw [Bool.and_eq_true] at e'
    rw [List.all_cons, flat_rep h e'.1, flatL_rep t e'.2]; rfl
theorem inD_rep {d : Dv} {v : V} (r : Rep G π H d v) (h : flatD d = true) : ∀ {ds : List Dv} {vs : List V}, RepL G π H ds vs → flatL ds = true → inV v vs = inD d ds
  | _, _, .nil, _ => rfl
  | _, _, .cons h1 t, e => by
    have e' : (flatD _ && flatL _) = true := e
    rw [Bool.and_eq_true] at e'
    have ih := inD_rep r h t e'.2
    show (eqV _ v || inV v _) = (eqD _ d || inD d _)
    rw [ih, eqD_rep h1 r e'.1 h]
/-- a sequence that is read -/
theorem seq_rep (R : RepS G π H S) {d : Dv} {v : V} {ds : List Dv} (r : Rep G π H d v) (h : seqOf S d = some ds) : ∃ a xs, v = .ref a ∧ (SqL G.K H a xs ∨ TpL G.K H a xs) ∧ RepL G π H ds xs := by
  cases r <;> first | (cases h; done) | skip
  · obtain ⟨a, e, _, xs, h1, l⟩ := R.here (getL_iff.mp h) (.obj ‹_›)
    cases e
    exact ⟨_, xs, rfl, .inl (SqL.of h1), l⟩
  · rename_i h1 l
    cases h
    exact ⟨_, _, rfl, .inr h1, l⟩
  · rename_i h1 l
    cases h
    exact ⟨_, _, rfl, .inl h1.sq, l⟩
end
def strIn (a b : Str) : Bool := !(Builtin.Str.occurrences b a 0 b.length 1).isEmpty
def dIn (neg : Bool) : RD2 := fun x y S Q => match x, y with
  | .str a, .str b => Q (.bl (if neg then !strIn a b else strIn a b)) S
  | x, y => ∃ ds, seqOf S y = some ds ∧ flatD x = true ∧ flatL ds = true ∧ Q (.bl (if neg then !inD x ds else inD x ds)) S
section
variable {X : Cx} {B : Bs}
theorem oIn (hK : B.G.K = X.K := by rfl) : OpR X (compareOp .In) (L2' B (dIn false)) := by
  refine OpR_imp (OpR.or op_in_str op_in_seq) ?_
  rintro v u H Q ⟨π, S, d, e, Qd, R, r1, r2, q, k⟩
  unfold dIn at q
  split at q
  · obtain rfl := r1.str_inv
    obtain rfl := r2.str_inv
    exact .inl ⟨_, _, rfl, rfl, k.here R (.bl _) q⟩
  · obtain ⟨ds, h, f1, f2, q⟩ := q
    obtain ⟨a, xs, rfl, hs, l⟩ := seq_rep R r2 h
    rw [hK] at hs
    refine .inr ⟨a, xs, rfl, hs.imp id TpL.sq, flat_rep r1 f1, flatL_rep l f2, ?_⟩
    have e := inD_rep r1 f1 l f2
    simp only [Bool.false_eq_true, if_false] at q ⊢
    rw [e]
    exact k.here R (.bl _) q
theorem oNotIn (hK : B.G.K = X.K := by rfl) : OpR X (compareOp .NotIn) (L2' B (dIn true)) := by
  refine OpR_imp (OpR.or op_notIn_str op_notIn_seq) ?_
  rintro v u H Q ⟨π, S, d, e, Qd, R, r1, r2, q, k⟩
  unfold dIn at q
  split at q
  · obtain rfl := r1.str_inv
    obtain rfl := r2.str_inv
    exact .inl ⟨_, _, rfl, rfl, k.here R (.bl _) q⟩
  · obtain ⟨ds, h, f1, f2, q⟩ := q
    obtain ⟨a, xs, rfl, hs, l⟩ := seq_rep R r2 h
    rw [hK] at hs
    refine .inr ⟨a, xs, rfl, hs.imp id TpL.sq, flat_rep r1 f1, flatL_rep l f2, ?_⟩
    have e := inD_rep r1 f1 l f2
    simp only [if_true] at q ⊢
    rw [e]
    exact k.here R (.bl _) q
end
def dIx : RD2 := fun x y S Q => match x, y with
  | .str z, .int i => ∃ c, z.length ≤ sizeLine ∧ atI z.cps.toList i = some c ∧ Q (.str ⟨#[c]⟩) S
  | x, .int i => ∃ ds d, seqOf S x = some ds ∧ atI ds i = some d ∧ Q d S
  | _, _ => False
theorem atI_rep {G : Cf} {π : List Addr} {H : Hp} {ds : List Dv} {vs : List V} (l : RepL G π H ds vs) {i : Int} {d : Dv} (h : atI ds i = some d) : ∃ v, atI vs i = some v ∧ Rep G π H d v := by
  unfold atI at h ⊢
  rw [← l.length]
  cases e : ixN ds.length i with
  | none => rw [e] at h; cases h
  | some j =>
    rw [e] at h
    exact l.get h
section
variable {X : Cx} {B : Bs} {a b : Expr} {ta tb : TEd} {pos : Pos}
theorem oIx (hK : B.G.K = X.K := by rfl) : IxR X (L2' B dIx) := by
  intro value slice pins s σ H x y v u Q I rx ry q hs
  refine ix_seq value slice pins s σ H x y v u Q I rx ry ?_ hs
  obtain ⟨π, S, d, e, Qd, R, r1, r2, q, k⟩ := q
  unfold dIx at q
  split at q
  · obtain rfl := r1.str_inv
    obtain rfl := r2.int_inv
    obtain ⟨c, hz, h, q⟩ := q
    exact .inr (.inr ⟨_, _, c, rfl, rfl, hz, h, k.here R (.str _) q⟩)
  · obtain rfl := r2.int_inv
    obtain ⟨ds, d, h, h2, q⟩ := q
    obtain ⟨a, xs, rfl, hs, l⟩ := seq_rep R r1 h
    obtain ⟨w, h3, rw'⟩ := atI_rep l h2
    rw [hK] at hs
    rcases hs with hs | hs
    · exact .inl ⟨a, xs, _, w, rfl, rfl, hs, h3, k.here R rw' q⟩
    · exact .inr (.inl ⟨a, xs, _, w, rfl, rfl, hs.sq, h3, k.here R rw' q⟩)
  · exact q.elim
theorem pIx {r : RD2} (hr : IxR X (L2' B r)) (ha : PE X a (LE B ta)) (hb : PE X b (LE B tb)) (hs : PlainIx b := by first | exact fun _ _ => rfl | intro _ _; rfl) : PE X (.Subscript a b pos) (LE B (eOp r ta tb)) := PE_imp (pe_ix hr ha hb hs) (LE_op ta tb)
end
abbrev TOd := Sl → Store → (Option Int → Store → Prop) → Prop
def LO (B : Bs) (td : TOd) : TO := fun σ H Q => ∃ π S σd Qd, Rs B π H S σd σ ∧ td σd S Qd ∧ ∀ π' H' S' o, Ext B.G π H π' H' → RepS B.G π' H' S' → Qd o S' → Q o H'
def oNo : TOd := fun _ S Q => Q none S
def oSome (t : TEd) : TOd := fun σ S Q => t σ S fun x S1 => ∃ i, x = .int i ∧ Q (some i) S1
def cutD {α : Type} (xs : List α) (lo hi : Option Int) : List α := (xs.drop (HT.sIx xs.length 0 lo)).take (HT.sIx xs.length xs.length hi - HT.sIx xs.length 0 lo)
abbrev RSl := Dv → Option Int → Option Int → Store → KD → Prop
def dSlice : RSl := fun x lo hi S Q => match x with
  | .str z => z.length ≤ sizeLine ∧ Q (.str (cutS z lo hi)) S
  | .tup ds => Q (.tup (cutD ds lo hi)) S
  | .fls ds => Q (.obj S.length) (S ++ [.lst (cutD ds lo hi)])
  | .obj i => ∃ ds, getL S i = some ds ∧ Q (.obj S.length) (S ++ [.lst (cutD ds lo hi)])
  | _ => False
def LSl (B : Bs) (r : RSl) : V → Option Int → Option Int → Hp → VK → Prop := fun v lo hi H Q => ∃ π S d Qd, RepS B.G π H S ∧ Rep B.G π H d v ∧ r d lo hi S Qd ∧ KV' B π H Qd Q
def eSl (r : RSl) (t : TEd) (tl th : TOd) : TEd := fun σ S Q => t σ S fun x S1 => tl σ S1 fun l S2 => th σ S2 fun u S3 => r x l u S3 Q
theorem SlR_imp {X : Cx} {r r' : V → Option Int → Option Int → Hp → VK → Prop} (h : SlR X r) (k : ∀ x lo hi H Q, r' x lo hi H Q → r x lo hi H Q) : SlR X r' := fun pins s σ H x v vl vu lo hi sl Q I rx hs pl pu q => h pins s σ H x v vl vu lo hi sl Q I rx hs pl pu (k _ _ _ _ _ q)
theorem cut_rep {G : Cf} {π : List Addr} {H : Hp} {ds : List Dv} {vs : List V} (l : RepL G π H ds vs) (lo hi : Option Int) : RepL G π H (cutD ds lo hi) (cutV vs lo hi) := by
  unfold cutD cutV
  rw [← l.length]
  exact (l.drop _).take _
theorem cutD_whole {α : Type} {xs : List α} {lo hi : Option Int} (h : HT.sIx xs.length 0 lo = 0 ∧ HT.sIx xs.length xs.length hi = xs.length) : cutD xs lo hi = xs := by
  unfold cutD
  rw [h.1, h.2, List.drop_zero, Nat.sub_zero, List.take_length]
section
variable {X : Cx} {B : Bs} {e : Expr} {te : TEd} {lo hi : Option Expr} {tl th : TOd} {pos p2 : Pos}
theorem poNo : PO X none (LO B oNo) := ⟨fun pins s σ H Q I h => (po_none (X := X)).run pins s σ H Q I (by
  obtain ⟨π, S, σd, Qd, R, q, k⟩ := h
  exact k π H S none (Ext.refl _ _ _) R.sto q)⟩
theorem poSome (h : PE X e (LE B te)) : PO X (some e) (LO B (oSome te)) := ⟨fun pins s σ H Q I q => (po_some h).run pins s σ H Q I (by
  obtain ⟨π, S, σd, Qd, R, q, k⟩ := q
  refine ⟨π, S, σd, _, R, q, fun π1 H1 S1 x v e1 R1 rx q => ?_⟩
  obtain ⟨i, rfl, q⟩ := q
  obtain rfl := rx.int_inv
  exact ⟨i, rfl, k π1 H1 S1 _ e1 R1 q⟩)⟩
theorem oSlice (hK : B.G.K = X.K := by rfl) : SlR X (LSl B dSlice) := by
  refine SlR_imp (SlR.or sl_str (SlR.or (sl_tupA (X := X)) sl_list)) ?_
  rintro v lo hi H Q ⟨π, S, d, Qd, R, r1, q, k⟩
  unfold dSlice at q
  split at q
  · obtain rfl := r1.str_inv
    exact .inl ⟨_, rfl, q.1, k.here R (.str _) q.2⟩
  · obtain ⟨a, xs, rfl, hs, l⟩ := r1.tup_inv
    refine .inr (.inl ⟨a, xs, rfl, by rw [← hK]; exact hs.sq, fun z => ?_, fun z p hp => k.tup R (cut_rep l lo hi) q hp⟩)
    rw [← l.length] at z
    rw [cutD_whole z] at q
    exact k.here R (.tup hs l) q
  · obtain ⟨a, xs, rfl, hs, l⟩ := r1.fls_inv
    exact .inr (.inr ⟨a, xs, rfl, by rw [← hK]; exact hs.sq, fun p hp => k.lst R (cut_rep l lo hi) q hp⟩)
  · obtain ⟨ds, g, q⟩ := q
    obtain ⟨a, rfl, i1, zs, h1, l⟩ := R.here (getL_iff.mp g) r1
    exact .inr (.inr ⟨a, zs, rfl, SqL.of h1, fun p hp => k.lst R (cut_rep l lo hi) q hp⟩)
  · exact q.elim
theorem pSl {r : RSl} (hr : SlR X (LSl B r)) (he : PE X e (LE B te)) (hl : PO X lo (LO B tl)) (hu : PO X hi (LO B th)) : PE X (.Subscript e (.Slice lo hi none p2) pos) (LE B (eSl r te tl th)) := PE_imp (pe_slice hr he hl hu) (by
  rintro σ H Q ⟨π, S, σd, Qd, R, h, k⟩
  refine ⟨π, S, σd, _, R, h, fun π1 H1 S1 x v e1 R1 rx q => ?_⟩
  refine ⟨π1, S1, σd, _, R.to e1 R1, q, fun π2 H2 S2 l e2 R2 q => ?_⟩
  refine ⟨π2, S2, σd, _, R.to (e1.trans e2) R2, q, fun π3 H3 S3 u e3 R3 q => ?_⟩
  exact ⟨π3, S3, x, Qd, R3, rx.mono (e2.trans e3), q, k.to (e1.trans (e2.trans e3))⟩)
end
def dLen : RDs := fun xs S Q => match xs with
  | [.str z] => z.length ≤ sizeLine ∧ Q (.int z.length) S
  | [.byt z] => z.size ≤ sizeLine ∧ Q (.int z.size) S
  | [x] => ∃ ds, seqOf S x = some ds ∧ Q (.int ds.length) S
  | _ => False
def b2i' (k : Bool) : Int := if k then 1 else 0
def dInt : RDs := fun xs S Q => match xs with
  | [.int i] => Q (.int i) S
  | [.bl k] => Q (.int (b2i' k)) S
  | [.str a] => ∃ n, PySem.intText? a = some n ∧ a.length ≤ 640 ∧ Q (.int n) S
  | _ => False
def dAbs : RDs := fun xs S Q => match xs with
  | [.int i] => Q (.int (if i < 0 then -i else i)) S
  | _ => False
def dMax : RDs := fun xs S Q => match xs with
  | [.int i, .int j] => Q (.int (if j > i then j else i)) S
  | _ => False
def dMin : RDs := fun xs S Q => match xs with
  | [.int i, .int j] => Q (.int (if j < i then j else i)) S
  | _ => False
def dList : RDs := fun xs S Q => match xs with
  | [x] => ∃ ds, seqOf S x = some ds ∧ Q (.obj S.length) (S ++ [.lst ds])
  | _ => False
def dTuple : RDs := fun xs S Q => match xs with
  | [x] => ∃ ds, seqOf S x = some ds ∧ Q (.tup ds) S
  | _ => False
def intsOf : List Dv → Option (List Int)
  | [] => some []
  | .int i :: r => (intsOf r).map (i :: ·)
  | _ :: _ => none
def blsOf : List Dv → Option (List Bool)
  | [] => some []
  | .bl i :: r => (blsOf r).map (i :: ·)
  | _ :: _ => none
def dSum : RDs := fun xs S Q => match xs with
  | [.obj i] => ∃ ds ns, getL S i = some ds ∧ intsOf ds = some ns ∧ Q (.int ns.sum) S
  | _ => False
def dAll : RDs := fun xs S Q => match xs with
  | [.obj i] => ∃ ds bs, getL S i = some ds ∧ blsOf ds = some bs ∧ Q (.bl (bs.all id)) S
  | _ => False
def dAny : RDs := fun xs S Q => match xs with
  | [.obj i] => ∃ ds bs, getL S i = some ds ∧ blsOf ds = some bs ∧ Q (.bl (bs.any id)) S
  | _ => False
/-- sorted(ints) -/
def dSortedI : RDs := fun xs S Q => match xs with
  | [x] => ∃ ds ns, seqOf S x = some ds ∧ intsOf ds = some ns ∧ (∃ i, x = .obj i) ∧ ∀ ns' : List Int, ns'.Perm ns → ns'.Pairwise (· ≤ ·) → Q (.obj S.length) (S ++ [.lst (ns'.map .int)])
  | _ => False
def dOrd : RDs := fun xs S Q => match xs with
  | [.str x] => x.length = 1 ∧ Q (.int (x.cps.getD 0 0 : Nat)) S
  | _ => False
def dStrI : RDs := fun xs S Q => match xs with
  | [.int i] => i.natAbs.log2 < 1920 ∧ Q (.str (toString i)) S
  | _ => False
section
variable {G : Cf} {π : List Addr} {H : Hp}
theorem ints_rep : ∀ {ds : List Dv} {vs : List V} {ns : List Int}, RepL G π H ds vs → intsOf ds = some ns → vs = ns.map V.int
  | _, _, _, .nil, e => by cases e; rfl
  | _, _, _, .cons h t, e => by
    cases h <;> first | (cases e; done) | skip
    rename_i i
    have e' : (intsOf _).map (i :: ·) = some _ := e
    rw [Option.map_eq_some_iff] at e'
    obtain ⟨ms, e1, rfl⟩ := e'
    rw [ints_rep t e1]
    rfl
theorem bls_rep : ∀ {ds : List Dv} {vs : List V} {ns : List Bool}, RepL G π H ds vs → blsOf ds = some ns → vs = ns.map V.bl
  | _, _, _, .nil, e => by cases e; rfl
  | _, _, _, .cons h t, e => by
    cases h <;> first | (cases e; done) | skip
    rename_i i
    have e' : (blsOf _).map (i :: ·) = some _ := e
    rw [Option.map_eq_some_iff] at e'
    obtain ⟨ms, e1, rfl⟩ := e'
    rw [bls_rep t e1]
    rfl
end
theorem intsOf_map : ∀ ns : List Int, intsOf (ns.map Dv.int) = some ns
  | [] => rfl
  | n :: r => by show (intsOf (r.map Dv.int)).map (n :: ·) = _; rw [intsOf_map r]; rfl
section
variable {X : Cx} {B : Bs}
theorem kLen (hK : B.G.K = X.K := by rfl) : CallR X (.builtin "len") (LC B dLen) := by
  refine CallR_imp call_len ?_
  rintro vs H Q ⟨π, S, ds, Qd, R, r, q, k⟩
  unfold dLen at q
  split at q
  · obtain ⟨v, rfl, r1⟩ := r.one_inv
    obtain rfl := r1.str_inv
    exact ⟨_, _, rfl, ⟨q.1, rfl⟩, k.here R (.int _) q.2⟩
  · obtain ⟨v, rfl, r1⟩ := r.one_inv
    obtain rfl := r1.byt_inv
    exact ⟨_, _, rfl, ⟨q.1, rfl⟩, k.here R (.int _) q.2⟩
  · obtain ⟨v, rfl, r1⟩ := r.one_inv
    obtain ⟨ds, h, q⟩ := q
    obtain ⟨a, xs, rfl, hs, l⟩ := seq_rep R r1 h
    rw [hK] at hs
    refine ⟨_, xs.length, rfl, ?_, by rw [← l.length]; exact k.here R (.int _) q⟩
    rcases hs with hs | hs
    · exact .inl ⟨xs, hs, rfl⟩
    · exact .inr ⟨xs, hs.sq, rfl⟩
  · exact q.elim
theorem kInt : CallR X (.type "int") (LC B dInt) := by
  refine CallR_imp (CallR.or call_int1 call_int_str) ?_
  rintro vs H Q ⟨π, S, ds, Qd, R, r, q, k⟩
  unfold dInt at q
  split at q
  · obtain ⟨v, rfl, r1⟩ := r.one_inv
    obtain rfl := r1.int_inv
    exact .inl (.inl ⟨_, rfl, k.here R (.int _) q⟩)
  · obtain ⟨v, rfl, r1⟩ := r.one_inv
    obtain rfl := r1.bl_inv
    exact .inl (.inr ⟨_, rfl, k.here R (.int _) q⟩)
  · obtain ⟨v, rfl, r1⟩ := r.one_inv
    obtain rfl := r1.str_inv
    obtain ⟨n, h1, h2, q⟩ := q
    exact .inr ⟨_, n, rfl, h1, h2, k.here R (.int _) q⟩
  · exact q.elim
theorem kMax (hc : X.calm = true) : CallR X (.builtin "max") (LC B dMax) := by
  refine CallR_imp (call_max2 hc) ?_
  rintro vs H Q ⟨π, S, ds, Qd, R, r, q, k⟩
  unfold dMax at q
  split at q
  · obtain ⟨v, u, rfl, r1, r2⟩ := r.two_inv
    obtain rfl := r1.int_inv
    obtain rfl := r2.int_inv
    exact ⟨_, _, rfl, k.here R (.int _) q⟩
  · exact q.elim
theorem kList (hK : B.G.K = X.K := by rfl) : CallR X (.type "list") (LC B dList) := by
  refine CallR_imp call_list_of ?_
  rintro vs H Q ⟨π, S, ds, Qd, R, r, q, k⟩
  unfold dList at q
  split at q
  · obtain ⟨v, rfl, r1⟩ := r.one_inv
    obtain ⟨ds, h, q⟩ := q
    obtain ⟨a, xs, rfl, hs, l⟩ := seq_rep R r1 h
    rw [hK] at hs
    exact ⟨a, xs, rfl, hs.imp id TpL.sq, fun p hp => k.lst R l q hp⟩
  · exact q.elim
theorem kTuple (hK : B.G.K = X.K := by rfl) : CallR X (.type "tuple") (LC B dTuple) := by
  refine CallR_imp call_tuple_of ?_
  rintro vs H Q ⟨π, S, ds, Qd, R, r, q, k⟩
  unfold dTuple at q
  split at q
  · obtain ⟨v, rfl, r1⟩ := r.one_inv
    obtain ⟨ds, h, q⟩ := q
    obtain ⟨a, xs, rfl, hs, l⟩ := seq_rep R r1 h
    rcases hs with hs | hs
    · rw [hK] at hs
      exact ⟨a, xs, rfl, .inl ⟨hs, fun p hp => k.tup R l q hp⟩⟩
    · have rt : Rep B.G π H (.tup ds) (.ref a) := .tup hs l
      rw [hK] at hs
      exact ⟨a, xs, rfl, .inr ⟨hs.sq, k.here R rt q⟩⟩
  · exact q.elim
theorem kAll (hc : X.calm = true) : CallR X (.builtin "all") (LC B dAll) := by
  refine CallR_imp (cr_all hc) ?_
  rintro vs H Q ⟨π, S, ds, Qd, R, r, q, k⟩
  unfold dAll at q
  split at q
  · obtain ⟨v, rfl, r1⟩ := r.one_inv
    obtain ⟨ds, ns, g, e, q⟩ := q
    obtain ⟨a, rfl, i1, zs, h1, l⟩ := R.here (getL_iff.mp g) r1
    rw [bls_rep l e] at h1
    exact ⟨a, ns, rfl, SqL.of h1, k.here R (.bl _) q⟩
  · exact q.elim
variable {e : Expr} {es : List Expr} {t : TAd} {x : Str} {p pos : Pos} {r : RDs} {id T : String}
theorem LE_args (t : TAd) : ∀ σ H Q, LE B (eArgs r t) σ H Q → tCB (LC B r) (LA B t) σ H Q := by
  rintro σ H Q ⟨π, S, σd, Qd, R, h, k⟩
  exact ⟨π, S, σd, _, R, h, fun π1 H1 S1 ys us e1 R1 ry q => ⟨π1, S1, ys, Qd, R1, ry, q, k.to e1⟩⟩
theorem pB (hc : CallR X (.builtin id) (LC B r)) (hg : Gl X x) (hm : X.mg x = none) (hv : bootBuiltins x = some (.builtin id)) (ha : PA X (e :: es) (LA B t)) (hn : x ≠ "__name__" := by decide) (hdb : (x == ("__debug__" : Str)) = false := by decide)
    (he : starEach (e :: es) X.env = (false, eval e X.env) :: starEach es X.env := by rfl) (hpl : (backTo pos (starEach es X.env)).any (·.1) = false := by rfl) : PE X (.Call (.Name x p) (e :: es) [] pos) (LE B (eArgs r t)) := PE_imp (pe_callB hc hg hm hv ha hn hdb he hpl) (LE_args t)
theorem pBT (hc : CallR X (.type T) (LC B r)) (hg : Gl X x) (hm : X.mg x = none) (hv : bootBuiltins x = some (.type T)) (ha : PA X (e :: es) (LA B t)) (hn : x ≠ "__name__" := by decide) (hdb : (x == ("__debug__" : Str)) = false := by decide)
    (he : starEach (e :: es) X.env = (false, eval e X.env) :: starEach es X.env := by rfl) (hpl : (backTo pos (starEach es X.env)).any (·.1) = false := by rfl) : PE X (.Call (.Name x p) (e :: es) [] pos) (LE B (eArgs r t)) := PE_imp (pe_callTy hc hg hm hv ha hn hdb he hpl) (LE_args t)
end
def tyOf (S : Store) : Dv → Option String
  | .non => some "NoneType"
  | .bl _ => some "bool"
  | .int _ => some "int"
  | .str _ => some "str"
  | .byt _ => some "bytes"
  | .tup _ => some "tuple"
  | .fls _ => some "list"
  | .obj i => match S[i]? with
    | some (.lst _) => some "list"
    | some (.dk _) => some "dict"
    | some (.ldk _) => some "dict"
    | _ => none
  | .ty _ => none
  | .adr _ => none
def isB (a b : String) : Bool := a == b || (a == "bool" && b == "int")
def isTy (c : String) : Bool := c == "str" || c == "int" || c == "bool" || c == "tuple" || c == "list" || c == "dict"
def dIsi : RDs := fun xs S Q => match xs with
  | [x, .ty c] => ∃ t, tyOf S x = some t ∧ isTy c = true ∧ Q (.bl (isB t c)) S
  | [x, .tup [.ty c, .ty c']] => ∃ t, tyOf S x = some t ∧ isTy c = true ∧ isTy c' = true ∧ Q (.bl (isB t c || isB t c')) S
  | _ => False
theorem kit_all : ∀ t ∈ ["NoneType", "bool", "int", "str", "bytes", "tuple", "list", "dict"], ∀ c ∈ ["str", "int", "bool", "tuple", "list", "dict"], kitB t c = some (isB t c) := by decide +kernel
theorem tyOf_mem {S : Store} {d : Dv} {t : String} (h : tyOf S d = some t) : t ∈ ["NoneType", "bool", "int", "str", "bytes", "tuple", "list", "dict"] := by
  unfold tyOf at h
  split at h
  all_goals first | (cases h; decide) | skip
  split at h
  all_goals first | (cases h; decide) | cases h
theorem isTy_mem {c : String} (h : isTy c = true) : c ∈ ["str", "int", "bool", "tuple", "list", "dict"] := by
  unfold isTy at h
  simp only [Bool.or_eq_true, beq_iff_eq] at h
  rcases h with ((((rfl | rfl) | rfl) | rfl) | rfl) | rfl <;> decide
theorem kit_isB {K : PySem.W.Frag} {S : Store} {d : Dv} {t c : String} (h : tyOf S d = some t) (hc : isTy c = true) : PySem.W.kitOne K (.type t) (.type c) = some (isB t c) := kit_ty (kit_all t (tyOf_mem h) c (isTy_mem hc))
theorem tyX_rep {G : Cf} {π : List Addr} {H : Hp} {S : Store} (R : RepS G π H S) {d : Dv} {v : V} {t : String} (r : Rep G π H d v) (h : tyOf S d = some t) : TyX G.K H v (.type t) := by
  cases r
  · cases h; exact .base .non
  · cases h; exact .base (.bl _)
  · cases h; exact .base (.int _)
  · cases h; exact .base (.str _)
  · cases h; exact .byt _
  · cases h
  · cases h
  · rename_i i a hi
    unfold tyOf at h
    simp only at h
    split at h
    · rename_i ds g
      cases h
      obtain ⟨xs, h1, _⟩ := R.at_ _ _ _ g hi
      exact .base (.lst h1)
    · rename_i ds g
      cases h
      obtain ⟨xs, h1, _⟩ := R.at_ _ _ _ g hi
      exact .base (.dK h1)
    · rename_i ds g
      cases h
      obtain ⟨xs, ⟨_, h1⟩, _⟩ := R.at_ _ _ _ g hi
      exact .fDict h1
    · cases h
  · rename_i h1 _
    cases h
    rcases h1 with h1 | ⟨o, its, n, h1, h2, _⟩
    · exact .base (.tup h1)
    · exact .kTuple h1 h2
  · rename_i h1 _
    cases h
    rcases h1 with ⟨o, h1⟩ | ⟨o, its, n, h1, h2, _⟩
    · exact .base (.frz h1)
    · exact .kList h1 h2
section
variable {X : Cx} {B : Bs}
theorem kIsi (hK : B.G.K = X.K := by rfl) : CallR X (.builtin "isinstance") (LC B dIsi) := by
  refine CallR_imp (CallR.or call_isi (CallR.or call_isiT call_isiK)) ?_
  rintro vs H Q ⟨π, S, ds, Qd, R, r, q, k⟩
  unfold dIsi at q
  split at q
  · obtain ⟨v, u, rfl, r1, r2⟩ := r.two_inv
    obtain rfl := r2.ty_inv
    obtain ⟨t, h, hc, q⟩ := q
    have ty := tyX_rep R r1 h
    rw [hK] at ty
    exact .inl ⟨v, _, .type t, _, _, rfl, .ty _, ty, kit_isB h hc, k.here R (.bl _) q⟩
  · obtain ⟨v, u, rfl, r1, r2⟩ := r.two_inv
    obtain ⟨t, h, hc, hc', q⟩ := q
    have ty := tyX_rep R r1 h
    rw [hK] at ty
    obtain ⟨tp, xs, rfl, hs, l⟩ := r2.tup_inv
    obtain ⟨v1, v2, rfl, l1, l2⟩ := l.two_inv
    obtain rfl := l1.ty_inv
    obtain rfl := l2.ty_inv
    rename_i x c c'
    have ka : PySem.W.kitAny X.K (.type t) [.type c, .type c'] = some (isB t c || isB t c') := by
      refine kitAny_cons (kit_isB h hc) (fun e => ?_) (fun e => by rw [e]; rfl)
      refine kitAny_cons (kit_isB h hc') (fun e' => ?_) (fun e' => by rw [e']; exact Bool.or_true _)
      rw [kitAny_nil, e, e']; rfl
    rcases hs with hs | ⟨o, its, n, h1, h2, h3, h4, h5⟩
    · exact .inr (.inl ⟨v, tp, _, .type t, _, _, rfl, hs, .cons (.ty _) (.cons (.ty _) .nil), ty, ka, k.here R (.bl _) q⟩)
    · obtain ⟨u1, u2, e5, q1, q2⟩ := vals2 h5
      have q1' : u1 = .type c := q1
      have q2' : u2 = .type c' := q2
      obtain ⟨cl, dd, da, sl⟩ := o
      simp only at h2 h3
      subst h2
      subst h3
      refine .inr (.inr ⟨v, tp, dd, [.type c, .type c'], n, sl, .type t, _, rfl, ?_, ty, ka, k.here R (.bl _) q⟩)
      rw [hK] at h1
      rw [h1, ← Array.toArray_toList (xs := its), e5, q1', q2']
  · exact q.elim
end
end D3
set_option Elab.async false
set_option linter.all false
set_option maxRecDepth 100000
set_option maxHeartbeats 2000000
namespace D3
open PySem PySem.Spec PyProof.Rows L2
/-- a list (true) or a tuple (false) that is read -/
def SqK (K : PySem.W.Frag) (k : Bool) (H : Hp) (a : Addr) (xs : List V) : Prop := if k = true then SqL K H a xs else SqT K H a xs
def tnI (k : Bool) (it a : Addr) (i : Nat) (h : Heap) : Prop := if k = true then h.IsListIter it a i else h.IsTupleIter it a i
def isK (k : Bool) (h : Heap) (a : Addr) (its : Array Value) : Prop := if k = true then h.IsList a its else h.IsTuple a its
def itO (k : Bool) (a : Addr) : Obj := if k = true then { cls := .type "list_iterator", data := .fields #[.ref a, .int 0 0] } else { cls := .type "tuple_iterator", data := .fields #[.ref a, .int 0 0] }
theorem beginsK (k : Bool) (a : Addr) (its : Array Value) : Begins (.ref a) (itO k a) fun h => isK k h a its := by
  cases k
  · exact begins_tuple a its
  · exact begins_list a its
theorem drawsK {prog : Program} {w : World} {A : Around} (hh : A.handled = none) (k : Bool) (it a : Addr) (hne : a ≠ it) (its : Array Value) :
    Draws prog w A it [it, a] its.size (fun i v => its[i]? = some v) (fun i h => tnI k it a i h ∧ isK k h a its) := by
  cases k
  · exact Draws.tuple hh it a hne its
  · exact Draws.list hh it a hne its
theorem tnI.there {k : Bool} {it a : Addr} {i : Nat} {h : Heap} (x : tnI k it a i h) : ∃ o, h.get? it = some o ∧ ∀ v, o.data ≠ .cell v := by
  cases k
  · obtain ⟨o, e, _, d⟩ := x; exact ⟨o, e, fun v q => by rw [d] at q; cases q⟩
  · obtain ⟨o, e, _, d⟩ := x; exact ⟨o, e, fun v q => by rw [d] at q; cases q⟩
theorem tnI.keep {k : Bool} {it a : Addr} {i : Nat} {h h' : Heap} (x : tnI k it a i h) (q : ∀ o, h.get? it = some o → h'.get? it = some o) : tnI k it a i h' := by
  cases k
  · exact Heap.IsTupleIter.at x fun o e => q o e
  · exact Heap.IsListIter.at x fun o e => q o e
theorem tnI.zero {k : Bool} {it a : Addr} {h : Heap} (e : h.get? it = some (itO k a)) : tnI k it a 0 h := by
  cases k
  · exact ⟨_, e, rfl, rfl⟩
  · exact ⟨_, e, rfl, rfl⟩
section
variable {X : Cx} {pins : List (Addr × Obj)} {σ : L2.St} {H : Hp} {s : Shared} {k : Bool} {a : Addr} {xs ys : List V}
theorem seqK (I : Inv X pins σ H s) (h : SqK X.K k H a xs) : ∃ its : List Value, Vals xs its ∧ isK k s.heap a its.toArray ∧ a < s.heap.objs.size := by
  cases k
  · obtain ⟨its, rv, p, _⟩ := I.tuple h
    obtain ⟨o, e, _⟩ := id p
    exact ⟨its, rv, p, Heap.lt_size e⟩
  · obtain ⟨its, rv, p, _⟩ := I.list h
    exact ⟨its, rv, p.isList, p.lt⟩
theorem seqK_inj (I : Inv X pins σ H s) (h : SqK X.K k H a xs) (h' : SqK X.K k H a ys) : xs = ys := by
  cases k
  · exact I.tuple_inj h h'
  · exact I.list_inj h h'
end
/-- one turn of something that goes by GoesN: its value a new tuple -/
theorem turnN {P : Program} {w : World} {K : PySem.W.Frag} {tg : Expr} (it : Addr) (fp : List Addr) (J : It) (tn : Nat → Heap → Prop) (mem : it ∈ fp)
    (obj : ∀ i h, tn i h → ∀ b ∈ fp, ∃ o, h.get? b = some o ∧ ∀ v, o.data ≠ .cell v)
    (keep : ∀ i h h', tn i h → (∀ b ∈ fp, ∀ o, h.get? b = some o → h'.get? b = some o) → tn i h')
    (self : ∀ (A : Around) (i : Nat) (s : Shared) (Q : Value → Shared → Prop) (E : Value → Shared → Prop), tn i s.heap → Q (.ref it) s → wpAny (model P w) A (pyIter (.ref it)) Q E s)
    (go : ∀ (X : Cx), X.prog = P → X.w = w → X.K = K → X.calm = true → ∀ (i : Nat) (pins : List (Addr × Obj)) (s : Shared) (σ : L2.St) (H : Hp), Inv X pins σ H s → (∀ b ∈ fp, FpOk X pins H b) → tn i s.heap → (J.go i H ∨ J.stop i H) →
      ∃ (fp' wr : List Addr) (n : Nat) (Y : Nat → Heap → Value → Heap → Prop) (St : Nat → Heap → Prop), GoesN P w X.A tg it fp' wr n Y St ∧ St i s.heap ∧ (∀ b ∈ wr, b ∈ fp) ∧ (J.go i H → i < n) ∧ (J.stop i H → i = n) ∧ (∀ h', St (i + 1) h' → tn (i + 1) h') ∧
        ∀ v h', Y i s.heap v h' → ∃ T xs us, v = .ref T ∧ s.heap.objs.size ≤ T ∧ h'.IsTuple T (us : List Value).toArray ∧ Vals xs us ∧ xs.length ≤ sizeLine ∧ (H T = none → J.yld i H (.ref T) (upd H T (.tup xs)))) :
    Turn P w K tg J fp it tn where
  mem := mem
  obj := obj
  keep := keep
  item := by
    intro X hP hw hK hc i pins s σ H E I hf st hg
    obtain ⟨fp', wr, n, Y, St, W, hst, sub, hi, _, ht, hy⟩ := go X hP hw hK hc i pins s σ H I hf st (.inl hg)
    refine thn (W.goes i s (fun v s₂ => ∃ x H', Inv X pins σ H' s₂ ∧ RelV x v ∧ J.yld i H x H' ∧ tn (i + 1) s₂.heap ∧ ∀ b ∈ fp, H' b = none) E (hi hg) hst fun v h' tk q st' kp _ => ?_) fun r s1 ⟨v, e, q⟩ => ⟨v, e, q⟩
    obtain ⟨T, xs, us, rfl, hT, it', rv, hz, yl⟩ := hy v h' q
    have hn : H T = none := I.hok.fresh hT
    have new : ObjOk X.prog X.w (upd H T (.tup xs)) h' T (.tup xs) := ⟨hz, us, rv, it'⟩
    refine ⟨.ref T, _, I.turnedNew (ch := wr) kp (fun b hb => hf b (sub b hb)) hT new, rfl, yl hn, ht h' st', fun b hb => ?_⟩
    obtain ⟨o, e, _⟩ := obj i s.heap st b hb
    rw [upd_ne (Nat.ne_of_lt (Nat.lt_of_lt_of_le (Heap.lt_size e) hT))]
    exact (hf b hb).1
  done := by
    intro X hP hw hK hc i pins s σ H E I hf st hs
    obtain ⟨fp', wr, n, Y, St, W, hst, sub, _, hi, _, _⟩ := go X hP hw hK hc i pins s σ H I hf st (.inr hs)
    have e := hi hs
    subst e
    refine W.stops s (fun s₁ => Inv X pins σ H s₁) E hst fun h' tk kp _ => ?_
    have hfw : ∀ b ∈ wr, FpOk X pins H b := fun b hb => hf b (sub b hb)
    have nit : ∀ b u, H b = some u → b ∉ wr := fun b u e z => by
      have q := (hfw b z).1
      rw [q] at e; cases e
    refine I.step (g' := s.gens) (d' := s.drawn) (ch := wr) (fun b hb => ⟨(hfw b hb).2.2.2.1, (hfw b hb).2.1, (hfw b hb).2.2.2.2.1, (hfw b hb).2.2.2.2.2⟩) (fun b o _ _ hc e _ => kp b o hc e) (fun b o _ _ hc e _ => ⟨o.slots, kp b o hc e⟩)
      (fun b o _ e n => n) (fun b o hc e => ⟨o, kp b o hc e⟩) (fun b xs e => e) (fun b o u e => e) (fun b ps e => ⟨#[], by rw [e]; simp⟩) (fun m hm => ?_) (fun b u e => ?_) I.bare
    · obtain ⟨o, es, ep, ho, r⟩ := hm
      exact ⟨o, es, ep, kp _ o (fun z => (hfw _ z).2.1 rfl) ho, r⟩
    · refine (I.hok b u e).stay (fun c v hc q => kp c v ?_ q) (fun c q => q) fun c xs q => q
      rcases hc with z | z
      · rw [z]; exact nit b u e
      · exact nit c _ z
  self := self
def ItE (K : PySem.W.Frag) (k : Bool) (a : Addr) : It :=
  ⟨fun i H => ∃ (xs : List V) (x : V), SqK K k H a xs ∧ xs[i]? = some x, fun i H v H' => ∃ T x, v = .ref T ∧ H T = none ∧ H' = upd H T (.tup [.int (i : Nat), x]) ∧ ∀ xs, SqK K k H a xs → xs[i]? = some x, fun i H => ∃ xs : List V, SqK K k H a xs ∧ i = xs.length⟩
theorem turnE {P : Program} {w : World} {K : PySem.W.Frag} {elts : List Expr} {kk : Nat} {tpos : Pos} (k : Bool) (a e it : Addr) (hai : a ≠ it) (hae : a ≠ e) (hei : e ≠ it) :
    Turn P w K (.Tuple elts kk tpos) (ItE K k a) [e, it] e (fun i h => (∃ old, IsEnum h e it (0 + (i : Int)) old) ∧ tnI k it a i h) := by
  refine turnN e _ _ _ (by simp) ?_ ?_ ?_ ?_
  · rintro i h ⟨⟨old, he⟩, ti⟩ b hb
    rcases List.mem_cons.mp hb with rfl | hb
    · exact ⟨_, he, fun v q => nomatch q⟩
    · rw [List.mem_singleton.mp hb]; exact ti.there
  · rintro i h h' ⟨⟨old, he⟩, ti⟩ kp
    exact ⟨⟨old, kp e (by simp) _ he⟩, ti.keep fun o q => kp it (by simp) o q⟩
  · rintro A i s Q E ⟨⟨old, he⟩, ti⟩ q
    exact wpAny_pyIter_enum he q
  · intro X hP hw hK hc i pins s σ H I hf st hg
    subst hP hw hK
    obtain ⟨⟨old, he⟩, ti⟩ := st
    obtain ⟨xs, hq⟩ : ∃ xs, SqK X.K k H a xs := by
      rcases hg with ⟨xs, _, h, _⟩ | ⟨xs, h, _⟩ <;> exact ⟨xs, h⟩
    obtain ⟨its, rv, p, _⟩ := seqK I hq
    have D := drawsK (prog := X.prog) (w := X.w) (A := X.A.in1) (I.ok.hd hc) k it a hai its.toArray
    refine ⟨_, _, _, _, _, GoesN.enumFrom 0 D e hei (by simp [hei, hae.symm]) (by simp), ⟨⟨old, he⟩, ti, p⟩, fun b hb => hb, ?_, ?_, fun h' q => ⟨q.1, q.2.1⟩, ?_⟩
    · rintro ⟨ys, x, h, hx⟩
      rw [seqK_inj I h hq] at hx
      have := (List.getElem?_eq_some_iff.mp hx).1
      rw [List.size_toArray, ← rv.length]
      exact this
    · rintro ⟨ys, h, e⟩
      rw [seqK_inj I h hq] at e
      rw [List.size_toArray, ← rv.length]
      exact e
    · rintro v h' ⟨T, t, x, rfl, hT, hx, hp⟩
      have hx' : its[i]? = some x := by simpa using hx
      have hi : i < xs.length := by rw [rv.length]; exact (List.getElem?_eq_some_iff.mp hx').1
      obtain ⟨u, hu, ru⟩ := rv.get (List.getElem?_eq_getElem hi)
      rw [hx'] at hu
      cases hu
      refine ⟨T, [.int (i : Nat), xs[i]], [.int (0 + (i : Int)) t, x], rfl, hT, hp, .cons ⟨t, by rw [Int.zero_add]⟩ (.cons ru .nil), by show 2 ≤ sizeLine; decide, fun hn => ⟨T, xs[i], rfl, hn, rfl, fun ys hy => ?_⟩⟩
      rw [seqK_inj I hy hq]
      exact List.getElem?_eq_getElem hi
end D3
namespace D3
open PySem PySem.Spec PyProof.Rows L2
theorem meets_enumerate_new1 {v : Value} {o : Obj} {H : Heap → Prop} (B : Begins v o H) :
    Meets (Builtin.«enumerate.__new__» ⟨[.type "enumerate", v], []⟩) (fun _ R s => H s.heap ∧
      R (.ok (.ret (.ref (s.heap.push o).objs.size))) { s with heap := (s.heap.push o).push { cls := .type "enumerate", data := .fields #[.none, .bool false, .ref s.heap.objs.size, rawInt 0, .none, .none] } }) :=
  .of_wp fun prog w A R s h => by
    obtain ⟨hp, g, d, tk, os⟩ := s; obtain ⟨h1, h⟩ := h
    have hsub := sub_enumerate
    have q1 : ∀ {A' : Around} {E : Value → Shared → Prop} {Q : Value → Shared → Prop}, Q (.ref hp.objs.size) ⟨hp.push o, g, d, tk, os⟩ → wpAny (model prog w) A' (pyIter v) Q E ⟨hp, g, d, tk, os⟩ :=
      fun q => B.iter prog w _ _ ⟨hp, g, d, tk, os⟩ _ h1 q
    wp_walk using q1
    refine wpAny_stack_any fun st => wpAny_pure ?_
    split
    · rename_i c _ _ _ _ _
      cases (c == Value.type "enumerate")
      · wp_walk using q1
        exact ⟨_, rfl, h⟩
      · wp_walk using q1
        exact ⟨_, rfl, h⟩
    · wp_walk using q1
      exact ⟨_, rfl, h⟩
section
variable {prog : Program} {w : World} {A : Around} {E : Value → Shared → Prop} {s : Shared}
theorem enum_begins1 {v : Value} {o : Obj} {H : Heap → Prop} {Q : Value → Shared → Prop} (B : Begins v o H) (h1 : H s.heap)
    (h : ∀ h', IsEnum h' (s.heap.objs.size + 1) s.heap.objs.size 0 .none → h'.get? s.heap.objs.size = some o → h'.objs.size = s.heap.objs.size + 2 →
      (∀ b o, s.heap.get? b = some o → h'.get? b = some o) → Q (.ref (s.heap.objs.size + 1)) { s with heap := h' }) :
    wpAny (model prog w) A (call (.type "enumerate") [v]) Q E s := by
  refine callType_new F.called_enumerate (by decide) (F.typeCall_enumerate_1 _) (F.newCall_enumerate_1 _) (fun obj => F.args_object_init_2 obj _) F.entry_enumerate_new
    (meets_enumerate_new1 B) ⟨h1, ?_⟩
  have hz : (s.heap.push o).objs.size = s.heap.objs.size + 1 := Heap.size_push ..
  show _ ∧ _
  rw [hz]
  have he : IsEnum ((s.heap.push o).push { cls := .type "enumerate", data := .fields #[.none, .bool false, .ref s.heap.objs.size, rawInt 0, .none, .none] }) (s.heap.objs.size + 1) s.heap.objs.size 0 .none := by
    have := Heap.get?_push_size (s.heap.push o) (o := { cls := .type "enumerate", data := .fields #[.none, .bool false, .ref s.heap.objs.size, rawInt 0, .none, .none] }) rfl
    rw [hz] at this; exact this
  refine ⟨⟨_, he, rfl⟩, h _ he (Heap.get?_push_of_some _ (Heap.get?_push_size _ B.free)) (by rw [Heap.size_push, hz]) fun b o x => Heap.get?_push_of_some _ (Heap.get?_push_of_some _ x)⟩
end
section
variable {X : Cx} {tg : Expr}
def iSqK (K : PySem.W.Frag) (t : TE) : TI := fun σ H R => t σ H fun x H1 => ∃ a k xs, x = .ref a ∧ SqK K k H1 a xs ∧ R (if k = true then Itl K a else Itt K a) H1
theorem pi_sqK {l : Expr} {tl : TE} (hl : PE X l tl) : PI X tg l (iSqK X.K tl) := by
  refine ⟨fun pins s σ H R I h => ?_⟩
  refine thn (hl.run pins s σ H _ I h) fun v s1 ⟨x, H1, I1, r1, q1⟩ => ?_
  obtain ⟨a, k, xs, e, hq, q⟩ := q1
  subst e
  cases r1
  have fr : ∀ b ∈ [s1.heap.objs.size], FpOk X pins H1 b := fun b hb => by
    have e : b = s1.heap.objs.size := by simpa using hb
    subst e
    exact I1.fpOk (Nat.le_refl _) (I1.hok.fresh (Nat.le_refl _))
  cases k
  · obtain ⟨its, rv, p, hz⟩ := I1.tuple hq
    refine wpAny_pyIter_tuple (show s1.heap.IsTuple a its.toArray from p) ?_
    exact ⟨s1.heap.objs.size, [s1.heap.objs.size], _, _, H1, rfl, I1.kept (t' := s1.toks) fun b o e => Heap.get?_push_of_some _ e, turn_tuple a _, ⟨_, Heap.get?_push_size _ rfl, rfl, rfl⟩, fr, q⟩
  · obtain ⟨its, rv, p, hz⟩ := I1.list hq
    refine wpAny_pyIter_list p.isList ?_
    exact ⟨s1.heap.objs.size, [s1.heap.objs.size], _, _, H1, rfl, I1.kept (t' := s1.toks) fun b o e => Heap.get?_push_of_some _ e, turn_list a _, ⟨_, Heap.get?_push_size _ rfl, rfl, rfl⟩, fr, q⟩
def iEnumK (K : PySem.W.Frag) (ta : TA) : TI := fun σ H R => ta σ H fun vs H1 => ∃ a k xs, vs = [.ref a] ∧ SqK K k H1 a xs ∧ R (ItE K k a) H1
theorem pi_enumK {e : Expr} {ta : TA} {p pos tpos : Pos} {elts : List Expr} {kk : Nat} (hg : Gl X "enumerate") (hm : X.mg "enumerate" = none) (ha : PA X [e] ta) (hs : starEach [e] X.env = [(false, eval e X.env)] := by rfl) :
    PI X (.Tuple elts kk tpos) (.Call (.Name "enumerate" p) [e] [] pos) (iEnumK X.K ta) := by
  refine ⟨fun pins s σ H R I h => ?_⟩
  refine Call_ (ld_blt I hg hm boot_enumerate (PyProof.Rows.callWith_type1 (thn (ha.run pos pins s σ H _ I h) fun us s1 ⟨vs, H1, I1, r1, q1⟩ => ?_) hs rfl))
  obtain ⟨a, k, xs, ex, hq, q⟩ := q1
  subst ex
  cases r1 with
  | cons r rr =>
    cases rr
    cases r
    obtain ⟨its, rv, p', hl⟩ := seqK I1 hq
    refine enum_begins1 (beginsK k a its.toArray) p' fun h' he hit hsz hk => wpAny_pyIter_enum he ?_
    have I2 : Inv X pins σ H1 { s1 with heap := h' } := I1.kept (t' := s1.toks) hk
    refine ⟨s1.heap.objs.size + 1, [s1.heap.objs.size + 1, s1.heap.objs.size], _, _, H1, rfl, I2, turnE k a (s1.heap.objs.size + 1) s1.heap.objs.size (Nat.ne_of_lt hl) (Nat.ne_of_lt (Nat.lt_succ_of_lt hl)) (Nat.succ_ne_self _), ⟨⟨.none, he⟩, tnI.zero hit⟩, fun b hb => ?_, q⟩
    have e' : b = s1.heap.objs.size + 1 ∨ b = s1.heap.objs.size := by simpa using hb
    have hle : s1.heap.objs.size ≤ b := by
      rcases e' with z | z
      · rw [z]; exact Nat.le_add_right _ _
      · rw [z]; exact Nat.le_refl _
    exact I1.fpOk hle (I1.hok.fresh hle)
end
end D3
set_option Elab.async false
set_option linter.all false
set_option maxRecDepth 100000
set_option maxHeartbeats 2000000
namespace D3
open PySem PySem.Spec PyProof.Rows L2
def dAppend : Dv → RDs := fun x vs S Q => match x, vs with
  | .obj i, [y] => ∃ xs, getL S i = some xs ∧ xs.length < sizeLine ∧ Q .non (S.set i (.lst (xs ++ [y])))
  | _, _ => False
def dPop : Dv → RDs := fun x vs S Q => match x, vs with
  | .obj i, [] => ∃ xs y, getL S i = some xs ∧ xs[xs.length - 1]? = some y ∧ Q y (S.set i (.lst xs.dropLast))
  | .obj i, [.int k] => ∃ xs j y, getL S i = some xs ∧ -(2 ^ 63) ≤ k ∧ k < 2 ^ 63 ∧ seqIndex? k xs.length = some j ∧ xs[j]? = some y ∧ Q y (S.set i (.lst (xs.eraseIdx j)))
  | _, _ => False
def dExtend : Dv → RDs := fun x vs S Q => match x, vs with
  | .obj i, [.obj j] => ∃ xs ys, getL S i = some xs ∧ getL S j = some ys ∧ xs.length + ys.length ≤ sizeLine ∧ Q .non (S.set i (.lst (xs ++ ys)))
  | _, _ => False
section
variable {X : Cx} {B : Bs}
theorem MtR_imp {id : String} {r r' : V → List V → Hp → VK → Prop} (h : MtR X id r) (k : ∀ x xs H Q, r' x xs H Q → r x xs H Q) : MtR X id r' := fun pins s σ H x xs v us Q I rx rxs q => h pins s σ H x xs v us Q I rx rxs (k _ _ _ _ q)
theorem mAppend : MtR X "list.append" (LM B dAppend) := by
  refine MtR_imp mt_append ?_
  rintro v vs H Q ⟨π, S, d, ds, Qd, R, r, rs, q, k⟩
  unfold dAppend at q
  split at q
  · obtain ⟨xs, g, hz, q⟩ := q
    obtain ⟨a, rfl, i1, zs, h1, l⟩ := R.here (getL_iff.mp g) r
    obtain ⟨u, rfl, ru⟩ := rs.one_inv
    exact ⟨a, zs, u, rfl, rfl, h1, by rw [← l.length]; exact hz, k.wr R i1 h1 (l.append (.one ru)) .non q⟩
  · exact q.elim
theorem mPop : MtR X "list.pop" (LM B dPop) := by
  refine MtR_imp (MtR.or mt_pop mt_popAt) ?_
  rintro v vs H Q ⟨π, S, d, ds, Qd, R, r, rs, q, k⟩
  unfold dPop at q
  split at q
  · obtain ⟨xs, y, g, hy, q⟩ := q
    obtain ⟨a, rfl, i1, zs, h1, l⟩ := R.here (getL_iff.mp g) r
    obtain rfl := rs.nil_inv
    obtain ⟨w, hw, rw'⟩ := l.get hy
    exact .inl ⟨a, zs, w, rfl, rfl, h1, by rw [← l.length]; exact hw, k.wr R i1 h1 l.dropLast rw' q⟩
  · obtain ⟨xs, j, y, g, k1, k2, hj, hy, q⟩ := q
    obtain ⟨a, rfl, i1, zs, h1, l⟩ := R.here (getL_iff.mp g) r
    obtain ⟨u, rfl, ru⟩ := rs.one_inv
    obtain rfl := ru.int_inv
    obtain ⟨w, hw, rw'⟩ := l.get hy
    exact .inr ⟨a, zs, _, j, w, rfl, rfl, h1, k1, k2, by rw [← l.length]; exact hj, hw, k.wr R i1 h1 (l.erase j) rw' q⟩
  · exact q.elim
variable {o e : Expr} {es : List Expr} {to : TEd} {t : TAd} {name : Str} {apos cpos : Pos} {T id : String} {r : Dv → RDs}
/-- the receiver's type, while its object stands -/
def tyD (T : String) (S : Store) : Dv → Prop
  | .str _ => T = "str"
  | .int _ => T = "int"
  | .fls _ => T = "list"
  | .obj i => (T = "list" ∧ ∃ xs, S[i]? = some (.lst xs)) ∨ (T = "dict" ∧ ∃ xs, S[i]? = some (.dk xs))
  | _ => False
theorem tyD_rep {G : Cf} {π : List Addr} {H : Hp} {S : Store} (R : RepS G π H S) {d : Dv} {v : V} (r : Rep G π H d v) (h : tyD T S d) : tyV G.K T v H := by
  cases r <;> first | (cases h; done) | exact h | skip
  · rename_i hi
    rcases h with ⟨rfl, xs, g⟩ | ⟨rfl, xs, g⟩
    · obtain ⟨zs, h1, _⟩ := R.at_ _ _ _ g hi
      exact .inl ⟨rfl, zs, SqL.of h1⟩
    · obtain ⟨zs, h1, _⟩ := R.at_ _ _ _ g hi
      exact .inr (.inr (.inl ⟨rfl, .inl ⟨zs, h1⟩⟩))
  · rename_i h1 _
    exact .inl ⟨h, _, h1.sq⟩
def eBM (T : String) (r : Dv → RDs) (to : TEd) (t : TAd) : TEd := fun σ S Q => to σ S fun x S1 => tyD T S1 x ∧ t σ S1 fun xs S2 => r x xs S2 Q
theorem pBM0 (pa : PlainAttrs T) (slot : Slot T name id) (hty : typeOf (.builtin id) = pure (.type "method_descriptor")) (hm : MtR X id (LM B r)) (ho : PE X o (LE B to)) (hK : B.G.K = X.K := by rfl)
    (hbase : attributeBase o name X.env (eval o X.env) = eval o X.env := by rfl) (hline : (apos.endLine == cpos.line) = true := by rfl) : PE X (.Call (.Attribute o name apos) [] [] cpos) (LE B (eBM T r to aNil)) := PE_imp (pe_bm0 pa slot hty hm ho hbase hline) (by
  rintro σ H Q ⟨π, S, σd, Qd, R, h, k⟩
  refine ⟨π, S, σd, _, R, h, fun π1 H1 S1 x v e1 R1 rx q => ?_⟩
  exact ⟨by rw [← hK]; exact tyD_rep R1 rx q.1, π1, S1, x, [], Qd, R1, rx, .nil, q.2, k.to e1⟩)
theorem pBM (pa : PlainAttrs T) (slot : Slot T name id) (hty : typeOf (.builtin id) = pure (.type "method_descriptor")) (hm : MtR X id (LM B r)) (ho : PE X o (LE B to)) (ha : PA X (e :: es) (LA B t)) (hK : B.G.K = X.K := by rfl)
    (hbase : attributeBase o name X.env (eval o X.env) = eval o X.env := by rfl)
    (hfew : ((backTo cpos (starEach (e :: es) X.env)).all (fun x => !x.1) && (backToKw cpos (keywordEach [] X.env)).all (fun x => x.1.isSome)
      && decide ((e :: es).length + ([] : List Keyword).length + (if ([] : List Keyword).isEmpty then 0 else 1) < 30)) = true := by rfl)
    (hline : (apos.endLine == cpos.line) = true := by rfl) (hs : starEach (e :: es) X.env = (false, eval e X.env) :: starEach es X.env := by rfl) (hplain : (backTo cpos (starEach es X.env)).any (·.1) = false := by rfl) :
    PE X (.Call (.Attribute o name apos) (e :: es) [] cpos) (LE B (eBM T r to t)) := PE_imp (pe_bm pa slot hty hm ho ha hbase hfew hline hs hplain) (by
  rintro σ H Q ⟨π, S, σd, Qd, R, h, k⟩
  refine ⟨π, S, σd, _, R, h, fun π1 H1 S1 x v e1 R1 rx q => ?_⟩
  refine ⟨by rw [← hK]; exact tyD_rep R1 rx q.1, π1, S1, σd, _, R.to e1 R1, q.2, fun π2 H2 S2 ys us e2 R2 ry q2 => ?_⟩
  exact ⟨π2, S2, x, ys, Qd, R2, rx.mono e2, ry, q2, k.to (e1.trans e2)⟩)
end
def gNm (i : Nat) : TGd := fun d σ S Q => Q (σ.set i (some d)) S
def gsNil : TGsd := fun ds σ S Q => ds = [] ∧ Q σ S
def gsCons (g : TGd) (u : TGsd) : TGsd := fun ds σ S Q => ∃ d r, ds = d :: r ∧ g d σ S fun σ' S' => u r σ' S' Q
/-- unpacking a tuple or a list -/
def gUnp (n : Nat) (t : TGsd) : TGd := fun d σ S Q => ∃ ds, seqOf S d = some ds ∧ ds.length = n ∧ t ds σ S Q
abbrev RSet := Dv → Dv → Dv → Store → (Store → Prop) → Prop
def LSet (B : Bs) (r : RSet) : TSet := fun o i v H Q => ∃ π S x y z Qd, RepS B.G π H S ∧ Rep B.G π H x o ∧ Rep B.G π H y i ∧ Rep B.G π H z v ∧ r x y z S Qd ∧ ∀ π' H' S', Ext B.G π H π' H' → RepS B.G π' H' S' → Qd S' → Q H'
def dSetL : RSet := fun x y z S Q => match x, y with
  | .obj i, .int k => ∃ xs j, getL S i = some xs ∧ ixN xs.length k = some j ∧ Q (S.set i (.lst (xs.set j z)))
  | _, _ => False
def gSb (to ti : TEd) (r : RSet) : TGd := fun d σ S Q => to σ S fun o S1 => ti σ S1 fun i S2 => r o i d S2 fun S3 => Q σ S3
section
variable {X : Cx} {B : Bs} {pos : Pos}
theorem PSet_imp {t t' : TSet} (h : PSet X t) (k : ∀ o i v H Q, t' o i v H Q → t o i v H Q) : PSet X t' := fun pins s σ H o i v ov iv u Q I a b c q => h pins s σ H o i v ov iv u Q I a b c (k _ _ _ _ _ q)
theorem stSetL : PSet X (LSet B dSetL) := by
  refine PSet_imp set_list ?_
  rintro o i v H Q ⟨π, S, x, y, z, Qd, R, r1, r2, r3, q, k⟩
  unfold dSetL at q
  split at q
  · obtain ⟨xs, j, g, hj, q⟩ := q
    obtain ⟨a, rfl, i1, zs, h1, l⟩ := R.here (getL_iff.mp g) r1
    obtain rfl := r2.int_inv
    have x := ext_write R (.lst (zs.set j v)) i1 (fun od u e => by rw [h1] at e; cases e)
    exact ⟨a, zs, _, j, rfl, rfl, h1, by rw [← l.length]; exact hj, k _ _ _ x (step_write (m := .lst _) R i1 ⟨_, upd_same, (l.set r3 j).mono x⟩) q⟩
  · exact q.elim
theorem LG_name (i : Nat) : ∀ v σ H Q, LG B (gNm i) v σ H Q → gName i v σ H Q := by
  rintro v σ H Q ⟨π, S, σd, d, Qd, R, r, q, k⟩
  exact k π H S _ _ (Ext.refl _ _ _) R.sto (R.slt.set r i) q
theorem gName' {i : Nat} {x : Str} (hN : X.N.Nodup) (hi : X.N[i]? = some x) (hx : Loc X.env.scope x) (hf : X.fn x = true ∨ X.env.scope.names.lookup x = some .local := by first | exact .inl rfl | exact .inr rfl | assumption) : PG X (.Name x pos) (LG B (gNm i)) := PG_imp (pg_name hN hi hx hf) (LG_name i)
theorem gsNil' : PGs X [] (LGs B gsNil) := PGs_imp pgs_nil (by
  rintro v σ H Q ⟨π, S, σd, ds, Qd, R, r, q, k⟩
  obtain ⟨rfl, q⟩ := q
  exact ⟨r.nil_inv, k π H S _ _ (Ext.refl _ _ _) R.sto R.slt q⟩)
theorem gsCons' {e : Expr} {es : List Expr} {t : TGd} {u : TGsd} (h1 : PG X e (LG B t)) (h2 : PGs X es (LGs B u))
    (hs : (assignEach (e :: es) X.env).map (·.2) = assign e X.env :: (assignEach es X.env).map (·.2) := by rfl) : PGs X (e :: es) (LGs B (gsCons t u)) := PGs_imp (pgs_cons h1 h2 hs) (by
  rintro vs σ H Q ⟨π, S, σd, ds, Qd, R, r, q, k⟩
  obtain ⟨d, es, rfl, q⟩ := q
  cases r with
  | cons r1 r2 =>
    refine ⟨_, _, rfl, π, S, σd, d, _, R, r1, q, fun π1 H1 S1 σ1 σ1' e1 R1 rs q => ?_⟩
    exact ⟨π1, S1, σ1, es, Qd, ⟨R.ext.trans e1, R1, rs⟩, r2.mono e1, q, fun π2 H2 S2 σ2 σ2' e2 R2 rs2 q2 => k π2 H2 S2 σ2 σ2' (e1.trans e2) R2 rs2 q2⟩)
theorem PG_or {e : Expr} {t u : TG} (h : PG X e t) (h' : PG X e u) : PG X e (fun v σ H Q => t v σ H Q ∨ u v σ H Q) := ⟨fun pins s σ H v w Q I r q => by
  rcases q with q | q
  · exact h.run pins s σ H v w Q I r q
  · exact h'.run pins s σ H v w Q I r q⟩
theorem gUnp' {es : List Expr} {k : Nat} {t : TGsd} {n : Nat} (hK : B.G.K = X.K := by rfl) (hc : X.calm = true) (h : PGs X es (LGs B t))
    (hn : (assignEach es X.env).length = n := by rfl) (hst : (assignEach es X.env).findIdx? (·.1) = none := by rfl) : PG X (.Tuple es k pos) (LG B (gUnp n t)) := PG_imp (PG_or (pg_tup hc h hn hst) (pg_lst hc h hn hst)) (by
  rintro v σ H Q ⟨π, S, σd, d, Qd, R, r, q, k⟩
  obtain ⟨ds, h, e, q⟩ := q
  obtain ⟨a, xs, rfl, hs, l⟩ := seq_rep R.sto r h
  rw [hK] at hs
  rcases hs with hs | hs
  · exact .inr ⟨a, xs, rfl, hs, by rw [← l.length]; exact e, π, S, σd, ds, Qd, R, l, q, k⟩
  · exact .inl ⟨a, xs, rfl, hs.sq, by rw [← l.length]; exact e, π, S, σd, ds, Qd, R, l, q, k⟩)
theorem gSub' {o i : Expr} {to ti : TEd} {r : RSet} (ho : PE X o (LE B to)) (hi : PE X i (LE B ti)) (hs : PSet X (LSet B r))
    (ha : ∀ v, assign (.Subscript o i pos) X.env v = (do
      let ov ← holding [v] (eval o X.env)
      let iv ← holding [v, ov] (eval i X.env)
      standAt pos
      holding [v, ov, iv] (setItem ov iv v)
      release [v, ov, iv] []) := by intro _; rfl) : PG X (.Subscript o i pos) (LG B (gSb to ti r)) := PG_imp (pg_sub ho hi hs ha) (by
  rintro v σ H Q ⟨π, S, σd, d, Qd, R, r, q, k⟩
  refine ⟨π, S, σd, _, R, q, fun π1 H1 S1 x w e1 R1 rx q => ?_⟩
  refine ⟨π1, S1, σd, _, R.to e1 R1, q, fun π2 H2 S2 y u e2 R2 ry q => ?_⟩
  refine ⟨π2, S2, x, y, d, _, R2, rx.mono e2, ry, r.mono (e1.trans e2), q, fun π3 H3 S3 e3 R3 q => ?_⟩
  have e := e1.trans (e2.trans e3)
  exact k π3 H3 S3 σd σ e R3 (R.slt.mono e) q)
end
def sNext : TSd := fun D σ S => D.nx σ S
def sSeq (t u : TSd) : TSd := fun D σ S => t { D with nx := u D } σ S
def sBreak : TSd := fun D σ S => D.bk σ S
def sCont : TSd := fun D σ S => D.ct σ S
def sDrop (t : TEd) : TSd := fun D σ S => t σ S fun _ S1 => D.nx σ S1
def sRet (t : TEd) : TSd := fun D σ S => t σ S D.rt
def sRetN : TSd := fun D _ S => D.rt .non S
def sIf (c : TTd) (t u : TSd) : TSd := fun D σ S => c σ S fun b S1 => if b = true then t D σ S1 else u D σ S1
def sNever : TSd := fun _ _ _ => False
def sAsg (t : TEd) (g : TGd) : TSd := fun D σ S => t σ S fun x S1 => g x σ S1 D.nx
def sPar (i j : Nat) (t : TAd) : TSd := fun D σ S => t σ S fun vs S1 => ∃ v w, vs = [v, w] ∧ D.nx ((σ.set i (some v)).set j (some w)) S1
def sAug (i : Nat) (t : TEd) (r : RD2) : TSd := fun D σ S => ∃ x, σ[i]? = some (some x) ∧ t σ S fun y S1 => r x y S1 fun z S2 => D.nx (σ.set i (some z)) S2
section
variable {X : Cx} {B : Bs} {st : Stmt} {rest : List Stmt} {t u : TSd} {e : Expr} {te : TEd} {pos : Pos}
theorem bNil : PSs X [] (LS B sNext) := PSs_imp pss_nil (by
  rintro D σ H ⟨π, S, σd, Dd, R, q, k⟩
  exact k.1 π H S _ _ (Ext.refl _ _ _) R.sto R.slt q)
theorem bCons (h1 : PS X st (LS B t)) (h2 : PSs X rest (LS B u)) : PSs X (st :: rest) (LS B (sSeq t u)) := PSs_imp (pss_cons h1 h2) (by
  rintro D σ H ⟨π, S, σd, Dd, R, q, k⟩
  refine ⟨π, S, σd, _, R, q, fun π' H' S' σd' σ' x R' rs q => ?_, k.2⟩
  exact ⟨π', S', σd', Dd, ⟨R.ext.trans x, R', rs⟩, q, k.to x⟩)
theorem bOne (h1 : PS X st (LS B t)) : PSs X [st] (LS B t) := pss_one h1
theorem sExpr' (he : PE X e (LE B te)) (hs : swapsWith e none pos.line X.env = pure false := by rfl) : PS X (.Expr e pos) (LS B (sDrop te)) := PS_imp (ps_expr he hs) (by
  rintro D σ H ⟨π, S, σd, Dd, R, q, k⟩
  exact ⟨π, S, σd, _, R, q, fun π1 H1 S1 x v e1 R1 rx q => k.1 π1 H1 S1 _ _ e1 R1 (R.slt.mono e1) q⟩)
theorem sRet' (he : PE X e (LE B te)) : PS X (.Return (some e) pos) (LS B (sRet te)) := PS_imp (ps_ret he) (by
  rintro D σ H ⟨π, S, σd, Dd, R, q, k⟩
  exact ⟨π, S, σd, _, R, q, fun π1 H1 S1 x v e1 R1 rx q => k.2.1 π1 H1 S1 _ _ e1 R1 rx q⟩)
theorem sIf' {c : Expr} {a b : List Stmt} {tc : TTd} (hc : PT X c (LT B tc)) (ha : PSs X a (LS B t)) (hb : PSs X b (LS B u)) : PS X (.If c a b pos) (LS B (sIf tc t u)) := PS_imp (ps_if hc ha hb) (by
  rintro D σ H ⟨π, S, σd, Dd, R, q, k⟩
  refine ⟨π, S, σd, _, R, q, fun π1 H1 S1 c e1 R1 q => ?_⟩
  cases c with
  | true =>
    rw [if_pos rfl] at q ⊢
    exact ⟨π1, S1, σd, Dd, R.to e1 R1, q, k.to e1⟩
  | false =>
    rw [if_neg Bool.false_ne_true] at q ⊢
    exact ⟨π1, S1, σd, Dd, R.to e1 R1, q, k.to e1⟩)
theorem LS_asg {g : TGd} (te : TEd) : ∀ D σ H, LS B (sAsg te g) D σ H → tAsg (LE B te) (LG B g) D σ H := by
  rintro D σ H ⟨π, S, σd, Dd, R, q, k⟩
  refine ⟨π, S, σd, _, R, q, fun π1 H1 S1 x v e1 R1 rx q => ?_⟩
  exact ⟨π1, S1, σd, x, Dd.nx, R.to e1 R1, rx, q, fun π2 H2 S2 σ2 σ2' e2 R2 rs q => k.1 π2 H2 S2 σ2 σ2' (e1.trans e2) R2 rs q⟩
theorem sAsg' {tg : Expr} {g : TGd} (he : PE X e (LE B te)) (hg : PG X tg (LG B g)) (hs : swapsWithSole [tg] e pos.line X.env = pure false := by rfl) (hw : swappedStores [tg] e X.env = pure none := by rfl)
    (h1 : (assignEach [tg] X.env).map (·.2) = [assign tg X.env] := by rfl) : PS X (.Assign [tg] e pos) (LS B (sAsg te g)) := PS_imp (ps_asg he hg hs hw h1) (LS_asg te)
theorem LS_set {i : Nat} (te : TEd) : ∀ D σ H, LS B (sAsg te (gNm i)) D σ H → tAsg (LE B te) (gName i) D σ H := by
  rintro D σ H ⟨π, S, σd, Dd, R, q, k⟩
  refine ⟨π, S, σd, _, R, q, fun π1 H1 S1 x v e1 R1 rx q => ?_⟩
  exact k.1 π1 H1 S1 _ _ e1 R1 ((R.slt.mono e1).set rx i) q
theorem sSet' {i : Nat} {x : Str} {pos' : Pos} (hN : X.N.Nodup) (hi : X.N[i]? = some x) (hx : Loc X.env.scope x) (he : PE X e (LE B te)) (hs : swapsWith e (some (.Name x pos')) pos.line X.env = pure false := by rfl) (hf : X.fn x = true ∨ X.env.scope.names.lookup x = some .local := by first | exact .inl rfl | exact .inr rfl | assumption) :
    PS X (.Assign [.Name x pos'] e pos) (LS B (sAsg te (gNm i))) := PS_imp (ps_set hN hi hx he hs hf) (LS_set te)
theorem sPar' {i j : Nat} {x y : Str} {a b : Expr} {ta : TAd} {px py pt : Pos} {kt k2 pt2} (hc : X.calm = true) (hN : X.N.Nodup) (hi : X.N[i]? = some x) (hj : X.N[j]? = some y) (hij : i ≠ j)
    (hx : X.env.scope.names.lookup x = some .local) (hy : X.env.scope.names.lookup y = some .local) (ha : PA X [a, b] (LA B ta))
    (hw : swappedStores [.Tuple [.Name x px, .Name y py] kt pt] (.Tuple [a, b] k2 pt2) X.env = pure (some [x, y]))
    (hs : swapsWithSole [.Tuple [.Name x px, .Name y py] kt pt] (.Tuple [a, b] k2 pt2) pos.line X.env = pure false := by rfl) :
    PS X (.Assign [.Tuple [.Name x px, .Name y py] kt pt] (.Tuple [a, b] k2 pt2) pos) (LS B (sPar i j ta)) := PS_imp (ps_par hc hN hi hj hij hx hy ha hw hs) (by
  rintro D σ H ⟨π, S, σd, Dd, R, q, k⟩
  refine ⟨π, S, σd, _, R, q, fun π1 H1 S1 ds vs e1 R1 rx q => ?_⟩
  obtain ⟨d, f, rfl, q⟩ := q
  obtain ⟨v, w, rfl, r1, r2⟩ := rx.two_inv
  exact ⟨v, w, rfl, k.1 π1 H1 S1 _ _ e1 R1 (((R.slt.mono e1).set r1 i).set r2 j) q⟩)
end
def Fg (n : Nat) : Sl → Sl → Prop
  | [], [] => True
  | o :: σ, o' :: σ' => (o' = none ∨ (o' = o ∧ match o with | some d => d.clo n = true | none => True)) ∧ Fg n σ σ'
  | _, _ => False
def Wk (n0 : Nat) (R : Sl → Store → Prop) : Sl → Store → Prop := fun σ S => R σ S ∨ ∃ n σ', n0 ≤ n ∧ Fg n σ σ' ∧ StClo (S.take n) ∧ R σ' (S.take n)
/-- the same of a value -/
def Gc (n0 : Nat) (Q : KD) : KD := fun d S => Q d S ∨ ∃ n, n0 ≤ n ∧ d.clo n = true ∧ StClo (S.take n) ∧ Q d (S.take n)
theorem Fg.get {n : Nat} : ∀ {σ σ' : Sl}, Fg n σ σ' → σ.length = σ'.length ∧ ∀ (i : Nat) (d : Dv), σ'[i]? = some (some d) → σ[i]? = some (some d) ∧ d.clo n = true
  | [], [], _ => ⟨rfl, fun i d h => by simp at h⟩
  | o :: σ, o' :: σ', h => by
    obtain ⟨h1, h2⟩ := h
    obtain ⟨e, k⟩ := h2.get
    refine ⟨by rw [List.length_cons, List.length_cons, e], fun i d q => ?_⟩
    cases i with
    | zero =>
      simp only [List.getElem?_cons_zero, Option.some.injEq] at q ⊢
      subst q
      rcases h1 with z | ⟨z, c⟩
      · cases z
      · subst z; exact ⟨rfl, c⟩
    | succ i =>
      simp only [List.getElem?_cons_succ] at q ⊢
      exact k i d q
  | [], _ :: _, h => h.elim
  | _ :: _, [], h => h.elim
theorem RepSl.drop {G : Cf} {π : List Addr} {H : Hp} {σd σd' : Sl} {σ : L2.St} {n : Nat} (r : RepSl G π H σd σ) (f : Fg n σd σd') : RepSl G (π.take n) H σd' σ := by
  obtain ⟨e, k⟩ := f.get
  refine ⟨r.1.trans e, fun i d q => ?_⟩
  obtain ⟨h1, c⟩ := k i d q
  obtain ⟨v, h2, h3⟩ := r.2 i d h1
  exact ⟨v, h2, h3.drop n c⟩
/-- what is wanted behind is wanted of the forgotten -/
theorem wk_use {B : Bs} {π π' : List Addr} {H H' : Hp} {S' : Store} {σd' : Sl} {σ' : L2.St} {R : Sl → Store → Prop} {Q : L2.St → Hp → Prop} {n0 : Nat} (hn : π.length ≤ n0) (k : ∀ π' S' σd', Ext B.G π H π' H' → RepS B.G π' H' S' → RepSl B.G π' H' σd' σ' → R σd' S' → Q σ' H')
    (x : Ext B.G π H π' H') (R' : RepS B.G π' H' S') (rs : RepSl B.G π' H' σd' σ') (q : Wk n0 R σd' S') : Q σ' H' := by
  rcases q with q | ⟨n, σ2, h1, h2, h3, q⟩
  · exact k π' S' σd' x R' rs q
  · exact k _ _ _ (x.drop (Nat.le_trans hn h1)) (R'.drop n h3) (rs.drop h2) q
theorem gc_use {B : Bs} {π π' : List Addr} {H H' : Hp} {S' : Store} {d : Dv} {v : V} {R : KD} {Q : VK} {n0 : Nat} (hn : π.length ≤ n0) (k : KV' B π H R Q)
    (x : Ext B.G π H π' H') (R' : RepS B.G π' H' S') (rs : Rep B.G π' H' d v) (q : Gc n0 R d S') : Q v H' := by
  rcases q with q | ⟨n, h1, h2, h3, q⟩
  · exact k π' H' S' d v x R' rs q
  · exact k _ _ _ d v (x.drop (Nat.le_trans hn h1)) (R'.drop n h3) (rs.drop n h2) q
def sWhile (c : TTd) (tb : TSd) : TSd := fun D σ S => ∃ Pv : Nat → Sl → Store → Prop, (∃ m, Pv m σ S) ∧ ∀ m σ1 S1, Pv m σ1 S1 → c σ1 S1 fun b S2 =>
  if b = true then tb { D with nx := Wk S.length fun σ' S' => ∃ m', m' < m ∧ Pv m' σ' S', ct := Wk S.length fun σ' S' => ∃ m', m' < m ∧ Pv m' σ' S', bk := D.nx } σ1 S2 else D.nx σ1 S2
structure Itd where
  items : List Dv
  ok : Store → Prop
abbrev TId := Sl → Store → (Itd → Store → Prop) → Prop
def ItR (B : Bs) (π0 : List Addr) (H0 : Hp) (J : It) (Jd : Itd) : Prop := ∀ π H S (i : Nat), Ext B.G π0 H0 π H → RepS B.G π H S → Jd.ok S →
  (i < Jd.items.length → J.go i H ∧ ∀ x H', J.yld i H x H' → RepS B.G π H' S ∧ Ext B.G π H π H' ∧ ∃ d, Jd.items[i]? = some d ∧ Rep B.G π H' d x) ∧ (i = Jd.items.length → J.stop i H)
def LI (B : Bs) (wd : TId) : TI := fun σ H R => ∃ π S σd Rd, Rs B π H S σd σ ∧ wd σd S Rd ∧ ∀ π' H' S' J Jd, Ext B.G π H π' H' → RepS B.G π' H' S' → ItR B π' H' J Jd → Rd Jd S' → R J H'
def sFor (wi : TId) (g : TGd) (tb : TSd) : TSd := fun D σ S => wi σ S fun J S1 => ∃ Pv : Nat → Sl → Store → Prop, Pv 0 σ S1 ∧ (∀ i σ S, i ≤ J.items.length → Pv i σ S → J.ok S) ∧
  (∀ (i : Nat) d σ S, J.items[i]? = some d → Pv i σ S → g d σ S fun σ2 S2 => tb { D with nx := Wk S1.length (Pv (i + 1)), ct := Wk S1.length (Pv (i + 1)), bk := D.nx } σ2 S2) ∧ ∀ σ S, Pv J.items.length σ S → D.nx σ S
section
variable {X : Cx} {B : Bs} {pos : Pos}
theorem sWhile' {c : Expr} {body : List Stmt} {tc : TTd} {tb : TSd} (hp : PassesOwn (model X.prog X.w) X.A X.env X.xe) (hc : PT X c (LT B tc)) (hb : PSs X body (LS B tb)) : PS X (.While c body [] pos) (LS B (sWhile tc tb)) := PS_imp (ps_while hp hc hb) (by
  rintro D σ H ⟨π, S, σd, Dd, R, ⟨Pv, ⟨m, h0⟩, hs⟩, k⟩
  refine ⟨fun m σ' H' => ∃ π' S' σd', Ext B.G π H π' H' ∧ RepS B.G π' H' S' ∧ RepSl B.G π' H' σd' σ' ∧ Pv m σd' S', ⟨m, π, S, σd, Ext.refl _ _ _, R.sto, R.slt, h0⟩, ?_⟩
  rintro m σ1 H1 ⟨π1, S1, σd1, e1, R1, rs1, p1⟩
  refine ⟨π1, S1, σd1, _, ⟨R.ext.trans e1, R1, rs1⟩, hs m σd1 S1 p1, fun π2 H2 S2 b e2 R2 q => ?_⟩
  cases b with
  | false =>
    rw [if_neg Bool.false_ne_true] at q ⊢
    exact k.1 π2 H2 S2 _ _ (e1.trans e2) R2 (rs1.mono e2) q
  | true =>
    rw [if_pos rfl] at q ⊢
    refine ⟨fun σ' H' => ∃ m', m' < m ∧ ∃ π' S' σd', Ext B.G π H π' H' ∧ RepS B.G π' H' S' ∧ RepSl B.G π' H' σd' σ' ∧ Pv m' σd' S', fun σ' H' h => h, π2, S2, σd1, _, ⟨R.ext.trans (e1.trans e2), R2, rs1.mono e2⟩, q, ?_, ?_, ?_, ?_⟩
    · intro π3 H3 S3 σ3 σ3' e3 R3 rs3 q3
      refine wk_use (π := π) (H := H) (R := fun σ' S' => ∃ m', m' < m ∧ Pv m' σ' S') (Q := fun σ' H' => ∃ m', m' < m ∧ ∃ π' S' σd', Ext B.G π H π' H' ∧ RepS B.G π' H' S' ∧ RepSl B.G π' H' σd' σ' ∧ Pv m' σd' S') (Nat.le_of_eq R.sto.len) (fun π' S' σd' x R' rs q => ?_) (e1.trans (e2.trans e3)) R3 rs3 q3
      obtain ⟨m', hm, p⟩ := q
      exact ⟨m', hm, π', S', σd', x, R', rs, p⟩
    · exact (k.to (e1.trans e2)).2.1
    · exact (k.to (e1.trans e2)).1
    · intro π3 H3 S3 σ3 σ3' e3 R3 rs3 q3
      refine wk_use (π := π) (H := H) (R := fun σ' S' => ∃ m', m' < m ∧ Pv m' σ' S') (Q := fun σ' H' => ∃ m', m' < m ∧ ∃ π' S' σd', Ext B.G π H π' H' ∧ RepS B.G π' H' S' ∧ RepSl B.G π' H' σd' σ' ∧ Pv m' σd' S') (Nat.le_of_eq R.sto.len) (fun π' S' σd' x R' rs q => ?_) (e1.trans (e2.trans e3)) R3 rs3 q3
      obtain ⟨m', hm, p⟩ := q
      exact ⟨m', hm, π', S', σd', x, R', rs, p⟩)
theorem sFor' {tg iter : Expr} {body : List Stmt} {wi : TId} {g : TGd} {tb : TSd} (hp : PassesOwn (model X.prog X.w) X.A X.env X.xe) (hc : X.calm = true) (hi : PI X tg iter (LI B wi)) (hg : PG X tg (LG B g)) (hb : PSs X body (LS B tb))
    (hs : ∀ x, foldedSetIterable iter X.env x = pure x := by intro _; rfl) : PS X (.For tg iter body [] pos) (LS B (sFor wi g tb)) := PS_imp (ps_for hp hc hi hg hb hs) (by
  rintro D σ H ⟨π, S, σd, Dd, R, q, k⟩
  refine ⟨π, S, σd, _, R, q, fun π1 H1 S1 J Jd e1 R1 hJ q => ?_⟩
  obtain ⟨Pv, h0, hl, hs, hd⟩ := q
  have rsl1 := R.slt.mono e1
  refine ⟨fun i m σ' H' => i + m = Jd.items.length ∧ ∃ π' S' σd', Ext B.G π1 H1 π' H' ∧ RepS B.G π' H' S' ∧ RepSl B.G π' H' σd' σ' ∧ Pv i σd' S', ⟨Jd.items.length, Nat.zero_add _, π1, S1, σd, Ext.refl _ _ _, R1, rsl1, h0⟩, ?_⟩
  rintro i m σ2 H2 ⟨em, π2, S2, σd2, e2, R2, rs2, p2⟩
  have ok := hl i σd2 S2 (by omega) p2
  obtain ⟨J1, J2⟩ := hJ π2 H2 S2 i e2 R2 ok
  by_cases hi : i < Jd.items.length
  · obtain ⟨J3, J4⟩ := J1 hi
    refine .inr ⟨J3, fun σ' H' => ∃ m', m' < m ∧ i + 1 + m' = Jd.items.length ∧ ∃ π' S' σd', Ext B.G π1 H1 π' H' ∧ RepS B.G π' H' S' ∧ RepSl B.G π' H' σd' σ' ∧ Pv (i + 1) σd' S', fun σ' H' h => h, fun x H3 hy => ?_⟩
    obtain ⟨R3, e3, d, hd', rx⟩ := J4 x H3 hy
    have e123 := e1.trans (e2.trans e3)
    refine ⟨π2, S2, σd2, d, _, ⟨R.ext.trans e123, R3, rs2.mono e3⟩, rx, hs i d σd2 S2 hd' p2, fun π4 H4 S4 σ4 σ4' e4 R4 rs4 q4 => ?_⟩
    have e234 := e2.trans (e3.trans e4)
    refine ⟨π4, S4, σ4, _, ⟨R.ext.trans (e1.trans e234), R4, rs4⟩, q4, ?_, ?_, ?_, ?_⟩
    · intro π5 H5 S5 σ5 σ5' e5 R5 rs5 q5
      refine wk_use (π := π1) (H := H1) (Q := fun σ' H' => ∃ m', m' < m ∧ i + 1 + m' = Jd.items.length ∧ ∃ π' S' σd', Ext B.G π1 H1 π' H' ∧ RepS B.G π' H' S' ∧ RepSl B.G π' H' σd' σ' ∧ Pv (i + 1) σd' S') (Nat.le_of_eq R1.len) (fun π' S' σd' x R' rs q => ?_) (e234.trans e5) R5 rs5 q5
      exact ⟨m - 1, by omega, by omega, π', S', σd', x, R', rs, q⟩
    · exact (k.to (e1.trans e234)).2.1
    · exact (k.to (e1.trans e234)).1
    · intro π5 H5 S5 σ5 σ5' e5 R5 rs5 q5
      refine wk_use (π := π1) (H := H1) (Q := fun σ' H' => ∃ m', m' < m ∧ i + 1 + m' = Jd.items.length ∧ ∃ π' S' σd', Ext B.G π1 H1 π' H' ∧ RepS B.G π' H' S' ∧ RepSl B.G π' H' σd' σ' ∧ Pv (i + 1) σd' S') (Nat.le_of_eq R1.len) (fun π' S' σd' x R' rs q => ?_) (e234.trans e5) R5 rs5 q5
      exact ⟨m - 1, by omega, by omega, π', S', σd', x, R', rs, q⟩
  · have ei : i = Jd.items.length := by omega
    subst ei
    exact .inl ⟨J2 rfl, k.1 π2 H2 S2 _ _ (e1.trans e2) R2 rs2 (hd σd2 S2 p2)⟩)
end
def iSeq (t : TEd) : TId := fun σ S R => t σ S fun x S1 => ∃ ds, seqOf S1 x = some ds ∧ R ⟨ds, fun S' => seqOf S' x = some ds⟩ S1
def iRg1 (t : TAd) : TId := fun σ S R => t σ S fun vs S1 => ∃ j : Int, vs = [.int j] ∧ -(2 ^ 62) ≤ j ∧ j < 2 ^ 62 ∧ R ⟨(List.range j.toNat).map fun k : Nat => .int (0 + k), fun _ => True⟩ S1
def iRg2 (t : TAd) : TId := fun σ S R => t σ S fun vs S1 => ∃ i j : Int, vs = [.int i, .int j] ∧ (-(2 ^ 62) ≤ i ∧ i < 2 ^ 62 ∧ -(2 ^ 62) ≤ j ∧ j < 2 ^ 62) ∧ R ⟨(List.range (j - i).toNat).map fun k : Nat => .int (i + k), fun _ => True⟩ S1
def iEnumD (t : TAd) : TId := fun σ S R => t σ S fun vs S1 => ∃ x ds, vs = [x] ∧ seqOf S1 x = some ds ∧ R ⟨ds.zipIdx.map fun p => .tup [.int (p.2 : Nat), p.1], fun S' => seqOf S' x = some ds⟩ S1
def iStr (t : TEd) : TId := fun σ S R => t σ S fun x S1 => ∃ z : Str, x = .str z ∧ R ⟨z.cps.toList.map fun c => .str ⟨#[c]⟩, fun _ => True⟩ S1
theorem PI_imp {X : Cx} {tg iter : Expr} {t t' : TI} (h : PI X tg iter t) (k : ∀ σ H R, t' σ H R → t σ H R) : PI X tg iter t' := ⟨fun pins s σ H R I q => h.run pins s σ H R I (k σ H R q)⟩
def kOf : Dv → Bool
  | .tup _ => false
  | _ => true
section
variable {G : Cf} {π : List Addr} {H : Hp} {S : Store} {B : Bs}
theorem seq_repK (R : RepS G π H S) {d : Dv} {v : V} {ds : List Dv} (r : Rep G π H d v) (h : seqOf S d = some ds) : ∃ a xs, v = .ref a ∧ SqK G.K (kOf d) H a xs ∧ RepL G π H ds xs := by
  cases r <;> first | (cases h; done) | skip
  · obtain ⟨a, e, _, xs, h1, l⟩ := R.here (getL_iff.mp h) (.obj ‹_›)
    cases e
    exact ⟨_, xs, rfl, SqL.of h1, l⟩
  · rename_i h1 l
    cases h
    exact ⟨_, _, rfl, h1.sq, l⟩
  · rename_i h1 l
    cases h
    exact ⟨_, _, rfl, h1.sq, l⟩
/-- the same source later on -/
theorem seq_at (R : RepS G π H S) {d : Dv} {a : Addr} {ds : List Dv} (r : Rep G π H d (.ref a)) (h : seqOf S d = some ds) : ∃ xs, SqK G.K (kOf d) H a xs ∧ RepL G π H ds xs := by
  obtain ⟨a', xs, e, h1, h2⟩ := seq_repK R r h
  cases e
  exact ⟨xs, h1, h2⟩
theorem itR_seq {d : Dv} {a : Addr} {ds : List Dv} (r : Rep B.G π H d (.ref a)) : ItR B π H (if kOf d = true then Itl B.G.K a else Itt B.G.K a) ⟨ds, fun S' => seqOf S' d = some ds⟩ := by
  intro π1 H1 S1 i e1 R1 ok
  obtain ⟨xs, hq, l⟩ := seq_at R1 (r.mono e1) ok
  have go : i < ds.length → ∃ x, xs[i]? = some x := fun hi => ⟨_, List.getElem?_eq_getElem (show i < xs.length by rw [← l.length]; exact hi)⟩
  have ye : ∀ x, xs[i]? = some x → ∃ d, ds[i]? = some d ∧ Rep B.G π1 H1 d x := fun x hx => l.getV hx
  cases hk : kOf d
  · rw [hk] at hq
    refine ⟨fun hi => ?_, fun hi => ⟨xs, hq, by rw [hi, l.length]; exact Nat.le_refl _⟩⟩
    obtain ⟨x, hx⟩ := go hi
    refine ⟨⟨xs, x, hq, hx⟩, fun y H' hy => ?_⟩
    obtain ⟨rfl, hy⟩ := hy
    exact ⟨R1, Ext.refl _ _ _, ye y (hy xs hq)⟩
  · rw [hk] at hq
    refine ⟨fun hi => ?_, fun hi => ⟨xs, hq, by rw [hi, l.length]; exact Nat.le_refl _⟩⟩
    obtain ⟨x, hx⟩ := go hi
    refine ⟨⟨xs, x, hq, hx⟩, fun y H' hy => ?_⟩
    obtain ⟨rfl, hy⟩ := hy
    exact ⟨R1, Ext.refl _ _ _, ye y (hy xs hq)⟩
theorem itR_fn {J : It} {n : Nat} {f : Nat → Dv} {fV : Nat → V} (hg : ∀ i H, i < n → J.go i H) (hy : ∀ i H x H', i < n → J.yld i H x H' → H' = H ∧ x = fV i) (hs : ∀ H, J.stop n H) (hr : ∀ i G π H, Rep G π H (f i) (fV i)) :
    ItR B π H J ⟨(List.range n).map f, fun _ => True⟩ := by
  intro π1 H1 S1 i e1 R1 ok
  refine ⟨fun hi => ?_, fun hi => ?_⟩
  · rw [List.length_map, List.length_range] at hi
    refine ⟨hg i H1 hi, fun x H' q => ?_⟩
    obtain ⟨rfl, rfl⟩ := hy i H1 x H' hi q
    exact ⟨R1, Ext.refl _ _ _, f i, by rw [List.getElem?_map, List.getElem?_range hi]; rfl, hr i _ _ _⟩
  · rw [List.length_map, List.length_range] at hi
    rw [hi]
    exact hs H1
end
section
variable {X : Cx} {B : Bs} {pos : Pos} {tg : Expr}
theorem iSeq' {l : Expr} {tl : TEd} (hK : B.G.K = X.K := by rfl) (hl : PE X l (LE B tl)) : PI X tg l (LI B (iSeq tl)) := PI_imp (pi_sqK hl) (by
  rintro σ H R ⟨π, S, σd, Rd, R0, q, k⟩
  refine ⟨π, S, σd, _, R0, q, fun π1 H1 S1 x v e1 R1 rx q => ?_⟩
  obtain ⟨ds, h, q⟩ := q
  obtain ⟨a, xs, rfl, hq, l⟩ := seq_repK R1 rx h
  have it := itR_seq (ds := ds) rx
  rw [hK] at hq it
  exact ⟨a, kOf x, xs, rfl, hq, k π1 H1 S1 _ _ e1 R1 it q⟩)
theorem iRg1' {a : Expr} {ta : TAd} {p : Pos} (hg : Gl X "range") (hm : X.mg "range" = none) (ha : PA X [a] (LA B ta)) (hs : starEach [a] X.env = [(false, eval a X.env)] := by rfl) : PI X tg (.Call (.Name "range" p) [a] [] pos) (LI B (iRg1 ta)) := PI_imp (pi_range1 hg hm ha hs) (by
  rintro σ H R ⟨π, S, σd, Rd, R0, q, k⟩
  refine ⟨π, S, σd, _, R0, q, fun π1 H1 S1 ds vs e1 R1 rx q => ?_⟩
  obtain ⟨j, rfl, h1, h2, q⟩ := q
  obtain ⟨v, rfl, r1⟩ := rx.one_inv
  obtain rfl := r1.int_inv
  refine ⟨j, rfl, h1, h2, k π1 H1 S1 _ _ e1 R1 (itR_fn (fV := fun i : Nat => .int (0 + i)) (fun i H hi => hi) (fun i H x H' hi q => q) (fun H => Nat.le_refl _) fun i G π H => .int _) q⟩)
theorem iStr' {l : Expr} {tl : TEd} (hl : PE X l (LE B tl)) : PI X tg l (LI B (iStr tl)) := PI_imp (pi_str hl) (by
  rintro σ H R ⟨π, S, σd, Rd, R0, q, k⟩
  refine ⟨π, S, σd, _, R0, q, fun π1 H1 S1 x v e1 R1 rx q => ?_⟩
  obtain ⟨z, rfl, q⟩ := q
  obtain rfl := rx.str_inv
  refine ⟨z, rfl, k π1 H1 S1 _ _ e1 R1 ?_ q⟩
  intro π2 H2 S2 i e2 R2 ok
  have w := walk_str (z := z)
  refine ⟨fun hi => ?_, fun hi => ?_⟩
  · rw [List.length_map, Array.length_toList] at hi
    refine ⟨w.goes i H2 hi trivial, fun x H' hy => ?_⟩
    obtain ⟨rfl, c, hc, rfl⟩ := w.yields i H2 x H' hi trivial hy
    exact ⟨R2, Ext.refl _ _ _, .str ⟨#[c]⟩, by rw [List.getElem?_map, Array.getElem?_toList, hc]; rfl, .str _⟩
  · rw [List.length_map, Array.length_toList] at hi
    rw [hi]
    exact w.stops H2 trivial)
theorem rep_pair {G : Cf} {π : List Addr} {H : Hp} {S : Store} (R : RepS G π H S) {ds : List Dv} {vs : List V} (l : RepL G π H ds vs) {T : Addr} (hT : H T = none) : RepS G π (upd H T (.tup vs)) S ∧ Ext G π H π (upd H T (.tup vs)) ∧ Rep G π (upd H T (.tup vs)) (.tup ds) (.ref T) := by
  obtain ⟨R1, x⟩ := step_aside R (o := .tup vs) hT
  exact ⟨R1, x, .tup (.inl upd_same) (l.mono x)⟩
theorem iEnum' {e : Expr} {ta : TAd} {p tpos : Pos} {elts : List Expr} {kk : Nat} (hK : B.G.K = X.K := by rfl) (hg : Gl X "enumerate") (hm : X.mg "enumerate" = none) (ha : PA X [e] (LA B ta)) (hs : starEach [e] X.env = [(false, eval e X.env)] := by rfl) :
    PI X (.Tuple elts kk tpos) (.Call (.Name "enumerate" p) [e] [] pos) (LI B (iEnumD ta)) := PI_imp (pi_enumK hg hm ha hs) (by
  rintro σ H R ⟨π, S, σd, Rd, R0, q, k⟩
  refine ⟨π, S, σd, _, R0, q, fun π1 H1 S1 ys vs e1 R1 rx q => ?_⟩
  obtain ⟨x, ds, rfl, h, q⟩ := q
  obtain ⟨v, rfl, rx1⟩ := rx.one_inv
  clear rx
  have rx := rx1
  obtain ⟨a, xs, rfl, hq, l⟩ := seq_repK R1 rx h
  rw [hK] at hq
  refine ⟨a, kOf x, xs, rfl, hq, k π1 H1 S1 _ _ e1 R1 ?_ q⟩
  intro π2 H2 S2 i e2 R2 ok
  obtain ⟨zs, hz, lz⟩ := seq_at R2 (rx.mono e2) ok
  rw [hK] at hz
  refine ⟨fun hi => ?_, fun hi => ?_⟩
  · rw [List.length_map, List.length_zipIdx] at hi
    have hi' : i < zs.length := by rw [← lz.length]; exact hi
    refine ⟨⟨zs, zs[i], hz, List.getElem?_eq_getElem hi'⟩, fun y H' hy => ?_⟩
    obtain ⟨T, w, rfl, hT, rfl, hy⟩ := hy
    obtain ⟨d, hd, rd⟩ := lz.getV (hy zs hz)
    obtain ⟨R3, e3, r3⟩ := rep_pair R2 (.cons (.int (i : Nat)) (.one rd)) hT
    exact ⟨R3, e3, _, by rw [List.getElem?_map, List.getElem?_zipIdx, hd]; simp, r3⟩
  · rw [List.length_map, List.length_zipIdx, lz.length] at hi
    exact ⟨zs, hz, hi⟩)
end
end D3
set_option Elab.async false
set_option linter.all false
set_option maxRecDepth 100000
set_option maxHeartbeats 2000000
namespace D3
open PySem PySem.Spec PyProof.Rows L2
/-- a target of a comprehension: a name, or names of a tuple or list of that many -/
inductive Tg where
  | one (i : Nat) | many (is : List Nat)
def Tg.slots : Tg → List Nat
  | .one i => [i]
  | .many is => is
def setsV : List Nat → List V → L2.St → L2.St
  | i :: is, v :: vs, σ => setsV is vs (σ.set i (some v))
  | _, _, σ => σ
def setsD : List Nat → List Dv → Sl → Sl
  | i :: is, d :: ds, σ => setsD is ds (σ.set i (some d))
  | _, _, σ => σ
def Tg.rdV (K : PySem.W.Frag) : Tg → TG
  | .one i => fun v σ H Q => Q (σ.set i (some v)) H
  | .many is => fun v σ H Q => ∃ a xs, v = .ref a ∧ (SqL K H a xs ∨ SqT K H a xs) ∧ xs.length = is.length ∧ Q (setsV is xs σ) H
def Tg.rd : Tg → TGd
  | .one i => fun d σ S Q => Q (σ.set i (some d)) S
  | .many is => fun d σ S Q => ∃ ds, seqOf S d = some ds ∧ ds.length = is.length ∧ Q (setsD is ds σ) S
def gsV : List Nat → TGs
  | [] => gNil
  | i :: is => gCons (gName i) (gsV is)
theorem gsV_ok : ∀ (is : List Nat) (xs : List V) (σ : L2.St) (H : Hp) (Q : L2.St → Hp → Prop), xs.length = is.length → Q (setsV is xs σ) H → gsV is xs σ H Q
  | [], [], _, _, _, _, q => ⟨rfl, q⟩
  | i :: is, x :: xs, σ, H, Q, e, q => ⟨x, xs, rfl, gsV_ok is xs _ H Q (by simpa using e) q⟩
  | [], _ :: _, _, _, _, e, _ => by simp at e
  | _ :: _, [], _, _, _, e, _ => by simp at e
theorem wipe_set {i : Nat} {o : Option V} : ∀ {vs : List Nat} {σ : L2.St}, i ∈ vs → wipe (σ.set i o) vs = wipe σ vs
  | v :: vs, σ, h => by
    show (wipe (σ.set i o) vs).set v none = (wipe σ vs).set v none
    by_cases e : i ∈ vs
    · rw [wipe_set e]
    · have ev : i = v := by
        rcases List.mem_cons.mp h with q | q
        · exact q
        · exact (e q).elim
      subst ev
      refine List.ext_getElem? fun j => ?_
      by_cases hj : j = i
      · subst hj
        by_cases hl : j < σ.length
        · rw [List.getElem?_set_self (by rw [wipe_length, List.length_set]; exact hl), List.getElem?_set_self (by rw [wipe_length]; exact hl)]
        · rw [List.getElem?_eq_none (by rw [List.length_set, wipe_length, List.length_set]; omega), List.getElem?_eq_none (by rw [List.length_set, wipe_length]; omega)]
      · rw [List.getElem?_set_ne (fun q => hj q.symm), List.getElem?_set_ne (fun q => hj q.symm)]
        exact wipe_other hj vs σ
  where
    wipe_other {i j : Nat} {o : Option V} (hj : j ≠ i) : ∀ (vs : List Nat) (σ : L2.St), (wipe (σ.set i o) vs)[j]? = (wipe σ vs)[j]?
    | [], σ => List.getElem?_set_ne (fun q => hj q.symm)
    | v :: vs, σ => by
      show ((wipe (σ.set i o) vs).set v none)[j]? = ((wipe σ vs).set v none)[j]?
      by_cases e : v = j
      · subst e
        by_cases hl : v < σ.length
        · rw [List.getElem?_set_self (by rw [wipe_length, List.length_set]; exact hl), List.getElem?_set_self (by rw [wipe_length]; exact hl)]
        · rw [List.getElem?_eq_none (by rw [List.length_set, wipe_length, List.length_set]; omega), List.getElem?_eq_none (by rw [List.length_set, wipe_length]; omega)]
      · rw [List.getElem?_set_ne e, List.getElem?_set_ne e]
        exact wipe_other hj vs σ
theorem wipe_sets {vs : List Nat} : ∀ (is : List Nat) (xs : List V) (σ : L2.St), (∀ i ∈ is, i ∈ vs) → wipe (setsV is xs σ) vs = wipe σ vs
  | [], _, _, _ => rfl
  | _ :: _, [], _, _ => rfl
  | i :: is, x :: xs, σ, h => by
    show wipe (setsV is xs (σ.set i (some x))) vs = wipe σ vs
    rw [wipe_sets is xs _ fun j hj => h j (List.mem_cons_of_mem _ hj), wipe_set (h i List.mem_cons_self)]
theorem wipe_wipe {us : List Nat} : ∀ (vs : List Nat) (σ : L2.St), (∀ i ∈ vs, i ∈ us) → wipe (wipe σ vs) us = wipe σ us
  | [], _, _ => rfl
  | v :: vs, σ, h => by
    show wipe ((wipe σ vs).set v none) us = wipe σ us
    rw [wipe_set (h v List.mem_cons_self), wipe_wipe vs σ fun j hj => h j (List.mem_cons_of_mem _ hj)]
def wipeD (σ : Sl) : List Nat → Sl
  | [] => σ
  | v :: vs => (wipeD σ vs).set v none
theorem RepSl.wipe {G : Cf} {π : List Addr} {H : Hp} {σd : Sl} {σ : L2.St} (r : RepSl G π H σd σ) : ∀ vs : List Nat, RepSl G π H (wipeD σd vs) (wipe σ vs)
  | [] => r
  | v :: vs => (r.wipe vs).setN v none
theorem RepSl.sets {G : Cf} {π : List Addr} {H : Hp} : ∀ {is : List Nat} {ds : List Dv} {xs : List V} {σd : Sl} {σ : L2.St}, RepSl G π H σd σ → RepL G π H ds xs → RepSl G π H (setsD is ds σd) (setsV is xs σ)
  | [], _, _, _, _, r, _ => r
  | _ :: _, _, _, _, _, r, .nil => r
  | i :: is, d :: ds, x :: xs, σd, σ, r, .cons h t => by
    show RepSl G π H (setsD is ds (σd.set i (some d))) (setsV is xs (σ.set i (some x)))
    exact RepSl.sets (r.set h i) t
section
variable {X : Cx} {pos : Pos}
theorem gOne {i : Nat} {x : Str} (hN : X.N.Nodup) (hi : X.N[i]? = some x) (hx : Loc X.env.scope x) (hf : X.fn x = true ∨ X.env.scope.names.lookup x = some .local := by first | exact .inl rfl | exact .inr rfl | assumption) : PG X (.Name x pos) ((Tg.one i).rdV X.K) := pg_name hN hi hx hf
theorem gMany {es : List Expr} {k : Nat} {is : List Nat} (hc : X.calm = true) (h : PGs X es (gsV is)) (hn : (assignEach es X.env).length = is.length := by rfl) (hst : (assignEach es X.env).findIdx? (·.1) = none := by rfl) : PG X (.Tuple es k pos) ((Tg.many is).rdV X.K) :=
  PG_imp (PG_or (pg_tup hc h hn hst) (pg_lst hc h hn hst)) (by
    rintro v σ H Q ⟨a, xs, rfl, hs, e, q⟩
    rcases hs with hs | hs
    · exact .inr ⟨a, xs, rfl, hs, e, gsV_ok is xs σ H Q e q⟩
    · exact .inl ⟨a, xs, rfl, hs, e, gsV_ok is xs σ H Q e q⟩)
end
theorem Tg.lift {B : Bs} {π : List Addr} {H : Hp} {S : Store} {σd : Sl} {σ : L2.St} {d : Dv} {v : V} (t : Tg) {vs : List Nat} (hv : ∀ i ∈ t.slots, i ∈ vs) (R : RepS B.G π H S) (r : Rep B.G π H d v) (rs : RepSl B.G π H (wipeD σd vs) (wipe σ vs)) {Qd : Sl → Store → Prop} {Q : L2.St → Hp → Prop}
    (h : t.rd d (wipeD σd vs) S Qd) (k : ∀ σd2 σ2, L2.wipe σ2 vs = L2.wipe σ vs → RepSl B.G π H σd2 σ2 → Qd σd2 S → Q σ2 H) : t.rdV B.G.K v (L2.wipe σ vs) H Q := by
  have ww : L2.wipe (L2.wipe σ vs) vs = L2.wipe σ vs := wipe_wipe vs σ fun i hi => hi
  cases t with
  | one i =>
    exact k _ _ (by rw [wipe_set (hv i List.mem_cons_self), ww]) (rs.set r i) h
  | many is =>
    obtain ⟨ds, g, e, h⟩ := h
    obtain ⟨a, xs, rfl, hs, l⟩ := seq_rep R r g
    exact ⟨a, xs, rfl, hs.imp id TpL.sq, by rw [← l.length]; exact e, k _ _ (by rw [wipe_sets is xs _ hv, ww]) (rs.sets l) h⟩
/-- the store, forgotten behind the first n -/
def Wc (n0 : Nat) (acc : List Dv) (R : Store → Prop) : Store → Prop := fun S => R S ∨ ∃ n, n0 ≤ n ∧ Dv.cloL n acc = true ∧ StClo (S.take n) ∧ R (S.take n)
def cYes : TTd := fun _ S Q => Q true S
def eLc (wi : TId) (t : Tg) (tt : TTd) (te : TEd) (vs : List Nat) : TEd := fun σ S Q => wi σ S fun J S1 => ∃ Pv : Nat → List Dv → Store → Prop, Pv 0 [] S1 ∧ (∀ i acc S, i ≤ J.items.length → Pv i acc S → J.ok S ∧ acc.length < sizeLine) ∧
  (∀ (i : Nat) d acc S, J.items[i]? = some d → Pv i acc S → t.rd d (wipeD σ vs) S fun σ2 S2 => tt σ2 S2 fun b S3 =>
    if b = true then te σ2 S3 fun y S4 => Wc S1.length (acc ++ [y]) (Pv (i + 1) (acc ++ [y])) S4 else Wc S1.length acc (Pv (i + 1) acc) S3) ∧ ∀ acc S, Pv J.items.length acc S → Q (.obj S.length) (S ++ [.lst acc])
section
variable {G : Cf} {π1 π : List Addr} {H1 H : Hp} {S : Store}
/-- the new list that stands aside is written -/
theorem aside_write {D : Addr} {xs ys : List V} (x : Ext G π1 H1 π H) (R : RepS G π H S) (h1 : H1 D = none) (hD : H D = some (.lst xs)) (hn : D ∉ π) :
    Ext G π1 H1 π (upd H D (.lst ys)) ∧ RepS G π (upd H D (.lst ys)) S ∧ Mon G π H π (upd H D (.lst ys)) := by
  have kp : ∀ b u, H b = some u → b ≠ D → upd H D (.lst ys) b = some u := fun b u e n => by rw [upd_ne n]; exact e
  have tp : ∀ a zs, TpL G.K H a zs → TpL G.K (upd H D (.lst ys)) a zs := fun a zs h => by
    rcases h with h | h
    · exact .inl (kp _ _ h fun z => by rw [z, hD] at h; cases h)
    · exact .inr h
  have fz : ∀ a zs, FzL G.K H a zs → FzL G.K (upd H D (.lst ys)) a zs := fun a zs h => by
    rcases h with ⟨o, h⟩ | h
    · exact .inl ⟨o, kp _ _ h fun z => by rw [z, hD] at h; cases h⟩
    · exact .inr h
  have mo : Mon G π H π (upd H D (.lst ys)) := ⟨fun _ _ h => h, tp, fz⟩
  refine ⟨⟨x.pre, fun a zs h => tp a zs (x.tup a zs h), fun a zs h => fz a zs (x.fzl a zs h), fun b o e hb n => kp _ _ (x.frm b o e hb n) (ne_of_none e h1), fun b e => ?_, fun b od u e => kp _ _ (x.lck b od u e) (ne_of_none e h1)⟩,
    ⟨R.len, R.nd, fun i m a e1 e2 => (R.at_ i m a e1 e2).mon mo (upd_ne fun z => hn (by rw [← z]; exact List.mem_of_getElem? e2)), tabs_keep R.tab fun b o e n => kp b o e fun z => by rw [z, hD] at e; cases e; cases n⟩, mo⟩
  by_cases q : b = D
  · subst q
    obtain ⟨ps, w⟩ := e _ upd_same
    cases w
  · exact x.there b fun u hu => e u (by rw [upd_ne q]; exact hu)
theorem aside_stays {D : Addr} {xs : List V} {π' : List Addr} {H' : Hp} (x : Ext G π H π' H') (hD : H D = some (.lst xs)) (hn : D ∉ π) : H' D = some (.lst xs) ∧ D ∉ π' := by
  refine ⟨x.frm D _ hD hn (fun ps z => by cases z), fun z => ?_⟩
  obtain ⟨t, e, n⟩ := x.pre
  rw [e] at z
  rcases List.mem_append.mp z with z | z
  · exact hn z
  · obtain ⟨ps, w⟩ := n D z _ hD
    cases w
theorem aside_adopt {D : Addr} {xs : List V} {ds : List Dv} (x : Ext G π1 H1 π H) (R : RepS G π H S) (h1 : H1 D = none) (hD : H D = some (.lst xs)) (hn : D ∉ π) (l : RepL G π H ds xs) :
    Ext G π1 H1 (π ++ [D]) H ∧ RepS G (π ++ [D]) H (S ++ [.lst ds]) ∧ Rep G (π ++ [D]) H (.obj S.length) (.ref D) := by
  have mo : Mon G π H (π ++ [D]) H := ⟨fun i a e => by rw [List.getElem?_append_left (List.getElem?_eq_some_iff.mp e).1]; exact e, fun _ _ h => h, fun _ _ h => h⟩
  obtain ⟨t, e, n⟩ := x.pre
  refine ⟨⟨⟨t ++ [D], by rw [e, List.append_assoc], fun a ha => ?_⟩, x.tup, x.fzl, x.frm, x.there, x.lck⟩, step_adopt (m := .lst ds) R hn ⟨xs, hD, l.mon mo⟩, .obj (by rw [← R.len, List.getElem?_append_right (Nat.le_refl _), Nat.sub_self]; rfl)⟩
  rcases List.mem_append.mp ha with q | q
  · exact n a q
  · rw [List.mem_singleton.mp q]; exact .of h1
theorem wc_use {B : Bs} {R' : Store → Prop} {n0 : Nat} {acc : List Dv} {vs : List V} (hn : π1.length ≤ n0) {Q : Prop} (k : ∀ π' S', Ext B.G π1 H1 π' H → RepS B.G π' H S' → RepL B.G π' H acc vs → (∀ D, D ∉ π → D ∉ π') → R' S' → Q)
    (x : Ext B.G π1 H1 π H) (R : RepS B.G π H S) (rs : RepL B.G π H acc vs) (q : Wc n0 acc R' S) : Q := by
  rcases q with q | ⟨n, h1, h2, h3, q⟩
  · exact k π S x R rs (fun _ h => h) q
  · exact k _ _ (x.drop (Nat.le_trans hn h1)) (R.drop n h3) (rs.dropN n h2) (fun D h z => h (List.mem_of_mem_take z)) q
end
theorem LE_lc {B : Bs} (wi : TId) (t : Tg) (tt : TTd) (te : TEd) (vs : List Nat) (hv : ∀ i ∈ t.slots, i ∈ vs) : ∀ σ H Q, LE B (eLc wi t tt te vs) σ H Q → tLc (LI B wi) (t.rdV B.G.K) (LT B tt) (LE B te) vs σ H Q := by
  rintro σ H Q ⟨π, S, σd, Qd, R, q, k⟩
  refine ⟨π, S, σd, _, R, q, fun π1 H1 S1 J Jd e1 R1 hJ q => ?_⟩
  obtain ⟨Pv, h0, hl, hs, hd⟩ := q
  intro D nD
  have rs1 := (R.slt.mono e1).wipe vs
  obtain ⟨R0, x0⟩ := step_aside R1 (o := .lst []) nD
  refine ⟨fun i m H' => i + m = Jd.items.length ∧ ∃ π' S' acc accV, Ext B.G π1 H1 π' H' ∧ RepS B.G π' H' S' ∧ H' D = some (.lst accV) ∧ D ∉ π' ∧ RepL B.G π' H' acc accV ∧ Pv i acc S', ⟨Jd.items.length, Nat.zero_add _, π1, S1, [], [], x0, R0, upd_same, R1.new nD, .nil, h0⟩, ?_⟩
  rintro i m H2 ⟨em, π2, S2, acc, accV, e2, R2, hD2, nD2, l2, p2⟩
  obtain ⟨ok, al⟩ := hl i acc S2 (by omega) p2
  obtain ⟨J1, J2⟩ := hJ π2 H2 S2 i e2 R2 ok
  by_cases hi : i < Jd.items.length
  · obtain ⟨J3, J4⟩ := J1 hi
    refine .inr ⟨J3, fun H' => ∃ m', m' < m ∧ i + 1 + m' = Jd.items.length ∧ ∃ π' S' acc accV, Ext B.G π1 H1 π' H' ∧ RepS B.G π' H' S' ∧ H' D = some (.lst accV) ∧ D ∉ π' ∧ RepL B.G π' H' acc accV ∧ Pv (i + 1) acc S', fun H' h => h, fun x H3 hy => ?_⟩
    obtain ⟨R3, e3, d, hd', rx⟩ := J4 x H3 hy
    have e23 := e2.trans e3
    obtain ⟨hD3, nD3⟩ := aside_stays e3 hD2 nD2
    refine t.lift hv R3 rx (rs1.mono e23) (hs i d acc S2 hd' p2) fun σd4 σ4 ew rs4 q4 => ⟨ew, ?_⟩
    refine ⟨π2, S2, σd4, _, ⟨R.ext.trans (e1.trans e23), R3, rs4⟩, q4, fun π5 H5 S5 b e5 R5 q5 => ?_⟩
    have e235 := e23.trans e5
    obtain ⟨hD5, nD5⟩ := aside_stays e5 hD3 nD3
    cases b with
    | false =>
      rw [if_neg Bool.false_ne_true] at q5
      refine iteF ?_
      refine wc_use (π1 := π1) (H1 := H1) (Nat.le_of_eq R1.len) (fun π' S' x R' rl nd q => ?_) e235 R5 (l2.mono (e3.trans e5)) q5
      exact ⟨m - 1, by omega, by omega, π', S', acc, accV, x, R', hD5, nd D nD5, rl, q⟩
    | true =>
      rw [if_pos rfl] at q5
      refine iteT ?_
      refine ⟨π5, S5, σd4, _, ⟨R.ext.trans (e1.trans e235), R5, rs4.mono e5⟩, q5, fun π6 H6 S6 y v e6 R6 ry q6 => ?_⟩
      have e2356 := e235.trans e6
      obtain ⟨hD6, nD6⟩ := aside_stays e6 hD5 nD5
      have l6 : RepL B.G π6 H6 (acc ++ [y]) (accV ++ [v]) := (l2.mono (e3.trans (e5.trans e6))).append (.one ry)
      obtain ⟨x7, R7, m7⟩ := aside_write (ys := accV ++ [v]) e2356 R6 nD hD6 nD6
      refine ⟨accV, hD6, by rw [← l2.length]; exact al, ?_⟩
      refine wc_use (π1 := π1) (H1 := H1) (Nat.le_of_eq R1.len) (fun π' S' x R' rl nd q => ?_) x7 R7 (l6.mon m7) q6
      exact ⟨m - 1, by omega, by omega, π', S', acc ++ [y], accV ++ [v], x, R', upd_same, nd D nD6, rl, q⟩
  · have ei : i = Jd.items.length := by omega
    subst ei
    obtain ⟨x3, R3, r3⟩ := aside_adopt e2 R2 nD hD2 nD2 l2
    exact .inl ⟨J2 rfl, k _ _ _ _ _ (e1.trans x3) R3 r3 (hd acc S2 p2)⟩
theorem LT_yes {B : Bs} : ∀ σ H Q, LT B cYes σ H Q → tYes σ H Q := by
  rintro σ H Q ⟨π, S, σd, Qd, R, q, k⟩
  exact k π H S true (Ext.refl _ _ _) R.sto q
theorem PTs_imp {X : Cx} {ifs : List Expr} {t t' : TT} (h : PTs X ifs t) (k : ∀ σ H Q, t' σ H Q → t σ H Q) : PTs X ifs t' := ⟨fun pins s σ H Q I q => h.run pins s σ H Q I (k σ H Q q)⟩
theorem ifNo {X : Cx} {B : Bs} : PTs X [] (LT B cYes) := PTs_imp pts_nil LT_yes
theorem ifOne {X : Cx} {B : Bs} {c : Expr} {t : TTd} (h : PT X c (LT B t)) : PTs X [c] (LT B t) := pts_one h
section
variable {X : Cx} {B : Bs}
theorem pLc {elt tg iter : Expr} {ifs : List Expr} {scope : Scope} {own : List (Str × Nat)} {pos : Pos} {wi : TId} {g : Tg} {tt : TTd} {te : TEd} (hK : B.G.K = X.K := by rfl) (hc : X.calm = true) (hN : X.N.Nodup) (hi : PI X tg iter (LI B wi)) (ok : BlkOk X.N X.env.scope scope own) (hv : ∀ i ∈ g.slots, i ∈ own.map (·.2))
    (hg : ∀ (s : Shared) (H : Hp) (C : Addr) (cl : List (Str × Addr)) (fp : List Addr), PG (X.blk s H scope (compEnvC scope cl C X.env) fp) tg (g.rdV X.K)) (ht : ∀ (s : Shared) (H : Hp) (C : Addr) (cl : List (Str × Addr)) (fp : List Addr), PTs (X.blk s H scope (compEnvC scope cl C X.env) fp) ifs (LT B tt))
    (he : ∀ (s : Shared) (H : Hp) (C : Addr) (cl : List (Str × Addr)) (fp : List Addr), PE (X.blk s H scope (compEnvC scope cl C X.env) fp) elt (LE B te)) (hs : ∀ x, foldedSetIterable iter X.env x = pure x := by intro _; rfl) :
    PE X (.ListComp elt [⟨tg, iter, ifs, 0⟩] scope pos) (LE B (eLc wi g tt te (own.map (·.2)))) :=
  PE_imp (pe_lc hc hN hi ok hg ht he hs) (by rw [← hK]; exact LE_lc wi g tt te _ hv)
end
end D3
set_option Elab.async false
set_option linter.all false
set_option maxRecDepth 100000
set_option maxHeartbeats 2000000
namespace D3
open PySem PySem.Spec PyProof.Rows L2
structure Exn where
  cls : Addr
  fs : Option (List (Str × Dv))
def ExR (G : Cf) (π : List Addr) (H : Hp) (x : Exn) (cls : Value) (d : Option Addr) : Prop :=
  cls = .ref x.cls ∧ match x.fs with
    | none => d = none
    | some fs => ∃ dd vs, d = some dd ∧ H dd = some (.xd vs) ∧ ∀ f y, fs.lookup f = some y → ∃ v, vs.lookup f = some v ∧ Rep G π H y v
abbrev KX := Exn → Store → Prop
abbrev WXd := Exn → Sl → Store → Prop
abbrev Spd := List Dv → Store → KD → KX → Prop
def LW (B : Bs) (Wd : WXd) : WX := fun cls d σ H => ∃ π S σd x, Rs B π H S σd σ ∧ ExR B.G π H x cls d ∧ Wd x σd S
def KG (G : Cf) (π : List Addr) (H : Hp) (Qd : KD) (Q : VK) : Prop := ∀ π' H' S' d v, Ext G π H π' H' → RepS G π' H' S' → Rep G π' H' d v → Qd d S' → Q v H'
def XG (G : Cf) (π : List Addr) (H : Hp) (Ed : KX) (E : XK) : Prop := ∀ π' H' S' x cls d, Ext G π H π' H' → RepS G π' H' S' → ExR G π' H' x cls d → Ed x S' → E cls d H'
/-- a promise over data -/
def LSp (G : Cf) (spd : Spd) : Sp := fun vs H Q E => ∃ π S ds Qd Ed, RepS G π H S ∧ RepL G π H ds vs ∧ spd ds S Qd Ed ∧ KG G π H Qd Q ∧ XG G π H Ed E
theorem lookup_mem {f : Str} {y : Dv} : ∀ {fs : List (Str × Dv)}, fs.lookup f = some y → (f, y) ∈ fs
  | (g, u) :: zs, hy => by
    unfold List.lookup at hy
    split at hy
    · rename_i heq
      rw [beq_iff_eq] at heq
      cases hy
      rw [heq]
      exact List.mem_cons_self
    · exact List.mem_cons_of_mem _ (lookup_mem hy)
def eCall (spd : Spd) (Wd : WXd) (t : TAd) : TEd := fun σ S Q => t σ S fun ds S1 => spd ds S1 Q fun x S2 => Wd x σ S2
def WNo : WXd := fun _ _ _ => False
theorem ExR.mono {G : Cf} {π π' : List Addr} {H H' : Hp} {S : Store} {x : Exn} {cls : Value} {d : Option Addr} (R : RepS G π H S) (e : Ext G π H π' H') (h : ExR G π H x cls d) : ExR G π' H' x cls d := by
  obtain ⟨h1, h2⟩ := h
  refine ⟨h1, ?_⟩
  split at h2
  · exact h2
  · obtain ⟨dd, vs, e1, e2, e3⟩ := h2
    exact ⟨dd, vs, e1, e.frm _ _ e2 (R.out e2 rfl) (fun ps z => by cases z), fun f y hy => by obtain ⟨v, q1, q2⟩ := e3 f y hy; exact ⟨v, q1, q2.mono e⟩⟩
section
variable {X : Cx} {B : Bs} {k : Nat} {f C : Addr} {fd : FuncData} {ps : List Str} {spd : Spd} {x m : Str} {p pos apos : Pos} {e o : Expr} {es : List Expr} {to : TEd} {t : TAd} {Wd : WXd}
theorem tkNo : Takes X (LW B WNo) := (LamX.takes0 (X := X)).imp fun c d σ H h => by
  obtain ⟨_, _, _, _, _, _, z⟩ := h
  exact z
/-- a promise's reading from a caller -/
theorem LSp_of {σ : L2.St} {σd : Sl} {π : List Addr} {H : Hp} {S : Store} {ds : List Dv} {vs : List V} {Qd : KD} {Q : VK} (R : RepS B.G π H S) (rs : RepSl B.G π H σd σ) (xb : Ext B.G B.π0 B.H0 π H) (l : RepL B.G π H ds vs)
    (h : spd ds S Qd fun x S2 => Wd x σd S2) (k : KV' B π H Qd Q) : LSp B.G spd vs H Q (WE (LW B Wd) σ) :=
  ⟨π, S, ds, Qd, _, R, l, h, k, fun π' H' S' x cls d e R' r w => ⟨π', S', σd, x, ⟨xb.trans e, R', rs.mono e⟩, r, w⟩⟩
theorem pCall (F : FnOk X.prog X.w X.K X.mg X.base (L2.CX X.prog X.w) k f fd ps (LSp B.G spd)) (hr : Room k X.A) (hg : Gl X x) (hm : X.mg x = some (.ref f)) (hk : PySem.W.keepIn X.K (.ref f) = true) (hb : Binds X.K fd ps []) (tk : Takes X (LW B Wd))
    (ha : PA X (e :: es) (LA B t)) (hdb : (x == ("__debug__" : Str)) = false := by decide) (he : starEach (e :: es) X.env = (false, eval e X.env) :: starEach es X.env := by rfl) (hpl : (backTo pos (starEach es X.env)).any (·.1) = false := by rfl) :
    PE X (.Call (.Name x p) (e :: es) [] pos) (LE B (eCall spd Wd t)) := PE_imp (pe_callS F hr hg hm hk hb (fun σ => passAt tk σ) ha hdb he hpl) (by
  rintro σ H Q ⟨π, S, σd, Qd, R, h, k⟩
  refine ⟨π, S, σd, _, R, h, fun π1 H1 S1 ds vs e1 R1 l q => ?_⟩
  exact LSp_of R1 (R.slt.mono e1) (R.ext.trans e1) l q (k.to e1))
def GcX (n0 : Nat) (Q : KX) : KX := fun x S => Q x S ∨ ∃ n, n0 ≤ n ∧ (match x.fs with | none => true | some fs => fs.all fun p => p.2.clo n) = true ∧ StClo (S.take n) ∧ Q x (S.take n)
def WEx (n0 : Nat) (Ed : KX) : WXd := fun x _ S => GcX n0 Ed x S
def startD (n : Nat) (ds : List Dv) : Sl := ds.map some ++ List.replicate (n - ds.length) none
theorem start_rep {G : Cf} {π : List Addr} {H : Hp} {N : List Str} {ds : List Dv} {vs : List V} (l : RepL G π H ds vs) : RepSl G π H (startD N.length ds) (L2.start N vs) := by
  refine ⟨by unfold startD L2.start; rw [List.length_append, List.length_append, List.length_map, List.length_map, List.length_replicate, List.length_replicate, l.length], fun i d e => ?_⟩
  unfold startD at e
  by_cases hi : i < ds.length
  · rw [List.getElem?_append_left (by rw [List.length_map]; exact hi), List.getElem?_map] at e
    cases q : ds[i]? with
    | none => rw [q] at e; cases e
    | some y =>
      rw [q] at e
      cases e
      obtain ⟨v, h1, h2⟩ := l.get q
      refine ⟨v, ?_, h2⟩
      unfold L2.start
      rw [List.getElem?_append_left (by rw [List.length_map, ← l.length]; exact hi), List.getElem?_map, h1]
      rfl
  · rw [List.getElem?_append_right (by rw [List.length_map]; omega), List.getElem?_replicate] at e
    split at e
    · cases e
    · cases e
theorem gcx_use {G : Cf} {π π' : List Addr} {H H' : Hp} {S' : Store} {x : Exn} {cls : Value} {d : Option Addr} {Ed : KX} {E : XK} {n0 : Nat} (hn : π.length ≤ n0) (k : XG G π H Ed E) (e : Ext G π H π' H') (R' : RepS G π' H' S') (r : ExR G π' H' x cls d) (q : GcX n0 Ed x S') : E cls d H' := by
  rcases q with q | ⟨n, h1, h2, h3, q⟩
  · exact k π' H' S' x cls d e R' r q
  · refine k _ _ _ x cls d (e.drop (Nat.le_trans hn h1)) (R'.drop n h3) ⟨r.1, ?_⟩ q
    have r2 := r.2
    cases hx : x.fs with
    | none => rw [hx] at r2; exact r2
    | some fs =>
      rw [hx] at r2 h2
      obtain ⟨dd, vs, e1, e2, e3⟩ := r2
      refine ⟨dd, vs, e1, e2, fun f y hy => ?_⟩
      obtain ⟨v, q1, q2⟩ := e3 f y hy
      refine ⟨v, q1, q2.drop n ?_⟩
      have hm : (f, y) ∈ fs := lookup_mem hy
      exact List.all_eq_true.mp h2 _ hm
variable {P : Program} {w : World} {K : PySem.W.Frag} {mg : Str → Option Value} {base : Heap}
/-- THE RULE for a def -/
theorem okD {qual : Str} {st : Stmt} {N : List Str} {TT : List (Addr × Str)} (F : Fun K x qual st f fd) (S : FnScope N ps (defScope st)) (len : ∀ ds S Q E, spd ds S Q E → ds.length = ps.length) (td : WXd → TSd)
    (hb : ∀ (π0 : List Addr) (H0 : Hp) (Wd : WXd) (cdv : Value) (A : Around) (outer : List Env) (s : Shared) (H : Hp) (E : XK), Room k (A.deeper (envOfC qual (defScope st) s.heap.objs.size f cdv)) → Takes (cxOf (L2.CX P w) P w K mg base N qual (defScope st) f cdv A outer s H E) (LW ⟨⟨K, TT⟩, π0, H0⟩ Wd) →
      PSs (cxOf (L2.CX P w) P w K mg base N qual (defScope st) f cdv A outer s H E) (defBody st) (LS ⟨⟨K, TT⟩, π0, H0⟩ (td Wd)))
    (hr : ∀ ds S Qd Ed, spd ds S Qd Ed → StClo S → td (WEx S.length Ed) { nx := fun _ S' => Gc S.length Qd .non S', rt := Gc S.length Qd } (startD N.length ds) S) :
    FnOk P w K mg base (L2.CX P w) (k + 1) f fd ps (LSp ⟨K, TT⟩ spd) := by
  refine F.okX S (fun vs H Q E h => ?_) fun cdv A outer s H vs Q E hroom h => ?_
  · obtain ⟨π, S, ds, Qd, Ed, _, l, h, _⟩ := h
    rw [← l.length]
    exact len ds S Qd Ed h
  · obtain ⟨π, S, ds, Qd, Ed, R, l, h, kq, kx⟩ := h
    have tk : Takes (cxOf (L2.CX P w) P w K mg base N qual (defScope st) f cdv A outer s H E) (LW ⟨⟨K, TT⟩, π, H⟩ (WEx S.length Ed)) :=
      (takes_of rfl rfl rfl rfl).imp fun cls d σ H' q => by
        obtain ⟨π', S', σd, x, R', r, q⟩ := q
        exact gcx_use (Nat.le_of_eq R.len) kx R'.ext R'.sto r q
    refine ⟨_, hb π H (WEx S.length Ed) cdv A outer s H E hroom tk, π, S, startD N.length ds, _, ⟨Ext.refl _ _ _, R, start_rep l⟩, hr ds S Qd Ed h R.clo, ?_, ?_, ?_, ?_⟩
    · intro π' H' S' σd' σ' x R' rs q
      exact gc_use (B := ⟨⟨K, TT⟩, π, H⟩) (Nat.le_of_eq R.len) kq x R' .non q
    · intro π' H' S' d v x R' rs q
      exact gc_use (B := ⟨⟨K, TT⟩, π, H⟩) (Nat.le_of_eq R.len) kq x R' rs q
    · intro π' H' S' σd' σ' x R' rs q
      exact q.elim
    · intro π' H' S' σd' σ' x R' rs q
      exact q.elim
end
end D3
set_option Elab.async false
set_option linter.all false
set_option maxRecDepth 100000
set_option maxHeartbeats 2000000
namespace D3
open PySem PySem.Spec PyProof.Rows L2
def putFD (f : Str) (v : Dv) : List (Str × Dv) → List (Str × Dv)
  | [] => [(f, v)]
  | (g, x) :: r => if g = f then (g, v) :: r else (g, x) :: putFD f v r
section
variable {G : Cf} {π : List Addr} {H : Hp} {f : Str}
theorem RepF.mono {π' : List Addr} {H' : Hp} {fs : List (Str × Dv)} {vs : List (Str × V)} (x : Ext G π H π' H') (r : RepF G π H fs vs) : RepF G π' H' fs vs := paired_imp (fun _ _ q => ⟨q.1, q.2.mono x⟩) r
theorem RepK.mono {π' : List Addr} {H' : Hp} {fs : List (Key × Dv)} {vs : List (Key × V)} (x : Ext G π H π' H') (r : RepK G π H fs vs) : RepK G π' H' fs vs := paired_imp (fun _ _ q => ⟨q.1, q.2.mono x⟩) r
end
def eFld (C : Addr) (t : TEd) (f : Str) : TEd := fun σ S Q => t σ S fun x S1 => ∃ i fs d, x = .obj i ∧ S1[i]? = some (.ins C fs) ∧ fs.lookup f = some d ∧ Q d S1
def sFld (C : Addr) (to tv : TEd) (f : Str) : TSd := fun D σ S => tv σ S fun y S1 => to σ S1 fun x S2 => ∃ i fs, x = .obj i ∧ S2[i]? = some (.ins C fs) ∧ fs.length < 1000 ∧ D.nx σ (S2.set i (.ins C (putFD f y fs)))
def sFldAug (C : Addr) (to tv : TEd) (r : RD2) (f : Str) : TSd := fun D σ S => to σ S fun x S1 => ∃ i fs d, x = .obj i ∧ S1[i]? = some (.ins C fs) ∧ fs.lookup f = some d ∧ tv σ S1 fun y S2 => r d y S2 fun z S3 => ∃ fs', S3[i]? = some (.ins C fs') ∧ fs'.length < 1000 ∧ D.nx σ (S3.set i (.ins C (putFD f z fs')))
/-- an instance of an own class is made, its __init__ raises nothing -/
def eMake (C : Addr) (spd : Spd) (t : TAd) : TEd := fun σ S Q => t σ S fun vs S1 => spd (.obj S1.length :: vs) (S1 ++ [.ins C []]) (fun d S2 => d = .non ∧ Q (.obj S1.length) S2) fun _ _ => False
def eMeth (C : Addr) (m : Str) (spd : Spd) (Wd : WXd) (to : TEd) (t : TAd) : TEd := fun σ S Q => to σ S fun x S1 => ∃ i fs, x = .obj i ∧ S1[i]? = some (.ins C fs) ∧ fs.lookup m = none ∧ t σ S1 fun vs S2 => spd (x :: vs) S2 Q fun e S3 => Wd e σ S3
def dAddA : RD2 := fun x y S Q => match x, y with
  | .int i, .int j => Q (.int (i + j)) S
  | .str i, .str j => i.length + j.length ≤ sizeLine ∧ Q (.str (i ++ j)) S
  | .obj i, .obj j => ∃ xs ys, getL S i = some xs ∧ getL S j = some ys ∧ xs.length + ys.length ≤ sizeLine ∧ Q (.obj i) (S.set i (.lst (xs ++ ys)))
  | _, _ => False
def dSubA : RD2 := fun x y S Q => match x, y with
  | .int i, .int j => Q (.int (i - j)) S
  | _, _ => False
def dMulA : RD2 := fun x y S Q => match x, y with
  | .int i, .int j => CMul i j ∧ Q (.int (i * j)) S
  | _, _ => False
/-- xs[i], before it is written -/
def dGetL : RD2 := fun x y S Q => match x, y with
  | .obj i, .int k => ∃ xs d, getL S i = some xs ∧ atI xs k = some d ∧ Q d S
  | _, _ => False
def sAugS (to ti te : TEd) (rg r : RD2) (rs : RSet) : TSd := fun D σ S => to σ S fun o S1 => ti σ S1 fun i S2 => rg o i S2 fun x S3 => te σ S3 fun y S4 => r x y S4 fun z S5 => rs o i z S5 fun S6 => D.nx σ S6
def sPar3 (i j l : Nat) (t : TAd) : TSd := fun D σ S => t σ S fun vs S1 => ∃ u v w, vs = [u, v, w] ∧ D.nx (((σ.set i (some u)).set j (some v)).set l (some w)) S1
def keyD : Key → Dv
  | .inl i => .int i
  | .inr x => .str x
def dKey : Dv → Option Key
  | .int i => some (.inl i)
  | .str x => some (.inr x)
  | _ => none
def valD (kvs : List (Key × Dv)) (k : Key) : Option Dv := (kvs.find? fun kv => decide (kv.1 = k)).map (·.2)
def putD (kvs : List (Key × Dv)) (k : Key) (v : Dv) : List (Key × Dv) :=
  if (kvs.any fun kv => decide (kv.1 = k)) = true then kvs.map (fun kv => if kv.1 = k then (kv.1, v) else kv) else kvs ++ [(k, v)]
def getK (S : Store) (i : Nat) : Option (List (Key × Dv)) := match S[i]? with
  | some (.dk kvs) => some kvs
  | some (.ldk kvs) => some kvs
  | _ => none
/-- d[k], there -/
def dKGet : RD2 := fun x y S Q => match x with
  | .obj i => ∃ kvs k d, getK S i = some kvs ∧ dKey y = some k ∧ valD kvs k = some d ∧ Q d S
  | _ => False
/-- d[k] = v -/
def dKSet : RSet := fun x y z S Q => match x with
  | .obj i => ∃ kvs k, S[i]? = some (.dk kvs) ∧ dKey y = some k ∧ kvs.length < sizeLine ∧ Q (S.set i (.dk (putD kvs k z)))
  | _ => False
def eKNew : TEd := fun _ S Q => Q (.obj S.length) (S ++ [.dk []])
def eKGet2 (to tk tx : TEd) : TEd := fun σ S Q => to σ S fun x S1 => ∃ i kvs0, x = .obj i ∧ getK S1 i = some kvs0 ∧ tk σ S1 fun y S2 => tx σ S2 fun z S3 => ∃ kvs k, getK S3 i = some kvs ∧ dKey y = some k ∧ Q ((valD kvs k).getD z) S3
def eKGet1 (to tk : TEd) : TEd := fun σ S Q => to σ S fun x S1 => ∃ i kvs0, x = .obj i ∧ getK S1 i = some kvs0 ∧ tk σ S1 fun y S2 => ∃ kvs k, getK S2 i = some kvs ∧ dKey y = some k ∧ Q ((valD kvs k).getD .non) S2
section
variable {X : Cx} {B : Bs} {o i e : Expr} {to ti te : TEd} {pos apos : Pos}
theorem KV'.dk {B : Bs} {π : List Addr} {H : Hp} {S : Store} {Qd : KD} {Q : VK} {ds : List (Key × Dv)} {vs : List (Key × V)} (k : KV' B π H Qd Q) (R : RepS B.G π H S) (r : RepK B.G π H ds vs) (q : Qd (.obj S.length) (S ++ [.dk ds])) {p : Addr} (hp : H p = none) : Q (.ref p) (upd H p (.dK vs)) := by
  have x1 : Ext B.G π H (π ++ [p]) (upd H p (.dK vs)) := ext_adopt (Ext.refl _ _ _) hp
  obtain ⟨R1, x⟩ := step_new R (o := .dK vs) (m := .dk ds) hp ⟨vs, upd_same, RepK.mono x1 r⟩
  exact k _ _ _ (.obj S.length) _ x R1 (.obj (by rw [← R.len, List.getElem?_append_right (Nat.le_refl _), Nat.sub_self]; rfl)) q
end
def tPairsD : List (TEd × TEd) → Sl → Store → (List (Dv × Dv) → Store → Prop) → Prop
  | [], _, S, Q => Q [] S
  | (tk, tv) :: r, σ, S, Q => tk σ S fun x S1 => tv σ S1 fun y S2 => tPairsD r σ S2 fun ps S3 => Q ((x, y) :: ps) S3
def mergeD (kvs more : List (Key × Dv)) : List (Key × Dv) := more.foldl (fun acc kv => putD acc kv.1 kv.2) kvs
/-- the new dict stands behind the store while the pairs are made -/
def eDisp (trs : List (TEd × TEd)) : TEd := fun σ S Q => tPairsD trs σ (S ++ [.dk []]) fun ps S2 => ∃ kvs : List (Key × Dv), ps = kvs.map (fun kv => (keyD kv.1, kv.2)) ∧ S2[S.length]? = some (.dk []) ∧ kvs.length ≤ 15 ∧ Q (.obj S.length) (S2.set S.length (.dk (mergeD [] kvs)))
def sLock (t : TSd) : TSd := fun D σ S => ∃ i kvs, S[i]? = some (.dk kvs) ∧
  t { nx := fun σ' S' => S'[i]? = some (.ldk kvs) ∧ D.nx σ' (S'.set i (.dk kvs)), rt := fun d S' => S'[i]? = some (.ldk kvs) ∧ D.rt d (S'.set i (.dk kvs)), bk := fun σ' S' => S'[i]? = some (.ldk kvs) ∧ D.bk σ' (S'.set i (.dk kvs)), ct := fun σ' S' => S'[i]? = some (.ldk kvs) ∧ D.ct σ' (S'.set i (.dk kvs)) } σ (S.set i (.ldk kvs))
end D3
set_option Elab.async false
set_option linter.all false
set_option maxRecDepth 100000
set_option maxHeartbeats 2000000
namespace D3
open PySem PySem.Spec PyProof.Rows L2
def Ws (n0 : Nat) (R : Store → Prop) : Store → Prop := fun S => R S ∨ ∃ n, n0 ≤ n ∧ StClo (S.take n) ∧ R (S.take n)
def eLc2 (wi : TId) (t : Tg) (tt : TTd) (wi1 : TId) (t1 : Tg) (tt1 : TTd) (te : TEd) (vs vs1 : List Nat) : TEd := fun σ S Q => wi σ S fun J S1 => ∃ Pv : Nat → Store → Prop, Pv 0 (S1 ++ [.lst []]) ∧ (∀ i S, i ≤ J.items.length → Pv i S → J.ok S) ∧
  (∀ (i : Nat) d S, J.items[i]? = some d → Pv i S → t.rd d (wipeD σ vs) S fun σ2 S2 => tt σ2 S2 fun b S3 =>
    if b = true then wi1 σ2 S3 fun J1 S4 => ∃ Pi : Nat → Store → Prop, Pi 0 S4 ∧ (∀ j S, j ≤ J1.items.length → Pi j S → J1.ok S) ∧
      (∀ (j : Nat) d S, J1.items[j]? = some d → Pi j S → t1.rd d (wipeD σ2 vs1) S fun σ3 S5 => tt1 σ3 S5 fun b S6 =>
        if b = true then te σ3 S6 fun y S7 => ∃ acc, S7[S1.length]? = some (.lst acc) ∧ acc.length < sizeLine ∧ Ws S4.length (Pi (j + 1)) (S7.set S1.length (.lst (acc ++ [y]))) else Ws S4.length (Pi (j + 1)) S6) ∧ ∀ S, Pi J1.items.length S → Ws (S1.length + 1) (Pv (i + 1)) S
    else Ws (S1.length + 1) (Pv (i + 1)) S3) ∧ ∀ S, Pv J.items.length S → Q (.obj S1.length) S
theorem ws_use {B : Bs} {π1 π : List Addr} {H1 H : Hp} {S : Store} {R' : Store → Prop} {n0 : Nat} (hn : π1.length ≤ n0) {Q : Prop} (k : ∀ π' S', Ext B.G π1 H1 π' H → RepS B.G π' H S' → R' S' → Q)
    (x : Ext B.G π1 H1 π H) (R : RepS B.G π H S) (q : Ws n0 R' S) : Q := by
  rcases q with q | ⟨n, h1, h3, q⟩
  · exact k π S x R q
  · exact k _ _ (x.drop (Nat.le_trans hn h1)) (R.drop n h3) q
theorem LE_lc2 {B : Bs} (wi : TId) (t : Tg) (tt : TTd) (wi1 : TId) (t1 : Tg) (tt1 : TTd) (te : TEd) (vs vs1 : List Nat) (hv : ∀ i ∈ t.slots, i ∈ vs) (hv1 : ∀ i ∈ t1.slots, i ∈ vs1) :
    ∀ σ H Q, LE B (eLc2 wi t tt wi1 t1 tt1 te vs vs1) σ H Q → tLc2 (LI B wi) (t.rdV B.G.K) (LT B tt) (LI B wi1) (t1.rdV B.G.K) (LT B tt1) (LE B te) vs vs1 σ H Q := by
  rintro σ H Q ⟨π, S, σd, Qd, R, q, k⟩
  refine ⟨π, S, σd, _, R, q, fun π1 H1 S1 J Jd e1 R1 hJ q => ?_⟩
  obtain ⟨Pv, h0, hl, hs, hd⟩ := q
  intro D nD
  obtain ⟨R0, x0⟩ := step_new R1 (o := .lst []) (m := .lst []) nD ⟨[], upd_same, .nil⟩
  have iD : (π1 ++ [D])[S1.length]? = some D := by rw [← R1.len, List.getElem?_append_right (Nat.le_refl _), Nat.sub_self]; rfl
  have lenD : (π1 ++ [D]).length = S1.length + 1 := by rw [List.length_append, R1.len]; rfl
  have rs1 := ((R.slt.mono e1).mono x0).wipe vs
  refine ⟨fun i m H' => i + m = Jd.items.length ∧ ∃ π' S', Ext B.G (π1 ++ [D]) (upd H1 D (.lst [])) π' H' ∧ RepS B.G π' H' S' ∧ Pv i S', ⟨Jd.items.length, Nat.zero_add _, π1 ++ [D], _, Ext.refl _ _ _, R0, h0⟩, ?_⟩
  rintro i m H2 ⟨em, π2, S2, e2, R2, p2⟩
  have ok := hl i S2 (by omega) p2
  obtain ⟨J1, J2⟩ := hJ π2 H2 S2 i (x0.trans e2) R2 ok
  by_cases hi : i < Jd.items.length
  · obtain ⟨J3, J4⟩ := J1 hi
    refine .inr ⟨J3, fun H' => ∃ m', m' < m ∧ i + 1 + m' = Jd.items.length ∧ ∃ π' S', Ext B.G (π1 ++ [D]) (upd H1 D (.lst [])) π' H' ∧ RepS B.G π' H' S' ∧ Pv (i + 1) S', fun H' h => h, fun x H3 hy => ?_⟩
    obtain ⟨R3, e3, d, hd', rx⟩ := J4 x H3 hy
    have e23 := e2.trans e3
    refine t.lift hv R3 rx (rs1.mono e23) (hs i d S2 hd' p2) fun σd4 σ4 ew rs4 q4 => ⟨ew, ?_⟩
    refine ⟨π2, S2, σd4, _, ⟨R.ext.trans (e1.trans (x0.trans e23)), R3, rs4⟩, q4, fun π5 H5 S5 b e5 R5 q5 => ?_⟩
    have e235 := e23.trans e5
    cases b with
    | false =>
      rw [if_neg Bool.false_ne_true] at q5
      refine iteF ?_
      refine ws_use (π1 := π1 ++ [D]) (H1 := upd H1 D (.lst [])) (Nat.le_of_eq lenD) (fun π' S' x R' q => ?_) e235 R5 q5
      exact ⟨m - 1, by omega, by omega, π', S', x, R', q⟩
    | true =>
      rw [if_pos rfl] at q5
      refine iteT ?_
      have rs5 := rs4.mono e5
      refine ⟨π5, S5, σd4, _, ⟨R.ext.trans (e1.trans (x0.trans e235)), R5, rs5⟩, q5, fun π6 H6 S6 K Kd e6 R6 hK q6 => ?_⟩
      have e26 := e235.trans e6
      obtain ⟨Pi, g0, gl, gs, gd⟩ := q6
      have rs6 := (rs5.mono e6).wipe vs1
      refine ⟨fun j k' H' => j + k' = Kd.items.length ∧ ∃ π' S', Ext B.G π6 H6 π' H' ∧ RepS B.G π' H' S' ∧ Pi j S', ⟨Kd.items.length, Nat.zero_add _, π6, S6, Ext.refl _ _ _, R6, g0⟩, ?_⟩
      rintro j k' H7 ⟨ek, π7, S7, e7, R7, p7⟩
      have ok1 := gl j S7 (by omega) p7
      obtain ⟨K1, K2⟩ := hK π7 H7 S7 j e7 R7 ok1
      by_cases hj : j < Kd.items.length
      · obtain ⟨K3, K4⟩ := K1 hj
        refine .inr ⟨K3, fun H' => ∃ m', m' < k' ∧ j + 1 + m' = Kd.items.length ∧ ∃ π' S', Ext B.G π6 H6 π' H' ∧ RepS B.G π' H' S' ∧ Pi (j + 1) S', fun H' h => h, fun x8 H8 hy8 => ?_⟩
        obtain ⟨R8, e8, d8, hd8, rx8⟩ := K4 x8 H8 hy8
        have e78 := e7.trans e8
        refine t1.lift hv1 R8 rx8 (rs6.mono e78) (gs j d8 S7 hd8 p7) fun σd9 σ9 ew9 rs9 q9 => ⟨ew9, ?_⟩
        have ext0 := R.ext.trans (e1.trans (x0.trans (e26.trans e78)))
        refine ⟨π7, S7, σd9, _, ⟨ext0, R8, rs9⟩, q9, fun πa Ha Sa b ea Ra qa => ?_⟩
        have e6a := e78.trans ea
        cases b with
        | false =>
          rw [if_neg Bool.false_ne_true] at qa
          refine iteF ?_
          refine ws_use (π1 := π6) (H1 := H6) (Nat.le_of_eq R6.len) (fun π' S' x R' q => ?_) e6a Ra qa
          exact ⟨k' - 1, by omega, by omega, π', S', x, R', q⟩
        | true =>
          rw [if_pos rfl] at qa
          refine iteT ?_
          refine ⟨πa, Sa, σd9, _, ⟨ext0.trans ea, Ra, rs9.mono ea⟩, qa, fun πb Hb Sb y v eb Rb ry qb => ?_⟩
          obtain ⟨acc, hacc, hlen, qb⟩ := qb
          have e6b := e6a.trans eb
          have ib := (e26.trans e6b).get iD
          obtain ⟨accV, hV, lV⟩ := Rb.at_ _ _ _ hacc ib
          have x9 := ext_write Rb (.lst (accV ++ [v])) ib (fun od u e => by rw [hV] at e; cases e)
          have R9 := step_write (m := .lst (acc ++ [y])) Rb ib ⟨accV ++ [v], upd_same, (lV.append (.one ry)).mono x9⟩
          refine ⟨accV, hV, by rw [← lV.length]; exact hlen, ?_⟩
          refine ws_use (π1 := π6) (H1 := H6) (Nat.le_of_eq R6.len) (fun π' S' x R' q => ?_) (e6b.trans x9) R9 qb
          exact ⟨k' - 1, by omega, by omega, π', S', x, R', q⟩
      · have ej : j = Kd.items.length := by omega
        subst ej
        refine .inl ⟨K2 rfl, ?_⟩
        refine ws_use (π1 := π1 ++ [D]) (H1 := upd H1 D (.lst [])) (Nat.le_of_eq lenD) (fun π' S' x R' q => ?_) (e26.trans e7) R7 (gd S7 p7)
        exact ⟨m - 1, by omega, by omega, π', S', x, R', q⟩
  · have ei : i = Jd.items.length := by omega
    subst ei
    exact .inl ⟨J2 rfl, k _ _ _ _ _ (e1.trans (x0.trans e2)) R2 (.obj (e2.get iD)) (hd S2 p2)⟩
section
variable {X : Cx} {B : Bs}
theorem pLc2 {elt tg iter tg1 iter1 : Expr} {ifs ifs1 : List Expr} {scope : Scope} {own : List (Str × Nat)} {vs1 : List Nat} {pos : Pos} {wi wi1 : TId} {g g1 : Tg} {tt tt1 : TTd} {te : TEd} (hK : B.G.K = X.K := by rfl) (hc : X.calm = true) (hN : X.N.Nodup) (hi : PI X tg iter (LI B wi)) (ok : BlkOk X.N X.env.scope scope own)
    (hv : ∀ i ∈ g.slots, i ∈ own.map (·.2)) (hv1 : ∀ i ∈ g1.slots, i ∈ vs1) (hvv : ∀ i ∈ vs1, i ∈ own.map (·.2))
    (hg : ∀ (s : Shared) (H : Hp) (C : Addr) (cl : List (Str × Addr)) (fp : List Addr), PG (X.blk s H scope (compEnvC scope cl C X.env) fp) tg (g.rdV X.K)) (ht : ∀ (s : Shared) (H : Hp) (C : Addr) (cl : List (Str × Addr)) (fp : List Addr), PTs (X.blk s H scope (compEnvC scope cl C X.env) fp) ifs (LT B tt))
    (hi1 : ∀ (s : Shared) (H : Hp) (C : Addr) (cl : List (Str × Addr)) (fp : List Addr), PI (X.blk s H scope (compEnvC scope cl C X.env) fp) tg1 iter1 (LI B wi1))
    (hg1 : ∀ (s : Shared) (H : Hp) (C : Addr) (cl : List (Str × Addr)) (fp : List Addr), PG (X.blk s H scope (compEnvC scope cl C X.env) fp) tg1 (g1.rdV X.K)) (ht1 : ∀ (s : Shared) (H : Hp) (C : Addr) (cl : List (Str × Addr)) (fp : List Addr), PTs (X.blk s H scope (compEnvC scope cl C X.env) fp) ifs1 (LT B tt1))
    (he : ∀ (s : Shared) (H : Hp) (C : Addr) (cl : List (Str × Addr)) (fp : List Addr), PE (X.blk s H scope (compEnvC scope cl C X.env) fp) elt (LE B te)) (hs : ∀ x, foldedSetIterable iter X.env x = pure x := by intro _; rfl) (hs1 : ∀ env x, foldedSetIterable iter1 env x = pure x := by intro _ _; rfl) :
    PE X (.ListComp elt [⟨tg, iter, ifs, 0⟩, ⟨tg1, iter1, ifs1, 0⟩] scope pos) (LE B (eLc2 wi g tt wi1 g1 tt1 te (own.map (·.2)) vs1)) :=
  PE_imp (pe_lc2 hc hN hi ok hvv hg ht hi1 hg1 ht1 he hs hs1) (by rw [← hK]; exact LE_lc2 wi g tt wi1 g1 tt1 te _ _ hv hv1)
end
end D3
set_option Elab.async false
set_option linter.all false
set_option maxRecDepth 100000
set_option maxHeartbeats 2000000
namespace D3
open PySem PySem.Spec PyProof.Rows L2
end D3
set_option Elab.async false
set_option linter.all false
set_option maxRecDepth 100000
set_option maxHeartbeats 2000000
namespace D3
open PySem PySem.Spec PyProof.Rows L2
def spLaw (n : Nat) : Spd := fun ds S Q E => ∃ (x : Dv) (ns : List Int), ds = [x] ∧ seqOf S x = some (ns.map Dv.int) ∧ ns.length ≤ n ∧ (∀ z ∈ ns, Builtin.Int.intBits z ≤ 1048576) ∧ ∀ S', Q (.bl true) S'
theorem ints_repL {G : Cf} {π : List Addr} {H : Hp} : ∀ ns : List Int, RepL G π H (ns.map Dv.int) (ns.map V.int)
  | [] => .nil
  | n :: r => .cons (.int n) (ints_repL r)
theorem law_sp {K : PySem.W.Frag} {T : List (Addr × Str)} {n : Nat} {H : Hp} {a : Addr} {ns : List Int} (hT : LamX.Tabs T H) (hl : ns.length ≤ n) (hb : ∀ z ∈ ns, Builtin.Int.intBits z ≤ 1048576) (hS : SqL K H a (ns.map V.int)) : LSp ⟨K, T⟩ (spLaw n) [.ref a] H (fun v _ => v = .bl true) fun _ _ _ => False := by
  have fin : ∀ (π : List Addr) (S : Store) (x : Dv), RepS ⟨K, T⟩ π H S → Rep ⟨K, T⟩ π H x (.ref a) → seqOf S x = some (ns.map Dv.int) → LSp ⟨K, T⟩ (spLaw n) [.ref a] H (fun v _ => v = .bl true) fun _ _ _ => False := fun π S x R r e =>
    ⟨π, S, [x], fun d _ => d = .bl true, fun _ _ => False, R, .one r, ⟨x, ns, rfl, e, hl, hb, fun _ => rfl⟩, fun π' H' S' d v x R' rd q => by subst q; exact rd.bl_inv, fun π' H' S' x cls d e R' r q => q⟩
  have R0 : RepS ⟨K, T⟩ [] H [] := ⟨rfl, List.nodup_nil, fun i m a h => by simp at h, hT⟩
  rcases hS with (hS | ⟨o, hS⟩) | ⟨o, its, m, h1, h2, h3, h4, h5, h6⟩
  · have R1 : RepS ⟨K, T⟩ [a] H [.lst (ns.map Dv.int)] := by
      refine ⟨rfl, by simp, fun i m b h1 h2 => ?_, hT⟩
      cases i with
      | zero => cases h1; cases h2; exact ⟨_, hS, ints_repL ns⟩
      | succ i => simp at h1
    exact fin [a] _ (.obj 0) R1 (.obj rfl) rfl
  · exact fin [] [] (.fls (ns.map Dv.int)) R0 (.fls (.inl ⟨o, hS⟩) (ints_repL ns)) rfl
  · exact fin [] [] (.fls (ns.map Dv.int)) R0 (.fls (.inr ⟨o, its, m, h1, h2, h3, h4, h5, h6⟩) (ints_repL ns)) rfl
end D3
set_option Elab.async false
set_option linter.all false
set_option maxRecDepth 100000
set_option maxHeartbeats 4000000
namespace D3S
open PySem PySem.Spec PyProof.Rows L2
/-- the text of an entry -/
def kS (e : Int × Value) : Str := match e.2 with
  | .str x _ => x
  | _ => Str.empty
def Gd (w : World) (e : Int × Value) : Prop := ∃ x tx, e.2 = Value.str x tx ∧ e.1 = hashStr w x
/-- a set of texts at a: L its members as its table has them -/
def TxS (w : World) (h : Heap) (a : Addr) (L : List Str) : Prop :=
  ∃ ob en p tb, h.get? a = some ob ∧ ob.ExactSet ∧ ob.data = .set en p tb ∧ (∀ e ∈ en.toList, Gd w e) ∧ en.toList.map kS = L ∧ L.Nodup ∧
    en.size < scanBound ∧ tb.fits en.size = true ∧ Ris tb.place.toList ∧ (w.params.followText "set-order" = true ∨ tb.led = true)
section
variable {P : Program} {w : World} {h h' : Heap} {a : Addr} {L : List Str}
theorem TxS.at (T : TxS w h a L) (k : ∀ ob, h.get? a = some ob → h'.get? a = some ob) : TxS w h' a L := by
  obtain ⟨ob, en, p, tb, g, rest⟩ := T
  exact ⟨ob, en, p, tb, k ob g, rest⟩
end
section
variable {P : Program} {w : World} {A : Around} {E : Value → Shared → Prop} {s : Shared} {a : Addr} {L : List Str}
/-- what the loop of set(xs) has at turn i -/
def TxI (w : World) (h : Heap) (a : Addr) (xs : List Str) (i : Nat) : Prop := ∃ L, TxS w h a L ∧ L.length ≤ i ∧ ∀ k, k ∈ L ↔ k ∈ xs.take i
theorem TxI.at {h h' : Heap} {xs : List Str} {i : Nat} (T : TxI w h a xs i) (k : ∀ ob, h.get? a = some ob → h'.get? a = some ob) : TxI w h' a xs i := by
  obtain ⟨L, h1, h2⟩ := T
  exact ⟨L, h1.at k, h2⟩
end
end D3S
namespace D3
open PySem PySem.Spec PyProof.Rows L2
end D3
set_option Elab.async false
set_option linter.all false
set_option maxRecDepth 100000
set_option maxHeartbeats 2000000
namespace D3
open PySem PySem.Spec PyProof.Rows L2
section
variable {X : Cx} {B : Bs}
theorem kSortedI (hK : B.G.K = X.K := by rfl) : CallR X (.builtin "sorted") (LC B dSortedI) := by
  refine CallR_imp cr_sortedI ?_
  rintro vs H Q ⟨π, S, ds, Qd, R, l, q, k⟩
  unfold dSortedI at q
  split at q
  · obtain ⟨v, rfl, rx⟩ := l.one_inv
    obtain ⟨es, ns, hs, hi, ⟨i, rfl⟩, q⟩ := q
    obtain ⟨b, e, hp, vs', h1, l'⟩ := R.here (getL_iff.mp (show getL S i = some es from hs)) rx
    cases e
    obtain rfl := ints_rep l' hi
    exact ⟨b, ns, rfl, by rw [← hK]; exact SqL.of h1, fun ns' p hp hs hn => k.lst R (RepL.ints ns') (q ns' hp hs) hn⟩
  · exact q.elim
end
end D3
set_option Elab.async false
set_option linter.all false
set_option maxRecDepth 100000
set_option maxHeartbeats 2000000
namespace D3
open PySem PySem.Spec PyProof.Rows L2
def dSortedK : RDs := fun xs S Q => match xs with
  | [.obj i] => ∃ kvs ks, getK S i = some kvs ∧ kvs.map (·.1) = ks.map Sum.inr ∧ ks.length < 64 ∧ ∀ ys : List Str, ys.Perm ks → sortedS ys = true → Q (.obj S.length) (S ++ [.lst (ys.map Dv.str)])
  | _ => False
/-- for k in d, while d is locked -/
def iKeysD (t : TEd) : TId := fun σ S R => t σ S fun x S1 => ∃ i kvs, x = .obj i ∧ S1[i]? = some (.ldk kvs) ∧ R ⟨kvs.map fun kv => keyD kv.1, fun S' => S'[i]? = some (.ldk kvs)⟩ S1
end D3
set_option Elab.async false
set_option linter.all false
set_option maxRecDepth 100000
set_option maxHeartbeats 2000000
namespace D3
open PySem PySem.Spec PyProof.Rows L2
def dMulT : RD2 := fun x y S Q => match x, y with
  | .tup ds, .int k => ds ≠ [] ∧ 1 ≤ k ∧ k ≤ 1000 ∧ ds.length ≤ 1000 ∧ Q (.tup (List.replicate k.toNat ds).flatten) S
  | _, _ => False
end D3
namespace D3T
open PySem PySem.Spec PyProof.Rows L2
theorem tup_mul1 (l : Addr) (its : Array Value) (n : Nat) (dd : Option Addr) (sl : Array (Option Value)) (u : Tok) :
    Meets (Builtin.«tuple.__mul__» ⟨[.ref l, .int 1 u], []⟩) (fun _ R s => s.heap.get? l = some { cls := .type "tuple", dict := dd, data := .seq its n, slots := sl } ∧ R (.ok (.ret (Value.ref l))) s) :=
  .of_wp fun prog w A R s h => by
    obtain ⟨hp, g, d, tk, os⟩ := s; obtain ⟨hl, h⟩ := h
    have f1 := AutoSeq1.idx_int
    have c0 : (decide ((1 : Int) < -(2 ^ 63)) || decide ((1 : Int) ≥ 2 ^ 63)) = false := by decide
    have c1 : (its.isEmpty || ((1 : Int) == 1)) = true := by simp
    wp_walk using wpAny_loadPart' hl
    repeat (first
      | (refine wpAny_ite_false (decide_eq_false (by rw [c0]; exact Bool.false_ne_true)) ?_; wp_walk using wpAny_loadPart' hl)
      | (refine wpAny_ite_true (decide_eq_true (by rw [c1])) ?_; wp_walk using wpAny_loadPart' hl))
    exact ⟨_, rfl, h⟩
section
variable {X : Cx}
theorem op_mul1 : OpR X (binaryOp .Mult) (fun x y H Q => ∃ l xs, x = .ref l ∧ y = .int 1 ∧ SqT X.K H l xs ∧ Q (.ref l) H) := by
  intro pins s σ H x y v u Q I rx ry h
  obtain ⟨l, xs, rfl, rfl, hT, q⟩ := h
  cases rx
  obtain ⟨t, rfl⟩ := ry
  obtain ⟨its, r, ⟨⟨cls, dd, data, sl⟩, ho, hc, n, hd⟩, hs⟩ := I.tuple hT
  simp only at hc hd; subst hc hd
  exact wpAny_binaryOp_repeat_ref (T := "tuple") (U := "int") (by decide) ⟨_, ho, rfl⟩ (fun s' => typeIs_int s' 1 t) noFill_tuple_mul PySem.F.fills_int_mul PySem.F.slot_int_rmul repeat_tuple PySem.F.slot_int_index.lookup
    (call_meets PySem.F.slot_int_rmul (typeIs_int s 1 t) PySem.F.entry_int_rmul (PySem.F.args_int_rmul_2 _ _) (int_rmul_tuple 1 t l its.toArray n dd sl)
      ⟨ho, rfl, ⟨_, ho, rfl⟩, call_meets PySem.F.slot_tuple_mul ⟨_, ho, rfl⟩ PySem.F.entry_tuple_mul (PySem.F.args_tuple_mul_2 _ _) (tup_mul1 l its.toArray n dd sl t) ⟨ho, .ref l, H, I, rfl, q⟩⟩)
end
end D3T
namespace D3
open PySem PySem.Spec PyProof.Rows L2
section
variable {X : Cx} {B : Bs}
theorem oMulT (hK : B.G.K = X.K := by rfl) : OpR X (binaryOp .Mult) (L2' B dMulT) := by
  refine OpR_imp (OpR.or op_repT D3T.op_mul1) ?_
  rintro v u H Q ⟨π, S, d, e, Qd, R, r1, r2, q, k⟩
  unfold dMulT at q
  split at q
  · rename_i ds kk
    obtain ⟨hne, h1, h2, h3, q⟩ := q
    obtain rfl := r2.int_inv
    obtain ⟨a, xs, rfl, ht, l⟩ := r1.tup_inv
    have hlen := l.length
    by_cases c : kk = 1
    · subst c
      refine .inr ⟨a, xs, rfl, rfl, by rw [← hK]; exact ht.sq, k.here R r1 ?_⟩
      have e : (List.replicate (1 : Int).toNat ds).flatten = ds := by simp
      rw [e] at q
      exact q
    · refine .inl ⟨a, kk, xs, rfl, rfl, by rw [← hK]; exact ht.sq, fun z => hne ?_, by omega, h2, by omega, fun p hp => k.tup R (l.flat _) q hp⟩
      rw [z] at hlen
      exact List.eq_nil_of_length_eq_zero hlen
  · exact q.elim
end
end D3
set_option Elab.async false
set_option linter.all false
set_option maxRecDepth 100000
set_option maxHeartbeats 2000000
namespace D3
open PySem PySem.Spec PyProof.Rows L2
end D3
set_option Elab.async false
set_option linter.all false
set_option maxRecDepth 100000
set_option maxHeartbeats 4000000
namespace D3
open PySem PySem.Spec PyProof.Rows L2 L2.DX
end D3
namespace D3
open PySem PySem.Spec PyProof.Rows L2 L2.DX
end D3
set_option Elab.async false
set_option linter.all false
set_option maxRecDepth 100000
set_option maxHeartbeats 4000000
namespace D3
open PySem PySem.Spec PyProof.Rows L2
section
variable {X : Cx} {B : Bs}
theorem reads_bls {h : Heap} : ∀ {bs : List Bool} {vs : List Value}, Vals (bs.map V.bl) vs → ReadsAll h vs (bs.map PyData.bool) []
  | [], _, r => by cases r; exact .nil
  | b :: bs, _, r => by
    cases r with
    | cons r1 r2 =>
      obtain rfl := (show _ = Value.bool b from r1)
      exact .cons (as := []) (bs := []) (.bool b) (reads_bls r2)
theorem plain_bls : ∀ bs : List Bool, PyData.plainAll (bs.map PyData.bool) = true
  | [] => rfl
  | b :: bs => by
    have ih := plain_bls bs
    simp only [List.map_cons, PyData.plainAll, PyData.plain, ih, Bool.and_self]
theorem depth_bls : ∀ bs : List Bool, PyData.depthAll (bs.map PyData.bool) = 0
  | [] => rfl
  | b :: bs => by
    have ih := depth_bls bs
    simp only [List.map_cons, PyData.depthAll, PyData.depth, ih]
    rfl
theorem count_bls (b : Bool) : ∀ bs : List Bool, ((bs.map PyData.bool).countP fun y => PyData.eqv y (.bool b)) = bs.countP fun c => c == b
  | [] => rfl
  | c :: bs => by
    have ih := count_bls b bs
    rw [List.map_cons, List.countP_cons, List.countP_cons, ih]
    congr 1
def rCountB (K : PySem.W.Frag) : V → List V → Hp → VK → Prop := fun x xs H Q => ∃ (a : Addr) (bs : List Bool) (b : Bool), x = .ref a ∧ xs = [.bl b] ∧ SqL K H a (bs.map V.bl) ∧ Q (.int ((bs.countP fun c => c == b : Nat) : Int)) H
theorem mt_countB (hu : X.A.units + 64 < cLine) : MtR X "list.count" (rCountB X.K) := by
  intro pins s σ H x xs v us Q I rx rxs h
  obtain ⟨a, bs, b, rfl, rfl, hs, q⟩ := h
  cases rx
  cases rxs with
  | cons ry rt =>
    cases rt
    obtain rfl := (show _ = Value.bool b from ry)
    obtain ⟨its, rv, hl, _⟩ := I.list hs
    have r1 : ReadsAll s.heap its.toArray.toList (bs.map PyData.bool) [] := reads_bls rv
    refine PySem.SeqAt.count_list_data hl.isList r1 (.bool b) (plain_bls bs) rfl (by rw [depth_bls]; have : min 0 (PyData.depth (.bool b)) = 0 := Nat.zero_min _; omega) ?_
    rw [count_bls]
    exact ⟨.int _, H, I.tok _, ⟨_, rfl⟩, q⟩
def dCount : Dv → RDs := fun x vs S Q => match x, vs with
  | .obj i, [.bl b] => ∃ ds bs, getL S i = some ds ∧ blsOf ds = some bs ∧ Q (.int ((bs.countP fun c => c == b : Nat) : Int)) S
  | _, _ => False
theorem mCount (hu : X.A.units + 64 < cLine) (hK : B.G.K = X.K := by rfl) : MtR X "list.count" (LM B dCount) := by
  refine MtR_imp (mt_countB hu) ?_
  rintro v vs H Q ⟨π, S, d, ds, Qd, R, r, rs, q, k⟩
  unfold dCount at q
  split at q
  · obtain ⟨xs, bs, g, hb, q⟩ := q
    obtain ⟨a, rfl, i1, zs, h1, l⟩ := R.here (getL_iff.mp g) r
    obtain ⟨u, rfl, ru⟩ := rs.one_inv
    obtain rfl := ru.bl_inv
    have e := bls_rep l hb
    subst e
    exact ⟨a, bs, _, rfl, rfl, SqL.of h1, k.here R (.int _) q⟩
  · exact q.elim
def dIndexB : Dv → RDs := fun x vs S Q => match x, vs with
  | .obj i, [.bl b] => ∃ ds bs, getL S i = some ds ∧ blsOf ds = some bs ∧ ∃ j : Nat, bs[j]? = some b ∧ (∀ m : Nat, m < j → bs[m]? ≠ some b) ∧ Q (.int (j : Int)) S
  | _, _ => False
theorem flat_bls : ∀ bs : List Bool, (bs.map V.bl).all flatV = true
  | [] => rfl
  | _ :: bs => flat_bls bs
theorem mIndexB (hK : B.G.K = X.K := by rfl) : MtR X "list.index" (LM B dIndexB) := by
  refine MtR_imp mt_index ?_
  rintro v vs H Q ⟨π, S, d, ds, Qd, R, r, rs, q, k⟩
  unfold dIndexB at q
  split at q
  · obtain ⟨xs, bs, g, hb, j, hj, hno, q⟩ := q
    obtain ⟨a, rfl, i1, zs, h1, l⟩ := R.here (getL_iff.mp g) r
    obtain ⟨u, rfl, ru⟩ := rs.one_inv
    obtain rfl := ru.bl_inv
    have e := bls_rep l hb
    subst e
    rename_i b
    refine ⟨a, bs.map V.bl, .bl b, j, .bl b, rfl, rfl, SqL.of h1, rfl, flat_bls bs, by rw [List.getElem?_map, hj]; rfl, by cases b <;> rfl, fun m z' hm hz => ?_, k.here R (.int _) q⟩
    rw [List.getElem?_map] at hz
    obtain ⟨c, hc, rfl⟩ := Option.map_eq_some_iff.mp hz
    have := hno m hm
    rw [hc] at this
    cases b <;> cases c <;> first | rfl | exact absurd rfl this
  · exact q.elim
def dIsE (K : PySem.W.Frag) (D a : Addr) : RDs := fun xs S Q => match xs with
  | [.adr b, .adr C] => b = a ∧ ∃ t, PySem.W.kitOne K (.ref D) (.ref C) = some t ∧ Q (.bl t) S
  | [.adr b, .ty n] => b = a ∧ ∃ t, PySem.W.kitOne K (.ref D) (.type n) = some t ∧ Q (.bl t) S
  | _ => False
end
end D3
set_option Elab.async false
set_option linter.all false
set_option maxRecDepth 100000
set_option maxHeartbeats 4000000
namespace D3
open PySem PySem.Spec PyProof.Rows L2
structure FunC (K : PySem.W.Frag) (x qual : Str) (st : Stmt) (f : Addr) (fd : FuncData) (c : Addr) : Prop where
  ex : ∃ (oc : Value) (od : Option Addr) (kV doc pm : Value) (an : Option Addr) (ct : Value) (osl : Array (Option Value)),
    fd = PySem.W.fnOf x qual (defArgs st) (defBody st) (defScope st) .none kV doc pm an (.ref c) ct ∧ K.lookup f = some ⟨oc, od, .func fd, osl⟩ ∧ PySem.W.codeIn K (.ref c) qual = true
section
variable {P : Program} {w : World} {K : PySem.W.Frag} {mg : Str → Option Value} {base : Heap} {k : Nat} {f c : Addr} {fd : FuncData} {ps : List Str} {spd : Spd} {x : Str}
theorem okDc {qual : Str} {st : Stmt} {N : List Str} {TT : List (Addr × Str)} (F : FunC K x qual st f fd c) (S : FnScope N ps (defScope st)) (len : ∀ ds S Q E, spd ds S Q E → ds.length = ps.length) (td : WXd → TSd)
    (hb : ∀ (π0 : List Addr) (H0 : Hp) (Wd : WXd) (A : Around) (outer : List Env) (s : Shared) (H : Hp) (E : XK), Room k (A.deeper (envOfC qual (defScope st) s.heap.objs.size f (.ref c))) → Takes (cxOf (L2.CX P w) P w K mg base N qual (defScope st) f (.ref c) A outer s H E) (LW ⟨⟨K, TT⟩, π0, H0⟩ Wd) →
      PSs (cxOf (L2.CX P w) P w K mg base N qual (defScope st) f (.ref c) A outer s H E) (defBody st) (LS ⟨⟨K, TT⟩, π0, H0⟩ (td Wd)))
    (hr : ∀ ds S Qd Ed, spd ds S Qd Ed → StClo S → td (WEx S.length Ed) { nx := fun _ S' => Gc S.length Qd .non S', rt := Gc S.length Qd } (startD N.length ds) S) :
    FnOk P w K mg base (L2.CX P w) (k + 1) f fd ps (LSp ⟨K, TT⟩ spd) := by
  obtain ⟨oc, od, kV, doc, pm, an, ct, osl, rfl, lk, hcd⟩ := F.ex
  refine fn_of lk hcd S (fun vs H Q E h => ?_) fun A outer s H vs Q E hroom h => ?_
  · obtain ⟨π, S, ds, Qd, Ed, _, l, h, _⟩ := h
    rw [← l.length]
    exact len ds S Qd Ed h
  · obtain ⟨π, S, ds, Qd, Ed, R, l, h, kq, kx⟩ := h
    have tk : Takes (cxOf (L2.CX P w) P w K mg base N qual (defScope st) f (.ref c) A outer s H E) (LW ⟨⟨K, TT⟩, π, H⟩ (WEx S.length Ed)) :=
      (takes_of rfl rfl rfl rfl).imp fun cls d σ H' q => by
        obtain ⟨π', S', σd, x, R', r, q⟩ := q
        exact gcx_use (Nat.le_of_eq R.len) kx R'.ext R'.sto r q
    refine ⟨_, hb π H (WEx S.length Ed) A outer s H E hroom tk, π, S, startD N.length ds, _, ⟨Ext.refl _ _ _, R, start_rep l⟩, hr ds S Qd Ed h R.clo, ?_, ?_, ?_, ?_⟩
    · intro π' H' S' σd' σ' x R' rs q
      exact gc_use (B := ⟨⟨K, TT⟩, π, H⟩) (Nat.le_of_eq R.len) kq x R' .non q
    · intro π' H' S' d v x R' rs q
      exact gc_use (B := ⟨⟨K, TT⟩, π, H⟩) (Nat.le_of_eq R.len) kq x R' rs q
    · intro π' H' S' σd' σ' x R' rs q
      exact q.elim
    · intro π' H' S' σd' σ' x R' rs q
      exact q.elim
end
section
variable {G : Cf} {π : List Addr} {H H1 : Hp} {S : Store}
theorem step_N (R : RepS G π H S) (e : LamX.ExtN H H1) (t : LamX.Tabs G.T H1) : RepS G π H1 S ∧ Ext G π H π H1 := by
  have x : Ext G π H π H1 := by
    refine ⟨⟨[], by simp, fun _ h => by cases h⟩, fun a xs h => ?_, fun a xs h => ?_, fun b o h _ n => e b o h n, fun b nb o h => ?_, fun b od u h => e _ _ h fun ps w => by cases w⟩
    · rcases h with h | h
      · exact .inl (e _ _ h fun ps w => by cases w)
      · exact .inr h
    · rcases h with ⟨_, h⟩ | h
      · exact .inl ⟨_, e _ _ h fun ps w => by cases w⟩
      · exact .inr h
    · exact Classical.byContradiction fun hn => hn (nb o (e b o h fun ps w => hn ⟨ps, w⟩))
  refine ⟨⟨R.len, R.nd, fun i m a h1 h2 => ?_, t⟩, x⟩
  have q := R.at_ i m a h1 h2
  obtain ⟨o, ho, hm⟩ := q.mo
  exact q.mon x.mon ((e _ _ ho fun ps w => by rw [w] at hm; cases hm).trans ho.symm)
theorem extN_of {π' : List Addr} {H' : Hp} (x : Ext G [] H π' H') : LamX.ExtN H H' := fun b o h n => x.frm b o h List.not_mem_nil n
end
def resK (RN : List (Addr × Str)) (x : Exn) (S : Store) (Q : KD) : Prop := x.fs = none ∧ ∃ nm, RN.lookup x.cls = some nm ∧ Q (.tup [.str nm]) S
def eRes (RN : List (Addr × Str)) (te : WXd → TEd) : TEd := fun σ S Q => te (fun x _ S' => resK RN x S' Q) σ S Q
def tL (G : Cf) (te : WXd → TEd) : XK → TE := fun E σ H Q => ∃ π S σd Qd Ed, RepS G π H S ∧ RepSl G π H σd σ ∧ te (fun x _ S' => Ed x S') σd S Qd ∧ KV' ⟨G, π, H⟩ π H Qd Q ∧ XG G π H Ed E
end D3
set_option Elab.async false
set_option linter.all false
set_option maxRecDepth 100000
set_option maxHeartbeats 2000000
namespace D3
open PySem PySem.Spec
theorem gc_drop {S T : Store} {Q : KD} {d : Dv} (h : Q d S) (hd : d.clo S.length = true) (hc : StClo S) : Gc S.length Q d (S ++ T) :=
  .inr ⟨S.length, Nat.le_refl _, hd, by rw [List.take_left]; exact hc, by rw [List.take_left]; exact h⟩
theorem wc_drop {S T : Store} {acc : List Dv} {R : Store → Prop} (h : R S) (hd : Dv.cloL S.length acc = true) (hc : StClo S) : Wc S.length acc R (S ++ T) :=
  .inr ⟨S.length, Nat.le_refl _, hd, by rw [List.take_left]; exact hc, by rw [List.take_left]; exact h⟩
theorem stclo_one {S : Store} {m : Mo} (h : StClo S) (hm : m.clo (S.length + 1) = true) : StClo (S ++ [m]) := fun x hx => by
  rw [List.length_append]
  rcases List.mem_append.mp hx with z | z
  · exact mo_clo_le (Nat.le_add_right _ _) (h x z)
  · rw [List.mem_singleton.mp z]; exact hm
theorem stclo_set {S : Store} {i : Nat} {m : Mo} (h : StClo S) (hm : m.clo S.length = true) : StClo (S.set i m) := fun x hx => by
  rw [List.length_set]
  rcases List.mem_or_eq_of_mem_set hx with z | z
  · exact h x z
  · rw [z]; exact hm
theorem cloL_ints {n : Nat} : ∀ {l : List Int}, Dv.cloL n (l.map Dv.int) = true
  | [] => rfl
  | a :: as => by show (true && Dv.cloL n (as.map Dv.int)) = true; rw [cloL_ints]; rfl
theorem cloL_append {n : Nat} : ∀ {a b : List Dv}, Dv.cloL n a = true → Dv.cloL n b = true → Dv.cloL n (a ++ b) = true
  | [], _, _, h => h
  | d :: ds, b, h, h2 => by
    have h' : (d.clo n && Dv.cloL n ds) = true := h
    rw [Bool.and_eq_true] at h'
    show (d.clo n && Dv.cloL n (ds ++ b)) = true
    rw [h'.1, cloL_append h'.2 h2]; rfl
theorem cloL_map {α : Type} {n : Nat} {f : α → Dv} : ∀ {l : List α}, (∀ a ∈ l, (f a).clo n = true) → Dv.cloL n (l.map f) = true
  | [], _ => rfl
  | a :: l, h => by
    show ((f a).clo n && Dv.cloL n (l.map f)) = true
    rw [h a List.mem_cons_self, cloL_map fun b hb => h b (List.mem_cons_of_mem _ hb)]; rfl
theorem cloL_iff {n : Nat} : ∀ {l : List Dv}, Dv.cloL n l = true ↔ ∀ d ∈ l, d.clo n = true
  | [] => ⟨fun _ d h => (nomatch h), fun _ => rfl⟩
  | a :: l => by
    show (a.clo n && Dv.cloL n l) = true ↔ _
    rw [Bool.and_eq_true, cloL_iff]
    simp
/-- a comprehension over l: what is made of each item is told, nothing is written -/
theorem lc_opt {α : Type} {J : Itd} {t : Tg} {tt : TTd} {te : TEd} {vs : List Nat} {σ : Sl} {S1 : Store} {Q : KD} (l : List α) (F : α → Dv) (g : α → Option Dv) (hJ : J.items = l.map F) (hok : J.ok S1) (hl : l.length < 100000) (hc : StClo S1)
    (hg : ∀ a ∈ l, ∀ y, g a = some y → y.clo S1.length = true)
    (step : ∀ a ∈ l, ∀ (K1 : KD) (K0 : Store → Prop), (∀ y, g a = some y → ∀ T, K1 y (S1 ++ T)) → (g a = none → ∀ T, K0 (S1 ++ T)) → t.rd (F a) (wipeD σ vs) S1 fun σ2 S2 => tt σ2 S2 fun b S3 => if b = true then te σ2 S3 K1 else K0 S3)
    (fin : Q (.obj S1.length) (S1 ++ [.lst (l.filterMap g)])) :
    ∃ Pv : Nat → List Dv → Store → Prop, Pv 0 [] S1 ∧ (∀ i acc S, i ≤ J.items.length → Pv i acc S → J.ok S ∧ acc.length < sizeLine) ∧
      (∀ (i : Nat) d acc S, J.items[i]? = some d → Pv i acc S → t.rd d (wipeD σ vs) S fun σ2 S2 => tt σ2 S2 fun b S3 =>
        if b = true then te σ2 S3 fun y S4 => Wc S1.length (acc ++ [y]) (Pv (i + 1) (acc ++ [y])) S4 else Wc S1.length acc (Pv (i + 1) acc) S3) ∧ ∀ acc S, Pv J.items.length acc S → Q (.obj S.length) (S ++ [.lst acc]) := by
  have hz : (100000 : Nat) ≤ sizeLine := by decide
  have hcl : ∀ i, Dv.cloL S1.length ((l.take i).filterMap g) = true := fun i => cloL_iff.mpr fun d hd => by
    obtain ⟨a, ha, e⟩ := List.mem_filterMap.mp hd
    exact hg a (List.mem_of_mem_take ha) d e
  refine ⟨fun i acc S => S = S1 ∧ acc = (l.take i).filterMap g, ⟨rfl, rfl⟩, ?_, ?_, ?_⟩
  · rintro i acc S hi ⟨rfl, rfl⟩
    refine ⟨hok, ?_⟩
    have := List.length_filterMap_le g (l.take i)
    rw [List.length_take] at this
    omega
  · rintro i d acc S hd ⟨rfl, rfl⟩
    rw [hJ, List.getElem?_map] at hd
    obtain ⟨a, ha, rfl⟩ := Option.map_eq_some_iff.mp hd
    have hm : a ∈ l := List.mem_of_getElem? ha
    have ht : l.take (i + 1) = l.take i ++ [a] := by rw [List.take_add_one, ha]; rfl
    refine step a hm _ (fun S3 => Wc S.length ((l.take i).filterMap g) _ S3) (fun y hy T => wc_drop ⟨rfl, ?_⟩ (cloL_append (hcl i) ?_) hc) (fun hy T => wc_drop ⟨rfl, ?_⟩ (hcl i) hc)
    · rw [ht, List.filterMap_append]; simp [hy]
    · show (y.clo _ && true) = true
      rw [hg a hm y hy]; rfl
    · rw [ht, List.filterMap_append]; simp [hy]
  · rintro acc S ⟨rfl, rfl⟩
    rw [hJ, List.length_map, List.take_length]
    exact fin
theorem lc_map {α : Type} {J : Itd} {t : Tg} {tt : TTd} {te : TEd} {vs : List Nat} {σ : Sl} {S1 : Store} {Q : KD} (l : List α) (F g : α → Dv) (hJ : J.items = l.map F) (hok : J.ok S1) (hl : l.length < 100000) (hc : StClo S1)
    (hg : ∀ a ∈ l, (g a).clo S1.length = true)
    (step : ∀ a ∈ l, ∀ (K1 : KD) (K0 : Store → Prop), (∀ T, K1 (g a) (S1 ++ T)) → t.rd (F a) (wipeD σ vs) S1 fun σ2 S2 => tt σ2 S2 fun b S3 => if b = true then te σ2 S3 K1 else K0 S3)
    (fin : Q (.obj S1.length) (S1 ++ [.lst (l.map g)])) :
    ∃ Pv : Nat → List Dv → Store → Prop, Pv 0 [] S1 ∧ (∀ i acc S, i ≤ J.items.length → Pv i acc S → J.ok S ∧ acc.length < sizeLine) ∧
      (∀ (i : Nat) d acc S, J.items[i]? = some d → Pv i acc S → t.rd d (wipeD σ vs) S fun σ2 S2 => tt σ2 S2 fun b S3 =>
        if b = true then te σ2 S3 fun y S4 => Wc S1.length (acc ++ [y]) (Pv (i + 1) (acc ++ [y])) S4 else Wc S1.length acc (Pv (i + 1) acc) S3) ∧ ∀ acc S, Pv J.items.length acc S → Q (.obj S.length) (S ++ [.lst acc]) := by
  refine lc_opt l F (fun a => some (g a)) hJ hok hl hc (fun a ha y hy => by cases hy; exact hg a ha) (fun a ha K1 K0 h _ => step a ha K1 K0 (h _ rfl)) ?_
  rw [show l.filterMap (fun a => some (g a)) = l.map g from by rw [List.filterMap_eq_map']]
  exact fin
theorem eLc_map {α : Type} {wi : TId} {t : Tg} {tt : TTd} {te : TEd} {vs : List Nat} {σ : Sl} {S S1 : Store} {Q : KD} (J : Itd) (l : List α) (F g : α → Dv) (hw : ∀ R : Itd → Store → Prop, R J S1 → wi σ S R) (hJ : J.items = l.map F) (hok : J.ok S1) (hl : l.length < 100000) (hc : StClo S1)
    (hg : ∀ a ∈ l, (g a).clo S1.length = true)
    (step : ∀ a ∈ l, ∀ (K1 : KD) (K0 : Store → Prop), (∀ T, K1 (g a) (S1 ++ T)) → t.rd (F a) (wipeD σ vs) S1 fun σ2 S2 => tt σ2 S2 fun b S3 => if b = true then te σ2 S3 K1 else K0 S3)
    (fin : Q (.obj S1.length) (S1 ++ [.lst (l.map g)])) : eLc wi t tt te vs σ S Q := hw _ (lc_map l F g hJ hok hl hc hg step fin)
theorem eLc_opt {α : Type} {wi : TId} {t : Tg} {tt : TTd} {te : TEd} {vs : List Nat} {σ : Sl} {S S1 : Store} {Q : KD} (J : Itd) (l : List α) (F : α → Dv) (g : α → Option Dv) (hw : ∀ R : Itd → Store → Prop, R J S1 → wi σ S R) (hJ : J.items = l.map F) (hok : J.ok S1) (hl : l.length < 100000) (hc : StClo S1)
    (hg : ∀ a ∈ l, ∀ y, g a = some y → y.clo S1.length = true)
    (step : ∀ a ∈ l, ∀ (K1 : KD) (K0 : Store → Prop), (∀ y, g a = some y → ∀ T, K1 y (S1 ++ T)) → (g a = none → ∀ T, K0 (S1 ++ T)) → t.rd (F a) (wipeD σ vs) S1 fun σ2 S2 => tt σ2 S2 fun b S3 => if b = true then te σ2 S3 K1 else K0 S3)
    (fin : Q (.obj S1.length) (S1 ++ [.lst (l.filterMap g)])) : eLc wi t tt te vs σ S Q := hw _ (lc_opt l F g hJ hok hl hc hg step fin)
theorem app_nil {S : Store} {K : Store → Prop} (h : ∀ T, K (S ++ T)) : K S := by
  have := h []
  rwa [List.append_nil] at this
theorem blsOf_mapf {α : Type} (f : α → Bool) : ∀ l : List α, blsOf (l.map fun a => .bl (f a)) = some (l.map f)
  | [] => rfl
  | a :: l => by show (blsOf (l.map fun a => .bl (f a))).map (f a :: ·) = _; rw [blsOf_mapf f l]; rfl
def cloSl (n : Nat) (σ : Sl) : Bool := σ.all fun o => match o with
  | none => true
  | some d => d.clo n
theorem fg_refl {n : Nat} : ∀ {σ : Sl}, cloSl n σ = true → Fg n σ σ
  | [], _ => trivial
  | none :: σ, h => by
    refine ⟨?_, fg_refl (σ := σ) (by simpa [cloSl] using h)⟩
    first | trivial | exact .inl rfl
  | some d :: σ, h => by
    have h' : (d.clo n && cloSl n σ) = true := h
    rw [Bool.and_eq_true] at h'
    refine ⟨?_, fg_refl h'.2⟩
    exact .inr ⟨rfl, h'.1⟩
theorem wk_drop {S T : Store} {σ : Sl} {R : Sl → Store → Prop} (h : R σ S) (hσ : cloSl S.length σ = true) (hc : StClo S) : Wk S.length R σ (S ++ T) :=
  .inr ⟨S.length, σ, Nat.le_refl _, fg_refl hσ, by rw [List.take_left]; exact hc, by rw [List.take_left]; exact h⟩
theorem getL_at {S T : Store} {xs : List Dv} : getL (S ++ .lst xs :: T) S.length = some xs := by
  unfold getL
  rw [List.getElem?_append_right (Nat.le_refl _), Nat.sub_self]; rfl
theorem st_get0 {S T : Store} : (S ++ T)[S.length]? = T[0]? := by rw [List.getElem?_append_right (Nat.le_refl _), Nat.sub_self]
theorem st_getk {S T : Store} {k : Nat} : (S ++ T)[S.length + k]? = T[k]? := by rw [List.getElem?_append_right (Nat.le_add_right _ _), Nat.add_sub_cancel_left]
theorem st_set0 {S T : Store} {m : Mo} : (S ++ T).set S.length m = S ++ T.set 0 m := by rw [List.set_append_right _ _ (Nat.le_refl _), Nat.sub_self]
theorem st_setk {S T : Store} {k : Nat} {m : Mo} : (S ++ T).set (S.length + k) m = S ++ T.set k m := by rw [List.set_append_right _ _ (Nat.le_add_right _ _), Nat.add_sub_cancel_left]
theorem st_getL0 {S T : Store} : getL (S ++ T) S.length = getL T 0 := by unfold getL; rw [st_get0]
theorem st_getLk {S T : Store} {k : Nat} : getL (S ++ T) (S.length + k) = getL T k := by unfold getL; rw [st_getk]
theorem getL_c0 {xs : List Dv} {T : Store} : getL (.lst xs :: T) 0 = some xs := rfl
theorem getL_cs {m : Mo} {T : Store} {k : Nat} : getL (m :: T) (k + 1) = getL T k := rfl
theorem seqI {A B : TSd} {D : EndsD} {σ : Sl} {S : Store} (h : A { D with nx := B D } σ S) : sSeq A B D σ S := h
theorem ifI {c : TTd} {A B : TSd} {D : EndsD} {σ : Sl} {S : Store} (h : c σ S fun b S1 => if b = true then A D σ S1 else B D σ S1) : sIf c A B D σ S := h
theorem dNe_int {a b : Int} {S : Store} {Q : KD} : dNe (.int a) (.int b) S Q = Q (.bl (!decide (a = b))) S := rfl
theorem dEq_int {a b : Int} {S : Store} {Q : KD} : dEq (.int a) (.int b) S Q = Q (.bl (decide (a = b))) S := rfl
theorem cast2 : ((2 : Nat) : Int) = 2 := rfl
theorem line0 : (0 ≤ sizeLine) = True := by simp
theorem line1 : (1 ≤ sizeLine) = True := eq_true (by decide)
theorem line2 : (2 ≤ sizeLine) = True := eq_true (by decide)
theorem line3 : (3 ≤ sizeLine) = True := eq_true (by decide)
theorem flatten1 {d : Dv} : ∀ {n : Nat}, (List.replicate n [d]).flatten = List.replicate n d
  | 0 => rfl
  | n + 1 => by rw [List.replicate_succ, List.flatten_cons, flatten1, List.replicate_succ]; rfl
theorem at_lt {α : Type} {l : List α} {i : Nat} {x : α} (h : l[i]? = some x) : i < l.length := (List.getElem?_eq_some_iff.mp h).1
theorem getL_old {S T : Store} {i : Nat} {xs : List Dv} (h : getL S i = some xs) : getL (S ++ T) i = some xs := by
  rw [getL_iff] at h ⊢
  rw [List.getElem?_append_left (at_lt h)]
  exact h
theorem ixN_nat {n k : Nat} (h : k < n) : L2.ixN n (k : Int) = some k := by
  unfold L2.ixN
  rw [if_pos (Int.natCast_nonneg k), if_pos (by omega), Int.toNat_natCast]
theorem atI_nat {α : Type} {l : List α} {i : Nat} {x : α} (h : l[i]? = some x) : L2.atI l (i : Int) = some x := by
  unfold L2.atI
  rw [ixN_nat (at_lt h)]
  exact h
theorem atI_neg1 {α : Type} {l : List α} {x : α} : L2.atI (l ++ [x]) (-1) = some x := by
  unfold L2.atI L2.ixN
  rw [if_neg (by decide), if_pos (by rw [List.length_append]; simp; omega)]
  have e : ((-1 : Int) + ((l ++ [x]).length : Nat)).toNat = l.length := by rw [List.length_append]; simp; omega
  rw [e]
  simp
theorem enum_get {α : Type} {l : List α} {f : α → Dv} {i : Nat} {d : Dv} (h : ((l.map f).zipIdx.map fun p => Dv.tup [.int (p.2 : Nat), p.1])[i]? = some d) : ∃ a, l[i]? = some a ∧ d = .tup [.int (i : Nat), f a] := by
  rw [List.getElem?_map, List.getElem?_zipIdx, List.getElem?_map] at h
  cases e : l[i]? with
  | none => rw [e] at h; simp at h
  | some a => rw [e] at h; simp at h; exact ⟨a, rfl, h.symm⟩
def jEnum (x : Dv) (ds : List Dv) : Itd := ⟨ds.zipIdx.map fun p => .tup [.int (p.2 : Nat), p.1], fun S' => seqOf S' x = some ds⟩
def jSeq (x : Dv) (ds : List Dv) : Itd := ⟨ds, fun S' => seqOf S' x = some ds⟩
def jRg (n : Nat) : Itd := ⟨(List.range n).map fun k : Nat => .int (0 + k), fun _ => True⟩
theorem jRg_get {n i : Nat} {d : Dv} (h : (jRg n).items[i]? = some d) : i < n ∧ d = .int i := by
  have h' : ((List.range n).map fun k : Nat => Dv.int (0 + k))[i]? = some d := h
  rw [List.getElem?_map] at h'
  obtain ⟨k, hk, rfl⟩ := Option.map_eq_some_iff.mp h'
  have hl := at_lt hk
  rw [List.length_range] at hl
  rw [List.getElem?_range hl] at hk
  cases hk
  exact ⟨hl, by rw [Int.zero_add]⟩
theorem jRg_len {n : Nat} : (jRg n).items.length = n := by simp [jRg]
theorem jEnum_get {α : Type} {x : Dv} {l : List α} {f : α → Dv} {i : Nat} {d : Dv} (h : (jEnum x (l.map f)).items[i]? = some d) : ∃ a, l[i]? = some a ∧ d = .tup [.int (i : Nat), f a] := enum_get h
theorem jEnum_len {α : Type} {x : Dv} {l : List α} {f : α → Dv} : (jEnum x (l.map f)).items.length = l.length := by simp [jEnum]
theorem jSeq_get {α : Type} {x : Dv} {l : List α} {f : α → Dv} {i : Nat} {d : Dv} (h : (jSeq x (l.map f)).items[i]? = some d) : ∃ a, l[i]? = some a ∧ d = f a := by
  have h' : (l.map f)[i]? = some d := h
  rw [List.getElem?_map] at h'
  obtain ⟨a, ha, rfl⟩ := Option.map_eq_some_iff.mp h'
  exact ⟨a, ha, rfl⟩
theorem jSeq_len {α : Type} {x : Dv} {l : List α} {f : α → Dv} : (jSeq x (l.map f)).items.length = l.length := by simp [jSeq]
theorem hw_enum {t : TAd} {σ : Sl} {S S1 : Store} {x : Dv} {ds : List Dv} (ht : ∀ R : List Dv → Store → Prop, R [x] S1 → t σ S R) (hs : seqOf S1 x = some ds) : ∀ R : Itd → Store → Prop, R (jEnum x ds) S1 → iEnumD t σ S R := fun R h => ht _ ⟨x, ds, rfl, hs, h⟩
theorem hw_seq {t : TEd} {σ : Sl} {S S1 : Store} {x : Dv} {ds : List Dv} (ht : ∀ R : Dv → Store → Prop, R x S1 → t σ S R) (hs : seqOf S1 x = some ds) : ∀ R : Itd → Store → Prop, R (jSeq x ds) S1 → iSeq t σ S R := fun R h => ht _ ⟨ds, hs, h⟩
theorem hw_rg1 {t : TAd} {σ : Sl} {S S1 : Store} {n : Nat} (ht : ∀ R : List Dv → Store → Prop, R [.int n] S1 → t σ S R) (hn : n < 100000) : ∀ R : Itd → Store → Prop, R (jRg n) S1 → iRg1 t σ S R := fun R h => ht _ ⟨(n : Nat), rfl, by omega, by omega, by rw [Int.toNat_natCast]; exact h⟩
theorem sFor_inv {wi : TId} {g : TGd} {tb : TSd} {D : EndsD} {σ : Sl} {S S1 : Store} (J : Itd) (Pv : Nat → Sl → Store → Prop) (hw : ∀ R : Itd → Store → Prop, R J S1 → wi σ S R) (h0 : Pv 0 σ S1) (hok : ∀ i σ S, i ≤ J.items.length → Pv i σ S → J.ok S)
    (step : ∀ (i : Nat) d σ S, J.items[i]? = some d → Pv i σ S → ∀ K : Sl → Store → Prop, (∀ σ S, Wk S1.length (Pv (i + 1)) σ S → K σ S) → g d σ S fun σ2 S2 => tb { D with nx := K, ct := K, bk := D.nx } σ2 S2) (fin : ∀ σ S, Pv J.items.length σ S → D.nx σ S) : sFor wi g tb D σ S :=
  hw _ ⟨Pv, h0, hok, fun i d σ S hd hP => step i d σ S hd hP _ (fun _ _ h => h), fin⟩
theorem small_line0 {n : Nat} (h : n < 100000) : n < sizeLine := Nat.lt_of_lt_of_le h (by decide)
theorem take_succ0 {α : Type} {l : List α} {i : Nat} {a : α} (ha : l[i]? = some a) : l.take (i + 1) = l.take i ++ [a] := by rw [List.take_add_one, ha]; rfl
theorem for_ex {g : TGd} {tb : TSd} {D : EndsD} {σ : Sl} {S1 : Store} (J : Itd) (Pv : Nat → Sl → Store → Prop) (h0 : Pv 0 σ S1) (hok : ∀ i σ S, i ≤ J.items.length → Pv i σ S → J.ok S)
    (step : ∀ (i : Nat) d σ S, J.items[i]? = some d → Pv i σ S → ∀ K : Sl → Store → Prop, (∀ σ S, Wk S1.length (Pv (i + 1)) σ S → K σ S) → g d σ S fun σ2 S2 => tb { D with nx := K, ct := K, bk := D.nx } σ2 S2) (fin : ∀ σ S, Pv J.items.length σ S → D.nx σ S) :
    ∃ Pv : Nat → Sl → Store → Prop, Pv 0 σ S1 ∧ (∀ i σ S, i ≤ J.items.length → Pv i σ S → J.ok S) ∧
      (∀ (i : Nat) d σ S, J.items[i]? = some d → Pv i σ S → g d σ S fun σ2 S2 => tb { D with nx := Wk S1.length (Pv (i + 1)), ct := Wk S1.length (Pv (i + 1)), bk := D.nx } σ2 S2) ∧ ∀ σ S, Pv J.items.length σ S → D.nx σ S :=
  ⟨Pv, h0, hok, fun i d σ S hd hP => step i d σ S hd hP _ (fun _ _ h => h), fin⟩
/-- a loop over range(n), n one of several -/
theorem sFor_rg {t : TAd} {g : TGd} {tb : TSd} {D : EndsD} {σ : Sl} {S : Store} (P : Nat → Store → Prop) (ht : ∀ R : List Dv → Store → Prop, (∀ (n : Nat) S1, P n S1 → R [.int (n : Nat)] S1) → t σ S R) (hP : ∀ n S1, P n S1 → n < 100000)
    (body : ∀ n S1, P n S1 → ∃ Pv : Nat → Sl → Store → Prop, Pv 0 σ S1 ∧ (∀ i σ S, i ≤ (jRg n).items.length → Pv i σ S → (jRg n).ok S) ∧
      (∀ (i : Nat) d σ S, (jRg n).items[i]? = some d → Pv i σ S → g d σ S fun σ2 S2 => tb { D with nx := Wk S1.length (Pv (i + 1)), ct := Wk S1.length (Pv (i + 1)), bk := D.nx } σ2 S2) ∧ ∀ σ S, Pv (jRg n).items.length σ S → D.nx σ S) : sFor (iRg1 t) g tb D σ S :=
  ht _ fun n S1 hn => ⟨(n : Nat), rfl, by omega, by have := hP n S1 hn; omega, by rw [Int.toNat_natCast]; exact body n S1 hn⟩
theorem eLc_inv {wi : TId} {t : Tg} {tt : TTd} {te : TEd} {vs : List Nat} {σ : Sl} {S S1 : Store} {Q : KD} (J : Itd) (Pv : Nat → List Dv → Store → Prop) (hw : ∀ R : Itd → Store → Prop, R J S1 → wi σ S R) (h0 : Pv 0 [] S1) (hok : ∀ i acc S, i ≤ J.items.length → Pv i acc S → J.ok S ∧ acc.length < sizeLine)
    (step : ∀ (i : Nat) d acc S, J.items[i]? = some d → Pv i acc S → ∀ (K1 : KD) (K0 : Store → Prop), (∀ y S4, Wc S1.length (acc ++ [y]) (Pv (i + 1) (acc ++ [y])) S4 → K1 y S4) → (∀ S4, Wc S1.length acc (Pv (i + 1) acc) S4 → K0 S4) → t.rd d (wipeD σ vs) S fun σ2 S2 => tt σ2 S2 fun b S3 => if b = true then te σ2 S3 K1 else K0 S3)
    (fin : ∀ acc S, Pv J.items.length acc S → Q (.obj S.length) (S ++ [.lst acc])) : eLc wi t tt te vs σ S Q :=
  hw _ ⟨Pv, h0, hok, fun i d acc S hd hP => step i d acc S hd hP _ (fun S => Wc S1.length acc (Pv (i + 1) acc) S) (fun _ _ h => h) (fun _ h => h), fin⟩
theorem yesT {σ : Sl} {S : Store} {A B : Store → Prop} (h : A S) : cYes σ S fun b S => if b = true then A S else B S := by show (if true = true then A S else B S); rw [if_pos rfl]; exact h
/-- two generators over data, nothing written -/
theorem eLc2_map {α β : Type} {wi wi1 : TId} {t t1 : Tg} {te : TEd} {vs vs1 : List Nat} {σ : Sl} {S S1 : Store} {Q : KD} (J : Itd) (l : List α) (F : α → Dv) (J1 : α → Itd) (m : α → List β) (G g : α → β → Dv) (σa : α → Sl) (σb : α → β → Sl)
    (hw : ∀ R : Itd → Store → Prop, R J S1 → wi σ S R) (hJ : J.items = l.map F) (hok : ∀ T, J.ok (S1 ++ T)) (hJ1 : ∀ a ∈ l, (J1 a).items = (m a).map (G a)) (hok1 : ∀ a ∈ l, ∀ T, (J1 a).ok (S1 ++ T)) (hl : (l.flatMap m).length < 100000)
    (h1 : ∀ a ∈ l, ∀ T (K : Sl → Store → Prop), K (σa a) (S1 ++ T) → t.rd (F a) (wipeD σ vs) (S1 ++ T) K) (h2 : ∀ a ∈ l, ∀ T (R : Itd → Store → Prop), R (J1 a) (S1 ++ T) → wi1 (σa a) (S1 ++ T) R)
    (h3 : ∀ a ∈ l, ∀ b ∈ m a, ∀ T (K : Sl → Store → Prop), K (σb a b) (S1 ++ T) → t1.rd (G a b) (wipeD (σa a) vs1) (S1 ++ T) K) (h4 : ∀ a ∈ l, ∀ b ∈ m a, ∀ T (K : KD), K (g a b) (S1 ++ T) → te (σb a b) (S1 ++ T) K)
    (fin : Q (.obj S1.length) (S1 ++ [.lst (l.flatMap fun a => (m a).map (g a))])) : eLc2 wi t cYes wi1 t1 cYes te vs vs1 σ S Q := by
  refine hw _ ⟨fun i S' => S' = S1 ++ [.lst ((l.take i).flatMap fun a => (m a).map (g a))], rfl, fun i S' _ h => by rw [h]; exact hok _, ?_, fun S' h => ?_⟩
  · rintro i d S' hd rfl
    rw [hJ, List.getElem?_map] at hd
    obtain ⟨a, ha, rfl⟩ := Option.map_eq_some_iff.mp hd
    have hm : a ∈ l := List.mem_of_getElem? ha
    refine h1 a hm _ _ ?_
    refine yesT ?_
    refine h2 a hm _ _ ?_
    refine ⟨fun j S' => S' = S1 ++ [.lst (((l.take i).flatMap fun a => (m a).map (g a)) ++ ((m a).take j).map (g a))], by show _ = _; rw [List.take_zero, List.map_nil, List.append_nil], fun j S' _ h => by rw [h]; exact hok1 a hm _, ?_, fun S' h => ?_⟩
    · rintro j d S' hd rfl
      rw [hJ1 a hm, List.getElem?_map] at hd
      obtain ⟨b, hb, rfl⟩ := Option.map_eq_some_iff.mp hd
      have hbm : b ∈ m a := List.mem_of_getElem? hb
      refine h3 a hm b hbm _ _ ?_
      refine yesT ?_
      refine h4 a hm b hbm _ _ ⟨_, st_get0, ?_, .inl ?_⟩
      · refine Nat.lt_of_le_of_lt ?_ (small_line0 hl)
        have e : l = l.take i ++ a :: l.drop (i + 1) := by
          have hi := at_lt ha
          have h2 : l[i] = a := (List.getElem?_eq_some_iff.mp ha).2
          rw [← h2, List.getElem_cons_drop hi, List.take_append_drop]
        have e2 : (l.flatMap m).length = ((l.take i).flatMap m).length + ((m a).length + ((l.drop (i + 1)).flatMap m).length) := by
          conv => lhs; rw [e]
          rw [List.flatMap_append, List.length_append, List.flatMap_cons, List.length_append]
        have e3 : ((l.take i).flatMap fun a => (m a).map (g a)).length = ((l.take i).flatMap m).length := by
          rw [List.length_flatMap, List.length_flatMap]; simp
        have := at_lt hb
        rw [List.length_append, e3, List.length_map, List.length_take, e2]
        omega
      · show _ = _; rw [st_set0, take_succ0 hb, List.map_append, List.append_assoc]; rfl
    · refine .inl ?_
      subst h
      have e1 : (J1 a).items.length = (m a).length := by rw [hJ1 a hm, List.length_map]
      show _ = _
      rw [e1, List.take_length, take_succ0 ha, List.flatMap_append, List.flatMap_cons, List.flatMap_nil, List.append_nil]
  · subst h
    show Q _ (S1 ++ _)
    rw [hJ, List.length_map, List.take_length]
    exact fin
theorem small_line {n : Nat} (h : n < 100000) : n < sizeLine := Nat.lt_of_lt_of_le h (by decide)
theorem find_first {α : Type} {p : α → Bool} {l : List α} {i : Nat} {a : α} (h : ∀ b ∈ l.take i, p b = false) (ha : l[i]? = some a) (hp : p a = true) : l.findIdx? p = some i := by
  rw [List.findIdx?_eq_some_iff_getElem]
  refine ⟨at_lt ha, ?_, fun j hj => ?_⟩
  · rw [(List.getElem?_eq_some_iff.mp ha).2]; exact hp
  · have hl := at_lt ha
    rw [h _ (by rw [List.mem_take_iff_getElem]; exact ⟨j, by omega, rfl⟩)]
    exact Bool.false_ne_true
theorem find_none {α : Type} {p : α → Bool} {l : List α} (h : ∀ b ∈ l, p b = false) : l.findIdx? p = none := by
  rw [List.findIdx?_eq_none_iff]
  exact h
theorem take_succ {α : Type} {l : List α} {i : Nat} {a : α} (ha : l[i]? = some a) : l.take (i + 1) = l.take i ++ [a] := by rw [List.take_add_one, ha]; rfl
end D3
set_option Elab.async false
set_option linter.all false
set_option maxRecDepth 100000
set_option maxHeartbeats 4000000
namespace D3
open PySem PySem.Spec PyProof.Rows L2
theorem tabs_of {T : List (Addr × Str)} {H : Hp} (h : ∀ p ∈ T, H p.1 = some (.tbl #[])) : LamX.Tabs T H := fun p hp => .nil (h p hp)
def OwnT (q : Program) (K : PySem.W.Frag) (mg : Str → Option Value) (h : Heap) : Prop := ∀ (x : Str) (f c P : Addr) (o : Obj) (fd : FuncData) (e : Value) (dd : Option Addr) (vs : Array Value) (sl : Array (Option Value)),
  ((recsOf q).any fun e => e.name == x) = true → mg x = some (.ref f) → K.lookup f = some o → o.data = .func fd → fd.code = .ref c → K.lookup c = some ⟨e, dd, .fields vs, sl⟩ → vs[11]? = some (.ref P) → h.get? P = some { cls := .none, data := .fields #[] }
theorem walk_ofT {l : PySem.W.OpenLaw} {n k : Nat} {q : Program} {loose : List Str} {XP : (Str → Option Value) → Heap → Prop} {YP : World → Heap → Prop} {d : DefRec} {K : Params → PySem.W.Frag} {x : Str}
    (hn : l.most = some n) (hn2 : n ≤ sizeLine) (hdf : d.params.defaults = []) (hr : Room k callerA)
    (hY : ∀ (w : World) (h : Heap), YP w h → (K w.params).In h)
    (F : ∀ (w : World) (mg : Str → Option Value) (fa : Addr) (h : Heap), (K w.params).In h → h.Ns mainGlobals mg → XP mg h → mg d.name = some (.ref fa) → OwnT q (K w.params) mg h →
      ∃ (fd : FuncData) (cs : List (Addr × Addr)) (TT : List (Addr × Str)), (∀ (s : Shared) (u : Value), BindsTo s fd ⟨[u], []⟩ [(x, u)]) ∧
        (∀ p ∈ cs, h.get? p.2 = some { cls := .none, data := .fields #[] }) ∧ (∀ p ∈ cs, (K w.params).lookup p.2 = none) ∧ (∀ p ∈ cs, PySem.W.CodeHd h p.1 p.2) ∧ (∀ p ∈ TT, ∃ r ∈ cs, r.2 = p.1) ∧
        ∀ base : Heap, (K w.params).In base → base.Ns mainGlobals mg → (∀ p ∈ cs, LamX.TabB base mg p.1 p.2) → FnOk l.prog w (K w.params) mg base (L2.CX l.prog w) k fa fd [x] (LSp ⟨K w.params, TT⟩ (spLaw n))) :
    PySem.W.WalkO q loose XP YP l.row.toRowW d [] (fun f vs => PySem.call f vs) := by
  refine Att.attach_callB hn hdf fun w s₀ s₁ mg mb fa o pm cd doc a vs ns G Y ho hd hcd hmg hobj hints hlen hbits hg => ?_
  have KX := hY w _ Y
  have own : OwnT q (K w.params) mg s₁.heap := fun x f c P o1 fd1 e dd vs1 sl k0 k1' k1 k2 k3 k4 k5 => by
    obtain ⟨dL, hm, hn1⟩ := List.any_eq_true.mp k0
    have hn2 : dL.name = x := beq_iff_eq.mp hn1
    obtain ⟨a', o', fd', c', P', h1, h2, h3, h4, h5, h6⟩ := G.T.tab dL hm
    rw [hn2, k1'] at h1
    cases h1
    have g1 := KX _ _ k1
    rw [g1] at h2
    cases h2
    rw [k2] at h3
    cases h3
    rw [k3] at h4
    cases h4
    obtain ⟨⟨oc, vc, e1, _, e3, e4⟩, hP⟩ := h6
    have g2 := KX _ _ k4
    rw [g2] at e1
    cases e1
    cases e3
    rw [k5] at e4
    cases e4
    exact hP
  obtain ⟨fd, cs, TT, hb, hT, nT, C, hTT, hF⟩ := F w mg fa _ KX G.T.g G.X hmg own
  exact LamX.law_callTs KX G.T.g G.T.b G.T.builtins G.T.nolimit hg hT nT C G.T.bmain hobj hints (Nat.le_trans hlen hn2) hr hF hb (fun H hH hS => law_sp (tabs_of fun p hp => by obtain ⟨r, hr, e⟩ := hTT p hp; rw [← e]; exact hH r hr) hlen hbits hS) fun H e s' h => by
    obtain ⟨_, _, _, _, _, _, _, _, _, _, _, _, z⟩ := h
    exact z
end D3
set_option Elab.async false
set_option linter.all false
set_option maxRecDepth 100000
set_option maxHeartbeats 4000000
namespace D3
open PySem PySem.Spec PyProof.Rows L2
theorem isE_adr {K : PySem.W.Frag} {D b C : Addr} {t : Bool} {S : Store} {Q : KD} (h : PySem.W.kitOne K (.ref D) (.ref C) = some t) (q : Q (.bl t) S) : dIsE K D b [.adr b, .adr C] S Q := ⟨rfl, t, h, q⟩
theorem isE_ty {K : PySem.W.Frag} {D b : Addr} {n : String} {t : Bool} {S : Store} {Q : KD} (h : PySem.W.kitOne K (.ref D) (.type n) = some t) (q : Q (.bl t) S) : dIsE K D b [.adr b, .ty n] S Q := ⟨rfl, t, h, q⟩
def nmsL : List Str := ["BadBook", "BadCertificate", "BadCount", "BadRefrain", "BadState", "BadTurns", "RefrainBusy", "TooManyCandidates", "TooManyWords"]
def excB (K : PySem.W.Frag) (D : Addr) : Bool := decide (PySem.W.findIn K (.ref D) "__getattribute__" = some (some (.builtin "BaseException.__getattribute__"))) && (decide (PySem.W.findIn K (.ref D) "__getattr__" = some none) && (decide (PySem.W.subIn K (.ref D) (.type "BaseException") = some true) && (PySem.W.hasDictIn K D &&
  (decide (PySem.W.findIn K (.ref D) "__class__" = some (some (.builtin "object.__class__"))) && (decide (PySem.W.specialIn K (.builtin "object.__class__") "__get__" = some (some (.builtin "getset_descriptor.__get__"))) && (decide (PySem.W.takesIn K (.builtin "object.__class__") = some true) && decide (PySem.W.mroIn K D (.type "object") = some true)))))))
theorem excB_ok {K : PySem.W.Frag} {D : Addr} (h : excB K D = true) : ExcC K D := by
  unfold excB at h
  simp only [Bool.and_eq_true, decide_eq_true_eq] at h
  obtain ⟨h1, h2, h3, h4, h5, h6, h7, h8⟩ := h
  exact ⟨h1, h2, h3, h4, h5, h6, h7, h8⟩
def rowB (K : PySem.W.Frag) (SE D : Addr) (cs : List Addr) : Bool := excB K D && (decide (PySem.W.exmOne K (.ref D) (.ref SE) = some true) && (decide (PySem.W.kitOne K (.ref D) (.type "ValueError") = some true) && cs.all fun C => decide (PySem.W.kitOne K (.ref D) (.ref C) = some (decide (D = C)))))
def rnL (cs : List Addr) : List (Addr × Str) := (cs.zip nmsL).drop 1
theorem rnL_at {cs : List Addr} {D : Addr} {nm : Str} (h : (rnL cs).lookup D = some nm) : ∃ j : Nat, 1 ≤ j ∧ cs[j]? = some D ∧ nmsL[j]? = some nm := by
  have hm : (D, nm) ∈ rnL cs := by
    unfold rnL at h ⊢
    generalize (cs.zip nmsL).drop 1 = l at h ⊢
    induction l with
    | nil => cases h
    | cons p l ih =>
      obtain ⟨a, b⟩ := p
      unfold List.lookup at h
      split at h
      · rename_i heq
        rw [beq_iff_eq] at heq
        cases h
        rw [heq]
        exact List.mem_cons_self
      · exact List.mem_cons_of_mem _ (ih h)
  obtain ⟨j, hj⟩ := List.getElem?_of_mem hm
  unfold rnL at hj
  rw [List.getElem?_drop] at hj
  obtain ⟨h1, h2⟩ := List.getElem?_zip_eq_some.mp hj
  exact ⟨1 + j, by omega, h1, h2⟩
theorem count_one {D : Addr} : ∀ {cs : List Addr}, cs.Nodup → D ∈ cs → ((cs.map fun C => decide (D = C)).countP fun c => c == true) = 1
  | [], _, h => by cases h
  | C :: cs, hn, h => by
    rw [List.nodup_cons] at hn
    rw [List.map_cons, List.countP_cons]
    by_cases c : D = C
    · subst c
      have hz : ((cs.map fun C => decide (D = C)).countP fun c => c == true) = 0 := by
        rw [List.countP_eq_zero]
        intro b hb
        obtain ⟨C, hC, rfl⟩ := List.mem_map.mp hb
        have : D ≠ C := fun w => hn.1 (by rw [w]; exact hC)
        simp [this]
      rw [hz]
      simp
    · have hm : D ∈ cs := by
        rcases List.mem_cons.mp h with w | w
        · exact (c w).elim
        · exact w
      rw [count_one hn.2 hm]
      simp [c]
theorem nodup_ix {α : Type} {l : List α} (h : l.Nodup) {i j : Nat} {a : α} (h1 : l[i]? = some a) (h2 : l[j]? = some a) : i = j := by
  obtain ⟨a1, a2⟩ := List.getElem?_eq_some_iff.mp h1
  exact (List.getElem?_inj a1 h).mp (h1.trans h2.symm)
end D3
local macro_rules | `(tactic| simp! only [$ls,*]) => `(tactic| simp only [D3.sAsg, D3.sNext, D3.sBreak, D3.sCont, D3.sDrop, D3.sRet, D3.sRetN, D3.sPar, D3.sPar3, D3.sAug, D3.sNever, D3.sFld, D3.sFldAug, D3.sAugS, D3.gNm, D3.gsNil, D3.gsCons, D3.gUnp, D3.gSb, D3.eVar, D3.eC, D3.eOp, D3.eUn, D3.eChain, D3.eAnd, D3.eOr, D3.eNot, D3.eIf, D3.eTup, D3.eLst, D3.eArgs, D3.eSl, D3.eBM, D3.aNil, D3.aCons, D3.cVal, D3.cAnd, D3.cOr, D3.cNot, D3.cYes, D3.oNo, D3.oSome, D3.eFld, D3.eMake, D3.eMeth, D3.eCall, D3.eKNew, D3.eKGet1, D3.eKGet2, D3.eDisp, D3.tPairsD, D3.dAdd, D3.dSub, D3.dMul, D3.dDiv, D3.dMod, D3.dPow, D3.dNeg, D3.dCmpI, D3.dIs, D3.dIsNot, D3.isNon, D3.sEq, D3.dIx, D3.dSlice, D3.dLen, D3.dInt, D3.b2i', D3.dAbs, D3.dMax, D3.dMin, D3.dList, D3.dTuple, D3.dSum, D3.dAll, D3.dAny, D3.dOrd, D3.dStrI, D3.dIsi, D3.tyOf, D3.isB, D3.isTy, String.reduceBEq, Bool.or_true, Bool.true_or, Bool.or_false, Bool.false_or, Bool.and_true, Bool.and_false, Bool.false_and, Bool.true_and, D3.dAppend, D3.dPop, D3.dExtend, D3.dSetL, D3.dGetL, D3.dAddA, D3.dSubA, D3.dMulA, D3.dKGet, D3.dKSet, D3.seqOf, D3.tyD, D3.Tg.rd, D3.setsD, D3.wipeD, D3.startD, List.map_cons, List.map_nil, List.length_cons, List.length_nil, List.replicate, List.cons_append, List.nil_append, List.getElem?_cons_zero, List.getElem?_cons_succ, List.set_cons_zero, List.set_cons_succ, Option.some.injEq, exists_eq_left', exists_eq_left, D3.Dv.int.injEq, D3.Dv.bl.injEq, D3.Dv.str.injEq, D3.Dv.tup.injEq, D3.Dv.obj.injEq, D3.Mo.dk.injEq, D3.Mo.lst.injEq, D3.Mo.ldk.injEq, D3.Mo.ins.injEq, exists_eq', exists_eq, List.cons.injEq, and_true, true_and, true_or, or_true, eq_self, decide_true, decide_false, D3.cast2, and_assoc, exists_and_left, exists_and_right, exists_const, exists_eq_right, exists_eq_right_right, Nat.reduceAdd, Nat.reduceSub, Nat.zero_add, List.length_append, D3.st_get0, D3.st_getk, D3.st_set0, D3.st_setk, D3.st_getL0, D3.st_getLk, D3.getL_c0, D3.getL_cs, D3.line0, D3.line1, D3.line2, D3.line3, D3.flatten1, Int.toNat_natCast, Nat.one_mul, List.append_assoc, List.append_nil, Nat.reduceLeDiff, ite_true, ite_false, if_true, if_false, Bool.false_eq_true, Bool.not_true, Bool.not_false, Bool.not_eq_true, and_self, false_and, and_false, D3.dNe_int, D3.dEq_int, $ls,*])
local macro_rules | `(tactic| dsimp! only [$ls,*]) => `(tactic| simp only [D3.sSeq, D3.sAsg, D3.sNext, D3.sBreak, D3.sCont, D3.sDrop, D3.sRet, D3.sRetN, D3.sIf, D3.sPar, D3.sPar3, D3.sAug, D3.sNever, D3.sFld, D3.sFldAug, D3.sAugS, D3.gNm, D3.gsNil, D3.gsCons, D3.gUnp, D3.gSb, D3.eVar, D3.eC, D3.eOp, D3.eUn, D3.eChain, D3.eAnd, D3.eOr, D3.eNot, D3.eIf, D3.eTup, D3.eLst, D3.eArgs, D3.eSl, D3.eBM, D3.aNil, D3.aCons, D3.cVal, D3.cAnd, D3.cOr, D3.cNot, D3.cYes, D3.oNo, D3.oSome, D3.eFld, D3.eMake, D3.eMeth, D3.eCall, D3.eKNew, D3.eKGet1, D3.eKGet2, D3.eDisp, D3.tPairsD, D3.dAdd, D3.dSub, D3.dMul, D3.dDiv, D3.dMod, D3.dPow, D3.dNeg, D3.dCmpI, D3.dIs, D3.dIsNot, D3.isNon, D3.dEq, D3.dNe, D3.sEq, D3.dIx, D3.dSlice, D3.dLen, D3.dInt, D3.b2i', D3.dAbs, D3.dMax, D3.dMin, D3.dList, D3.dTuple, D3.dSum, D3.dAll, D3.dAny, D3.dOrd, D3.dStrI, D3.dIsi, D3.tyOf, D3.isB, D3.isTy, String.reduceBEq, Bool.or_true, Bool.true_or, Bool.or_false, Bool.false_or, Bool.and_true, Bool.and_false, Bool.false_and, Bool.true_and, D3.dAppend, D3.dPop, D3.dExtend, D3.dSetL, D3.dGetL, D3.dAddA, D3.dSubA, D3.dMulA, D3.dKGet, D3.dKSet, D3.seqOf, D3.tyD, D3.Tg.rd, D3.setsD, D3.wipeD, D3.startD, List.map_cons, List.map_nil, List.length_cons, List.length_nil, List.replicate, List.cons_append, List.nil_append, List.getElem?_cons_zero, List.getElem?_cons_succ, List.set_cons_zero, List.set_cons_succ, Option.some.injEq, exists_eq_left', exists_eq_left, D3.Dv.int.injEq, D3.Dv.bl.injEq, D3.Dv.str.injEq, D3.Dv.tup.injEq, D3.Dv.obj.injEq, D3.Mo.dk.injEq, D3.Mo.lst.injEq, D3.Mo.ldk.injEq, D3.Mo.ins.injEq, exists_eq', exists_eq, List.cons.injEq, and_true, true_and, true_or, or_true, eq_self, decide_true, decide_false, D3.cast2, and_assoc, exists_and_left, exists_and_right, exists_const, exists_eq_right, exists_eq_right_right, Nat.reduceAdd, Nat.reduceSub, Nat.zero_add, List.length_append, D3.st_get0, D3.st_getk, D3.st_set0, D3.st_setk, D3.st_getL0, D3.st_getLk, D3.getL_c0, D3.getL_cs, D3.line0, D3.line1, D3.line2, D3.line3, D3.flatten1, Int.toNat_natCast, Nat.one_mul, List.append_assoc, List.append_nil, Nat.reduceLeDiff, ite_true, ite_false, if_true, if_false, Bool.false_eq_true, Bool.not_true, Bool.not_false, Bool.not_eq_true, and_self, false_and, and_false, $ls,*])
set_option Elab.async false
set_option linter.all false
set_option maxRecDepth 100000
set_option maxHeartbeats 4000000
namespace PySem
namespace D4X
open PySem.Spec PySem.W PySem.Calls PyProof.Rows PySem.HandSPX
section
variable {M : Model} {prog : Program} {w : World} {A : Around} {E : Value → Shared → Prop} {R : Result → Shared → Prop} {h : Heap} {g : Array GenState} {d : Drawn} {t : Nat} {os : OsState}
variable {nm q : Str} {C N : Addr} {bs bm bmB : List Value} {hdct : Bool} {sn : List Str} {sub : List Value} {ab : Bool} {col : Option Bool} {dd : Option Addr} {k0 k1 k2 k3 k5 : Option Value} {B newId initId : String} {kw : List (Str × Value)}
theorem kw_check (F : ExcBaseFacts B newId initId bmB) (hT : ∀ X : String, bm.contains (.type X) = bmB.contains (.type X)) {Q : Unit → Shared → Prop}
    (hC : h.get? C = some (excClassObj nm q C N bs bm hdct sn sub ab col dd k0 k1 k2 k3 k5 newId)) (hq : Q () ⟨h, g, d, t, os⟩) : wpAny M A (checkBuiltinCall newId ⟨[.ref C], kw⟩) Q E ⟨h, g, d, t, os⟩ := by
  have yes : (Value.ref C :: bm).contains (.type B) = true := by rw [List.contains_cons, hT, F.hasB, Bool.or_true]
  have star := F.noStar
  simp only [checkBuiltinCall, F.newKind, F.newSplit, F.newRow]
  repeat (first | refine wpAny_loadPart_at hC ?_ | (refine wpAny_isSubtype_exc hC ?_; rw [yes]) | refine wpAny_staticBase_exc hC ?_ | refine wpAny_madeBy_exc hC ?_ | simp only [bne_self_eq_false, Bool.false_eq_true, ite_false] | wp_step)
  exact hq
theorem kw_new (F : ExcBaseFacts B newId initId bmB) (hT : ∀ X : String, bm.contains (.type X) = bmB.contains (.type X))
    (hC : h.get? C = some (excClassObj nm q C N bs bm hdct sn sub ab col dd k0 k1 k2 k3 k5 newId))
    (hq : R (.ok (.ret (.ref (h.objs.size + 1)))) ⟨(h.push (kdv_tup [])).push (excO C h.objs.size), g, d, t, os⟩) : codeAny (model prog w) A (.builtin newId ⟨[.ref C], kw⟩) R ⟨h, g, d, t, os⟩ := by
  have hends := F.ends
  have isB : (Value.ref C :: bm).contains (.type B) = true := by rw [List.contains_cons, hT, F.hasB, Bool.or_true]
  have noA : (Value.ref C :: bm).contains (.type "AttributeError") = false := by rw [List.contains_cons, hT, F.noAttr]; rfl
  have noN : (Value.ref C :: bm).contains (.type "NameError") = false := by rw [List.contains_cons, hT, F.noName]; rfl
  have hrest : ([] : List Value).length ≤ sizeLine := Nat.zero_le _
  refine codeAny_builtinAt F.entry ?_
  unfold Builtin.«BaseException.__new__»
  refine wpAt_bind ?_
  show wpAt _ _ _ (stack >>= _) _ _ _
  refine wpAt_bind (wpAt_stack fun p below => wpAt_of_wpAny ?_)
  wp_walk
  refine wpAt_of_wpAny ?_
  rw [F.owner]
  repeat (first | with_reducible refine wpAny_madeHere_exc F.canon hC ?_ | with_reducible refine wpAny_loadPart_at hC ?_ | (with_reducible refine wpAny_isSubtype_exc hC ?_; first | rw [isB] | rw [noA] | rw [noN]) | wp_step)
  show R _ _
  rw [Heap.size_push]
  exact hq
theorem kw_type_call (F : ExcBaseFacts B newId initId bmB) (hT : ∀ X : String, bm.contains (.type X) = bmB.contains (.type X)) {fI : Addr} {Q : Fin → Shared → Prop}
    (hC : h.get? C = some (excClassObj nm q C N bs bm hdct sn sub ab col dd k0 k1 k2 k3 k5 newId))
    (hi : Looks (model prog w) h (typeLookup (.ref C) "__init__") (some (.ref fI))) (hb : ∀ self, Looks (model prog w) h (bindSpecial (.ref fI) self) (.ref fI, [self]))
    (hq : codeAny (model prog w) A (.call (.ref fI) ⟨[.ref (h.objs.size + 1)], kw⟩) (fun r s' => match r with | .ok (.ret v) => v = .none ∧ Q (.done (.ret (.ref (h.objs.size + 1)))) s' | .ok _ => False | .error e => E e s')
      ⟨(h.push (kdv_tup [])).push (excO C h.objs.size), g, d, t, os⟩) : wpAny (model prog w) A (Builtin.«type.__call__» ⟨[.ref C], kw⟩) Q E ⟨h, g, d, t, os⟩ := by
  repeat (first | with_reducible refine wpAny_loadPart_at hC ?_ | with_reducible refine wpAny_madeBy_exc hC ?_ | wp_step)
  refine codeAny_call_builtin_code (Code.quiet_builtin _ F.quiet) (kw_check F hT hC (kw_new F hT hC ?_))
  show wpAny _ _ _ _ _ _
  have k : ∀ b o, h.get? b = some o → ((h.push (kdv_tup [])).push (excO C h.objs.size)).get? b = some o := fun b o e => Heap.get?_push_of_some _ (Heap.get?_push_of_some _ e)
  have hC1 := k _ _ hC
  have here : ((h.push (kdv_tup [])).push (excO C h.objs.size)).get? (h.objs.size + 1) = some (excO C h.objs.size) := by heap_get
  have own : (Value.ref C :: bm).contains (.ref C) = true := by simp
  have i1 := hi.keeps k
  have b1 := (hb (.ref (h.objs.size + 1))).keeps k
  unfold isInstance
  repeat (first | with_reducible refine wpAny_loadPart_at here ?_ | (with_reducible refine wpAny_isSubtype_exc hC1 ?_; rw [own]) | wp_step)
  show wpAny _ _ (typeLookup (.ref C) _) _ _ _
  refine i1.at ?_
  refine wpAny_holding (wpAny_bind (b1.at ?_))
  refine wpAny_bind (wpAny_call (codeAny_mono hq fun r s' z => ?_))
  rcases r with e | (v | _ | _ | _) <;> first | exact z | exact z.elim | skip
  obtain ⟨rfl, z⟩ := z
  first
    | exact wpAny_pure (wpAny_pure z)
    | (wp_walk; exact z)
theorem kw_call (F : ExcBaseFacts B newId initId bmB) (hT : ∀ X : String, bm.contains (.type X) = bmB.contains (.type X)) {fI : Addr}
    (hC : h.get? C = some (excClassObj nm q C N bs bm hdct sn sub ab col dd k0 k1 k2 k3 k5 newId))
    (hi : Looks (model prog w) h (typeLookup (.ref C) "__init__") (some (.ref fI))) (hb : ∀ self, Looks (model prog w) h (bindSpecial (.ref fI) self) (.ref fI, [self]))
    (hq : codeAny (model prog w) (A.under (.builtin "type.__call__" ⟨[.ref C], kw⟩)) (.call (.ref fI) ⟨[.ref (h.objs.size + 1)], kw⟩) (InitBack (h.objs.size + 1) R) ⟨(h.push (kdv_tup [])).push (excO C h.objs.size), g, d, t, os⟩) :
    codeAny (model prog w) A (.call (.ref C) ⟨[], kw⟩) R ⟨h, g, d, t, os⟩ := by
  have f1 := tc_lookup
  have f2 := tc_bind (.ref C)
  have ty : (⟨h, g, d, t, os⟩ : Shared).TypeIs (.ref C) "type" := ⟨_, hC, rfl⟩
  refine codeAny_of_tree ?_
  show wpAny _ _ (callAny (.ref C) _) _ _ _
  repeat (any_goals (first | assumption | with_reducible refine wpAny_loadPart_at hC ?_ | wp_step))
  refine ⟨rfl, ?_⟩
  refine codeAny_call_builtin_at (Code.quiet_builtin _ (by decide +kernel)) entry_typeCall (wpAny_check_type_call_sub hC (kw_type_call F hT hC hi hb ?_))
  refine codeAny_mono hq fun r s' z => ?_
  rcases r with e | (v | _ | _ | _) <;> exact z
end
end D4X
end PySem
set_option Elab.async false
set_option linter.all false
set_option maxRecDepth 100000
set_option maxHeartbeats 4000000
namespace D3
open PySem PySem.Spec PyProof.Rows L2
structure SgC (K : PySem.W.Frag) (SE : Addr) : Prop where
  rd : PySem.W.readsIn K SE (.type "type") = true
  ga : PySem.W.specialIn K (.ref SE) "__getattribute__" = some (some (.builtin "type.__getattribute__"))
  at_ : PySem.W.findCls K (.ref SE) (.type "type") "__init__" = some (.val (.builtin "ValueError.__init__"))
def sgB (K : PySem.W.Frag) (SE : Addr) : Bool := PySem.W.readsIn K SE (.type "type") && (decide (PySem.W.specialIn K (.ref SE) "__getattribute__" = some (some (.builtin "type.__getattribute__"))) && match PySem.W.findCls K (.ref SE) (.type "type") "__init__" with
  | some (.val (.builtin s)) => decide (s = "ValueError.__init__")
  | _ => false)
theorem sgB_ok {K : PySem.W.Frag} {SE : Addr} (h : sgB K SE = true) : SgC K SE := by
  unfold sgB at h
  rw [Bool.and_eq_true, Bool.and_eq_true, decide_eq_true_eq] at h
  obtain ⟨h1, h2, h3⟩ := h
  refine ⟨h1, h2, ?_⟩
  split at h3
  · rename_i s e
    rw [e, of_decide_eq_true h3]
  · cases h3
section
variable {X : Cx} {SE : Addr} {x : Str} {e : Expr} {es : List Expr} {ta : TA} {p1 p2 pos : Pos}
theorem pe_sgI {pl : Sem Bool} (hg : Gl X x) (hm : X.mg x = some (.ref SE)) (S : SgC X.K SE) (ha : PA X (e :: es) ta)
    (hc : eval (.Call (.Attribute (.Name x p1) "__init__" p2) (e :: es) [] pos) X.env = (do let cv ← eval (.Name x p1) X.env; standAt p2.atName; let (g, l) ← holding [cv] (getMethod cv "__init__" pl); callWith pos g l (backTo pos (starEach (e :: es) X.env)) (backToKw pos (keywordEach [] X.env))) := by rfl)
    (hdb : (x == ("__debug__" : Str)) = false := by decide) (he : starEach (e :: es) X.env = (false, eval e X.env) :: starEach es X.env := by rfl) (hpl : (backTo pos (starEach es X.env)).any (·.1) = false := by rfl) :
    PE X (.Call (.Attribute (.Name x p1) "__init__" p2) (e :: es) [] pos) (tVeI X.K ta) := by
  refine ⟨fun pins s σ H Q I h => ?_⟩
  refine PySem.W.methodCall_KW (ld_glob I hg hm ?_ hdb) hc
  refine PySem.W.method_cls I.kIn S.ga (PySem.W.cls_value I.kIn S.rd S.at_ (by decide +kernel) ?_)
  show wpAny _ _ (callWith pos (Value.builtin "ValueError.__init__") [] (backTo pos (starEach (e :: es) X.env)) []) _ _ _
  refine PyProof.Rows.callWith_method1 (thn (ha.run pos pins _ σ H _ (I.tok _) h) fun us s1 ⟨vs, H1, I1, r1, a, C, ws, ev, hl, T, ea, q⟩ => ?_) he hpl
  subst ev
  cases r1 with
  | @cons _ u0 _ ur ra rw' =>
    obtain rfl : u0 = Value.ref a := ra
    have hlen : ur.length ≤ sizeLine := by
      rw [← Paired.length rw', sizeLine_eq]
      omega
    exact oinit_ok T I1 ea hlen fun s' J => ⟨.non, H1, J, rfl, q⟩
/-- self.f = f, for each of the fields -/
inductive StB (N : List Str) : List (Str × Nat) → List Stmt → Prop
  | nil : StB N [] []
  | cons {f : Str} {i : Nat} {fs : List (Str × Nat)} {ss : List Stmt} {q1 q2 q3 q4 : Pos} (h : N[i]? = some f) (t : StB N fs ss) : StB N ((f, i) :: fs) (.Assign [.Attribute (.Name "self" q1) f q2] (.Name f q3) q4 :: ss)
def tSts (K : PySem.W.Frag) : List (Str × Nat) → TS
  | [] => fun D σ H => D.nx σ H
  | (f, i) :: fs => tSeq (tOst K f (tVar 0) (tVar i)) (tSts K fs)
theorem sts_ps {N : List Str} (hX : X.N = N) (h0 : N[0]? = some ("self" : Str)) (hv0 : Vis X.env.scope ("self" : Str)) : ∀ {fs : List (Str × Nat)} {ss : List Stmt}, StB N fs ss → (∀ p ∈ fs, Vis X.env.scope p.1 ∧ (p.1 == ("__debug__" : Str)) = false ∧ (p.1 == ("__classdict__" : Str)) = false) → PSs X ss (tSts X.K fs)
  | _, _, .nil, _ => ⟨fun pins s σ H D I h => pss_nil.run pins s σ H D I h⟩
  | _, _, .cons h t, hp => by
    obtain ⟨h1, h2, h3⟩ := hp _ List.mem_cons_self
    exact pss_cons (ps_ost (pe_var (by rw [hX]; exact h0) hv0) (pe_var (by rw [hX]; exact h) h1 h2 h3) rfl) (sts_ps hX h0 hv0 t fun p hm => hp p (List.mem_cons_of_mem _ hm))
theorem sts_old {K : PySem.W.Frag} {a C d : Addr} (T : OexC K C) : ∀ {fs : List (Str × Nat)} {ys : List V} {l : List (Str × V)} {σ : L2.St} {H : Hp} {D : Ends}, σ[0]? = some (some (.ref a)) → fs.length = ys.length → (∀ (k : Nat) p y, fs[k]? = some p → ys[k]? = some y → σ[p.2]? = some (some y)) → (∀ p ∈ fs, PySem.W.findIn K (.ref C) p.1 = some none) →
    H a = some (exo a C (some d)) → H d = some (exd d l) → d ≠ a → l.length + fs.length ≤ 900 → (∀ F : Hp, F a = some (exo a C (some d)) → F d = some (exd d (((fs.map (·.1)).zip ys).reverse ++ l)) → (∀ b, b ≠ a → b ≠ d → F b = H b) → D.nx σ F) → tSts K fs D σ H
  | [], ys, l, σ, H, D, _, _, _, _, ha, hd, _, _, h => h H ha hd fun _ _ _ => rfl
  | (f, i) :: fs, [], _, _, _, _, _, hl, _, _, _, _, _, _, _ => by cases hl
  | (f, i) :: fs, y :: ys, l, σ, H, D, h0, hl, hv, hn, ha, hd, hne, hle, h => by
    have hy : σ[i]? = some (some y) := hv 0 (f, i) y rfl rfl
    refine ⟨y, hy, .ref a, h0, a, C, rfl, T, hn _ List.mem_cons_self, .inr ⟨d, l, ha, hd, by simp at hle; omega, ?_⟩⟩
    have ha2 : upd H d (exd d ((f, y) :: l)) a = some (exo a C (some d)) := by rw [upd_ne fun z => hne z.symm]; exact ha
    refine sts_old T (ys := ys) (l := (f, y) :: l) (D := D) h0 (by simpa using hl) (fun k p y e1 e2 => hv (k + 1) p y (by simpa using e1) (by simpa using e2)) (fun p hp => hn p (List.mem_cons_of_mem _ hp)) ha2 upd_same hne (by simp at hle ⊢; omega) fun F f1 f2 f3 => ?_
    refine h F f1 ?_ fun b b1 b2 => ?_
    · rw [f2, List.map_cons, List.zip_cons_cons, List.reverse_cons, List.append_assoc]; rfl
    · rw [f3 b b1 b2, upd_ne b2]
theorem sts_new {K : PySem.W.Frag} {a C : Addr} (T : OexC K C) {f : Str} {i : Nat} {fs : List (Str × Nat)} {y : V} {ys : List V} {σ : L2.St} {H : Hp} {D : Ends} (h0 : σ[0]? = some (some (.ref a))) (hl : fs.length = ys.length) (hy : σ[i]? = some (some y)) (hv : ∀ (k : Nat) p y, fs[k]? = some p → ys[k]? = some y → σ[p.2]? = some (some y))
    (hn : ∀ p ∈ (f, i) :: fs, PySem.W.findIn K (.ref C) p.1 = some none) (ha : H a = some (exo a C none)) (hle : fs.length ≤ 800) (h : ∀ (d : Addr) (F : Hp), H d = none → d ≠ a → F a = some (exo a C (some d)) → F d = some (exd d ((((f, i) :: fs).map (·.1)).zip (y :: ys)).reverse) → (∀ b, b ≠ a → b ≠ d → F b = H b) → D.nx σ F) : tSts K ((f, i) :: fs) D σ H := by
  refine ⟨y, hy, .ref a, h0, a, C, rfl, T, hn _ List.mem_cons_self, .inl ⟨ha, fun d hd hne => ?_⟩⟩
  refine sts_old T (d := d) (ys := ys) (l := [(f, y)]) (D := D) h0 hl hv (fun p hp => hn p (List.mem_cons_of_mem _ hp)) upd_same (by rw [upd_ne hne]; exact upd_same) hne (by simp; omega) fun F f1 f2 f3 => ?_
  refine h d F hd hne f1 ?_ fun b b1 b2 => ?_
  · rw [f2, List.map_cons, List.zip_cons_cons, List.reverse_cons]
  · rw [f3 b b1 b2, upd_ne b1, upd_ne b2]
/-- what __init__ does: n fields -/
def spXI (C : Addr) (ns : List Str) : Sp := fun vs H Q E => ∃ (a : Addr) (ys : List V), vs = .ref a :: ys ∧ ys.length = ns.length ∧ H a = some (exo a C none) ∧
  ∀ (d : Addr) (F : Hp), H d = none → d ≠ a → F a = some (exo a C (some d)) → F d = some (exd d (ns.zip ys).reverse) → (∀ b, b ≠ a → b ≠ d → F b = H b) → Q .non F
end
section
variable {P : Program} {w : World} {K : PySem.W.Frag} {mg : Str → Option Value} {base : Heap} {x qual : Str} {st : Stmt} {f C SE : Addr} {fd : FuncData} {m : Str}
theorem init_ok {n1 : Str} {ns : List Str} {k : Nat} {ss : List Stmt} {p1 p2 p3 p4 p5 p6 : Pos} {j : Nat} (F : Fun K x qual st f fd) (S : FnScope ("self" :: n1 :: ns) ("self" :: n1 :: ns) (defScope st)) (T : OexC K C) (hm : mg "SongError" = some (.ref SE)) (G : SgC K SE)
    (hn : ∀ y ∈ n1 :: ns, PySem.W.findIn K (.ref C) y = some none) (hsg : (defScope st).names.lookup ("SongError" : Str) = some .globalImplicit) (hl : ns.length ≤ 800)
    (hb : defBody st = .Expr (.Call (.Attribute (.Name "SongError" p1) "__init__" p2) [.Name "self" p3, .Constant (.str m) j p4] [] p5) p6 :: ss) (hs : StB ("self" :: n1 :: ns) ((n1 :: ns).zip (List.range' 1 (ns.length + 1))) ss)
    (hv0 : Vis (defScope st) "self")
    (hev : ∀ (L : Addr) (cdv : Value), ∃ pl : Sem Bool, eval (.Call (.Attribute (.Name "SongError" p1) "__init__" p2) [.Name "self" p3, .Constant (.str m) j p4] [] p5) (envOfC qual (defScope st) L f cdv) = (do
      let cv ← eval (.Name "SongError" p1) (envOfC qual (defScope st) L f cdv)
      standAt p2.atName
      let (g, l) ← holding [cv] (getMethod cv "__init__" pl)
      callWith p5 g l (backTo p5 (starEach [.Name "self" p3, .Constant (.str m) j p4] (envOfC qual (defScope st) L f cdv))) (backToKw p5 (keywordEach [] (envOfC qual (defScope st) L f cdv)))))
    (hv : ∀ y ∈ n1 :: ns, Vis (defScope st) y ∧ (y == ("__debug__" : Str)) = false ∧ (y == ("__classdict__" : Str)) = false) :
    FnOk P w K mg base (L2.CX P w) (k + 1) f fd ("self" :: n1 :: ns) (spXI C (n1 :: ns)) := by
  have hzm : ∀ p ∈ (n1 :: ns).zip (List.range' 1 (ns.length + 1)), p.1 ∈ n1 :: ns := fun p hp => (List.of_mem_zip hp).1
  refine F.okX S (fun vs H Q E h => ?_) fun cdv A outer s H vs Q E hroom h => ?_
  · obtain ⟨a, ys, rfl, h1, _⟩ := h
    simp at h1 ⊢
    exact h1
  · obtain ⟨a, ys, rfl, h1, ha, hq⟩ := h
    rw [hb]
    obtain ⟨pl, hpl⟩ := hev s.heap.objs.size cdv
    refine ⟨_, pss_cons (ps_expr (pe_sgI (SE := SE) (pl := pl) (hc := hpl) hsg hm G (pa_cons (pe_var (i := 0) rfl hv0) (pa_cons pe_str pa_nil))) rfl) (sts_ps rfl rfl hv0 hs fun p hp => hv _ (hzm p hp)), ?_⟩
    have hσ : L2.start ("self" :: n1 :: ns) (.ref a :: ys) = some (.ref a) :: ys.map some := by
      unfold L2.start
      rw [List.map_cons]
      have : ("self" :: n1 :: ns : List Str).length - (V.ref a :: ys).length = 0 := by simp at h1 ⊢; omega
      rw [this]
      simp
    rw [hσ]
    cases ys with
    | nil => simp at h1
    | cons y ys =>
      refine ⟨.ref a, rfl, a, C, [.str m], rfl, by simp, T, ha, ?_⟩
      have hys : ys.length = ns.length := by simpa using h1
      have ez : (n1 :: ns).zip (List.range' 1 (ns.length + 1)) = (n1, 1) :: ns.zip (List.range' 2 ns.length) := by rw [List.range'_succ, List.zip_cons_cons]
      have hat : ∀ (k : Nat) (p : Str × Nat), (ns.zip (List.range' 2 ns.length))[k]? = some p → p.2 = 2 + k := fun k p e => by
        obtain ⟨_, e2⟩ := List.getElem?_zip_eq_some.mp e
        have hk := (List.getElem?_eq_some_iff.mp e2).1
        rw [List.length_range'] at hk
        rw [List.getElem?_range' hk] at e2
        have := Option.some.inj e2
        omega
      have em : ((n1, 1) :: ns.zip (List.range' 2 ns.length)).map (·.1) = n1 :: ns := by
        rw [List.map_cons, List.map_fst_zip (Nat.le_of_eq (by rw [List.length_range']))]
      rw [ez]
      refine sts_new T (f := n1) (i := 1) (ys := ys) rfl (by rw [List.length_zip, List.length_range', Nat.min_self]; exact hys.symm) rfl (fun k p z e1 e2 => ?_) (fun p hp => hn _ (hzm p (by rw [ez]; exact hp))) ha (by rw [List.length_zip, List.length_range', Nat.min_self]; exact hl) fun d F hd hne f1 f2 f3 => hq d F hd hne f1 (by rw [f2, em]) f3
      rw [hat k p e1, Nat.add_comm 2 k]
      show (ys.map some)[k]? = _
      rw [List.getElem?_map, e2]; rfl
end
end D3
set_option Elab.async false
set_option linter.all false
set_option maxRecDepth 100000
set_option maxHeartbeats 4000000
namespace D3
open PySem PySem.Spec PyProof.Rows L2
def tMkK (C : Addr) (ns : List Str) (ta : TA) : L2.St → Hp → XK → Prop := fun σ H Q => ta σ H fun ys H1 => ys.length = ns.length ∧ ∀ d, H1 d = none → Q (.ref C) (some d) (upd H1 d (.xd (ns.zip ys).reverse))
section
variable {X : Cx} {C fI : Addr} {k : Nat} {fd : FuncData} {ps ns : List Str} {x : Str} {kws : List Keyword} {ta : TA} {p pos pos' : Pos}
theorem pmk_oexK (T : OexC X.K C) (iC : PySem.W.findIn X.K (.ref C) "__init__" = some (some (.ref fI))) (tI : PySem.W.typeIn X.K (.ref fI) = some (.type "function"))
    (F1 : FnOk X.prog X.w X.K X.mg X.base (L2.CX X.prog X.w) k fI fd ps (spXI C ns)) (hr : Room (k + 1) X.A) (hb : KBn X.K fd ps 1 ns (fun us ws => us ++ ws) (fun us ws => us ++ ws)) (hg : Gl X x) (hm : X.mg x = some (.ref C)) (ha : PK X kws ta)
    (hall : (backToKw pos (keywordEach kws X.env)).all (·.1.isSome) = true := by rfl) (hks : (backToKw pos (keywordEach kws X.env)).filterMap (·.1) = ns := by rfl) (hdb : (x == ("__debug__" : Str)) = false := by decide)
    (hpl : ((backTo pos (starEach [] X.env)).any (·.1) || (backToKw pos (keywordEach kws X.env)).any (·.1.isNone)) = false := by rfl) :
    PMk X (.Call (.Name x p) [] kws pos) (tMkK C ns ta) := by
  intro pins s σ H Q I h
  obtain ⟨nm, q, N, bs, bm, sn, sub, ab, col, dd, k0, k1, k2, k3, k5, hC, hbm⟩ := T.cls
  refine wpAny_Call_Name_kw (ld_glob I hg hm ?_ hdb)
  refine PySem.W.callWith_KW0 (h₀ := X.base) I.ok.mod.kin T.kC hall ?_ hpl
  refine thn (ha.run pos pins s σ H _ I h) fun ws s1 ⟨ys, H1, I1, r1, hl, q1⟩ => ⟨I1.kIn, ?_⟩
  rw [hks]
  obtain ⟨hp, g, dr, tk, os⟩ := s1
  have hsz : hp.objs.size ≤ hp.objs.size + 1 := Nat.le_succ _
  have hn : H1 (hp.objs.size + 1) = none := I1.hok.fresh hsz
  have kk : ∀ b o, hp.get? b = some o → ((hp.push (PySem.W.kdv_tup [])).push (PySem.HandSPX.excO C hp.objs.size)).get? b = some o := fun b o e => Heap.get?_push_of_some _ (Heap.get?_push_of_some _ e)
  have hget : ((hp.push (PySem.W.kdv_tup [])).push (PySem.HandSPX.excO C hp.objs.size)).get? (hp.objs.size + 1) = some (PySem.HandSPX.excO C hp.objs.size) := by heap_get
  have I2 : Inv X pins σ (upd H1 (hp.objs.size + 1) (exo (hp.objs.size + 1) C none)) ⟨(hp.push (PySem.W.kdv_tup [])).push (PySem.HandSPX.excO C hp.objs.size), g, dr, tk, os⟩ :=
    I1.laid (t' := tk) (a := hp.objs.size + 1) (o := exo (hp.objs.size + 1) C none) (h' := (hp.push (PySem.W.kdv_tup [])).push (PySem.HandSPX.excO C hp.objs.size)) kk hsz (exo_ok hget)
  have hsp : spXI C ns (.ref (hp.objs.size + 1) :: ys) (upd H1 (hp.objs.size + 1) (exo (hp.objs.size + 1) C none)) (fun v H2 => v = .non ∧ ∃ (d : Addr) (fs : List (Str × V)), H2 (hp.objs.size + 1) = some (exo (hp.objs.size + 1) C (some d)) ∧ H2 d = some (exd d fs) ∧ H1 d = none ∧ Q (.ref C) (some d) (upd (del H2 (hp.objs.size + 1)) d (.xd fs))) (fun _ _ _ => False) := by
    refine ⟨_, ys, rfl, hl, upd_same, fun d F hd hne f1 f2 f3 => ⟨rfl, d, _, f1, f2, by rw [upd_ne hne] at hd; exact hd, ?_⟩⟩
    have hd1 : H1 d = none := by rw [upd_ne hne] at hd; exact hd
    have e : upd (del F (hp.objs.size + 1)) d (.xd (ns.zip ys).reverse) = upd H1 d (.xd (ns.zip ys).reverse) := by
      funext b
      by_cases c : b = d
      · rw [c, upd_same, upd_same]
      · rw [upd_ne c, upd_ne c]
        by_cases c2 : b = hp.objs.size + 1
        · rw [c2, del_same, hn]
        · rw [del_ne c2, f3 b c2 c, upd_ne c2]
    rw [e]
    exact q1 d hd1
  have l2 : ws.length = ns.length := by rw [← r1.length]; exact hl
  have r2 : Vals (V.ref (hp.objs.size + 1) :: ys) (Value.ref (hp.objs.size + 1) :: ws) := .cons rfl r1
  refine wpAny_call (PySem.D4X.kw_call F.excBase_ValueError (fun Y => PySem.HandSPX.refsVE_contains Y bm hbm) (I1.kIn _ _ hC) (PySem.W.looks_findIn I1.kIn iC) (fun self => PySem.W.bind_fn I1.kIn self tI)
    (codeAny_mono (F1.run _ X.stack _ _ ⟨[Value.ref (hp.objs.size + 1)], ns.zip ws⟩ (Value.ref (hp.objs.size + 1) :: ws) _ _ (fun _ _ _ => False) (hr.make C [] (ns.zip ws)) (I2.env0.make C [] (ns.zip ws)) (hb.to _ [Value.ref (hp.objs.size + 1)] ws I2.kIn rfl l2) r2 hsp) fun r s' hq' => ?_))
  cases r with
  | error er => exact passL pins σ _ _ er s' I2 hq'
  | ok fl =>
    cases fl with
    | ret u =>
      obtain ⟨v, H2, os2, bare2, un2, hok2, rv, ev, d, fs, ea, ed, hd1, q2⟩ := hq'
      subst ev
      obtain ⟨h2, g2, d2, t2, os'⟩ := s'
      exact ⟨rv, mk_end (raises_own T.exC T.tyC) I1 hsz kk un2 hok2 os2 bare2 ea ed hd1 q2⟩
    | next => exact False.elim hq'
    | brk => exact False.elim hq'
    | cont => exact False.elim hq'
end
def sRaiseK (C : Addr) (ns : List Str) (t : TAd) (Wd : WXd) : TSd := fun _ σ S => t σ S fun ds S1 => ds.length = ns.length ∧ Wd ⟨C, some (ns.zip ds).reverse⟩ σ S1
section
variable {X : Cx} {B : Bs} {C fI : Addr} {k : Nat} {fd : FuncData} {ps ns : List Str} {x : Str} {kws : List Keyword} {t : TAd} {e : Expr} {te : TEd} {nm : Option Str} {p pos pos' kpos : Pos}
theorem kNil' : PK X [] (LA B aNil) := ⟨fun pos pins s σ H Q I h => by
  obtain ⟨π, S, σd, Qd, R, h, k⟩ := h
  exact pk_nil.run pos pins s σ H Q I (k π H S [] [] (Ext.refl _ _ _) R.sto .nil h)⟩
theorem kCons' (ha : PE X e (LE B te)) (hr : PK X kws (LA B t)) : PK X (⟨nm, e, kpos⟩ :: kws) (LA B (aCons te t)) := ⟨fun pos pins s σ H Q I h => by
  obtain ⟨π, S, σd, Qd, R, h, k⟩ := h
  refine (pk_cons ha hr).run pos pins s σ H Q I ⟨π, S, σd, _, R, h, fun π1 H1 S1 x v e1 R1 rx q => ?_⟩
  exact ⟨π1, S1, σd, _, R.to e1 R1, q, fun π2 H2 S2 ys us e2 R2 ry q2 => k π2 H2 S2 _ _ (e1.trans e2) R2 (.cons (rx.mono e2) ry) q2⟩⟩
theorem zip_look {G : Cf} {π : List Addr} {H : Hp} {f : Str} {y : Dv} : ∀ {ns : List Str} {ds : List Dv} {vs : List V}, RepL G π H ds vs → Paired (fun p q => p.1 = q.1 ∧ Rep G π H p.2 q.2) (ns.zip ds) (ns.zip vs)
  | [], _, _, _ => by rw [List.zip_nil_left, List.zip_nil_left]; exact .nil
  | n :: ns, _, _, .nil => .nil
  | n :: ns, _, _, .cons h t => by rw [List.zip_cons_cons, List.zip_cons_cons]; exact .cons ⟨rfl, h⟩ (zip_look (f := f) (y := y) t)
theorem paired_app {α β : Type} {F : α → β → Prop} : ∀ {l m : List α} {l' m' : List β}, Paired F l l' → Paired F m m' → Paired F (l ++ m) (l' ++ m')
  | _, _, _, _, .nil, s => s
  | _, _, _, _, .cons h t, s => .cons h (paired_app t s)
theorem paired_rev {α β : Type} {F : α → β → Prop} : ∀ {l : List α} {l' : List β}, Paired F l l' → Paired F l.reverse l'.reverse
  | _, _, .nil => .nil
  | _, _, .cons h t => by rw [List.reverse_cons, List.reverse_cons]; exact paired_app (paired_rev t) (.cons h .nil)
theorem paired_look {G : Cf} {π : List Addr} {H : Hp} {f : Str} {y : Dv} : ∀ {l : List (Str × Dv)} {m : List (Str × V)}, Paired (fun p q => p.1 = q.1 ∧ Rep G π H p.2 q.2) l m → l.lookup f = some y → ∃ v, m.lookup f = some v ∧ Rep G π H y v
  | _, _, .nil, h => by cases h
  | (g, u) :: l, (g', v) :: m, .cons r t, h => by
    obtain ⟨e, r⟩ := r
    have e : g = g' := e
    subst e
    unfold List.lookup at h ⊢
    cases c : f == g with
    | true => rw [c] at h; cases h; exact ⟨v, rfl, r⟩
    | false => rw [c] at h; exact paired_look t h
/-- what an own error with fields needs -/
structure XfOk (K : PySem.W.Frag) (mg : Str → Option Value) (x : Str) (C fI : Addr) : Prop where
  g : mg x = some (.ref C)
  o : OexC K C
  i : PySem.W.findIn K (.ref C) "__init__" = some (some (.ref fI))
  t : PySem.W.typeIn K (.ref fI) = some (.type "function")
theorem sRaiseK' {Wd : WXd} (tk : Takes X (LW B Wd)) (T : XfOk X.K X.mg x C fI) (F1 : FnOk X.prog X.w X.K X.mg X.base (L2.CX X.prog X.w) k fI fd ps (spXI C ns)) (hr : Room (k + 1) X.A) (hb : KBn X.K fd ps 1 ns (fun us ws => us ++ ws) (fun us ws => us ++ ws)) (ha : PK X kws (LA B t)) (hg : Gl X x := by rfl) (hc : X.calm = true := by rfl)
    (hall : (backToKw pos (keywordEach kws X.env)).all (·.1.isSome) = true := by rfl) (hks : (backToKw pos (keywordEach kws X.env)).filterMap (·.1) = ns := by rfl) (hdb : (x == ("__debug__" : Str)) = false := by decide)
    (hpl : ((backTo pos (starEach [] X.env)).any (·.1) || (backToKw pos (keywordEach kws X.env)).any (·.1.isNone)) = false := by rfl) :
    PS X (.Raise (some (.Call (.Name x p) [] kws pos)) none pos') (LS B (sRaiseK C ns t Wd)) := PS_imp (ps_raise hc tk (pmk_oexK T.o T.i T.t F1 hr hb hg T.g ha hall hks hdb hpl)) (by
  rintro D σ H ⟨π, S, σd, Dd, R, q, k⟩
  refine ⟨π, S, σd, _, R, q, fun π1 H1 S1 ds vs e1 R1 l ⟨hl, q1⟩ => ⟨by rw [← l.length]; exact hl, fun d hd => ?_⟩⟩
  have x := step_aside R1 (o := .xd (ns.zip vs).reverse) hd
  refine ⟨π1, S1, σd, ⟨C, some (ns.zip ds).reverse⟩, R.to (e1.trans x.2) x.1, ⟨rfl, d, _, rfl, upd_same, fun f y hy => ?_⟩, q1⟩
  exact paired_look (paired_rev (zip_look (f := f) (y := y) (l.mono x.2))) hy)
end
end D3
set_option Elab.async false
set_option linter.all false
set_option maxRecDepth 100000
set_option maxHeartbeats 4000000
namespace D3
open PySem PySem.Spec PyProof.Rows L2
/-- the error that is held -/
structure Held (B : Bs) (x : Exn) (cls : Value) (d : Option Addr) : Prop where
  r : ExR B.G B.π0 B.H0 x cls d
  n : ∀ dd, d = some dd → dd ∉ B.π0
def hOfF (fs : Option (List (Str × Dv))) (d : Option Addr) (H : Hp) : Prop := (fs = none ∧ d = none) ∨ (fs ≠ none ∧ ∃ dd vs, d = some dd ∧ H dd = some (.xd vs))
def hOf (x : Exn) (d : Option Addr) (H : Hp) : Prop := hOfF x.fs d H
theorem Held.now {B : Bs} {x : Exn} {cls : Value} {d : Option Addr} (h : Held B x cls d) {π : List Addr} {H : Hp} (e : Ext B.G B.π0 B.H0 π H) : hOf x d H := by
  have r := h.r.2
  unfold hOf hOfF
  cases hx : x.fs with
  | none => rw [hx] at r; exact .inl ⟨rfl, r⟩
  | some fs =>
    rw [hx] at r
    obtain ⟨dd, vs, e1, e2, _⟩ := r
    exact .inr ⟨(fun z => by cases z), dd, vs, e1, e.frm _ _ e2 (h.n dd e1) fun ps z => by cases z⟩
section
variable {X : Cx} {B : Bs} {a : Addr} {oe : Obj} {pn : List (Addr × Obj)} {x : Exn} {cls : Value} {d : Option Addr}
def rIsH (K : PySem.W.Frag) (x : Exn) (d : Option Addr) (a : Addr) : List V → Hp → VK → Prop := fun xs H Q => hOf x d H ∧ rIsE K x.cls a xs H Q
theorem call_isH (C : ExcC X.K x.cls) (hz : Zc (.ref x.cls) d oe) (hf : ∃ vs, oe.data = .fields vs) : CallR (X.suite a ((a, oe) :: pn)) (.builtin "isinstance") (rIsH X.K x d a) := by
  intro pins s σ H xs us Q I r h
  obtain ⟨hd, c, cv, b, rfl, hcv, e, q⟩ := h
  cases r with
  | cons rx rr =>
    cases rr with
    | cons rt rr =>
      cases rr
      cases rx
      have ec := hcv _ rt
      subst ec
      obtain ⟨hget, _⟩ := I.pin (a, oe) (List.mem_append.mpr (.inl List.mem_cons_self))
      obtain ⟨vs, hv⟩ := hf
      have J : ∃ od, PySem.W.InstAt s.heap a oe x.cls od := by
        rcases hd with ⟨_, hd⟩ | ⟨_, hd⟩
        · subst hd
          refine ⟨none, ?_⟩
          obtain ⟨oc, od, oda, osl⟩ := oe
          obtain ⟨h1, h2⟩ := hz
          dsimp only at h1 h2 hv
          subst h1 h2 hv
          exact ⟨hget, rfl, rfl, trivial⟩
        · obtain ⟨dd, ws, rfl, hx⟩ := hd
          have ok : ObjOk X.prog X.w H s.heap dd (.xd ws) := I.hok dd _ hx
          obtain ⟨mA, hns, hr⟩ := ok
          obtain ⟨od, ho, hl⟩ := lookIn_ns hns
          exact ⟨some od, hget, hz.1, by unfold PySem.W.notCls; rw [hv] <;> rfl, by rw [hz.2]; exact ho⟩
      obtain ⟨od, J⟩ := J
      obtain ⟨cdD, hcD, _⟩ := PySem.W.any_some C.hd
      exact PySem.W.kia_one (PySem.W.kitx_exc (by rw [hcD]; rfl) C.hg C.hk C.hs C.ha C.hn C.ht C.hm) I.kIn J e (fun z => nomatch z) fun tk => ⟨.bl b, H, I.kept (t' := tk) fun _ _ z => z, rfl, q⟩
theorem pIsH {nm : Str} {p pos : Pos} {e : Expr} {es : List Expr} {t : TAd} (hh : Held B x cls d) (C : ExcC X.K x.cls) (hz : Zc cls d oe) (hf : ∃ vs, oe.data = .fields vs) (hg : Gl (X.suite a ((a, oe) :: pn)) nm) (hm : X.mg nm = none) (hv : bootBuiltins nm = some (.builtin "isinstance"))
    (ha : PA (X.suite a ((a, oe) :: pn)) (e :: es) (LA B t)) (hn : nm ≠ "__name__" := by decide) (hdb : (nm == ("__debug__" : Str)) = false := by decide)
    (he : starEach (e :: es) X.env = (false, eval e X.env) :: starEach es X.env := by rfl) (hpl : (backTo pos (starEach es X.env)).any (·.1) = false := by rfl) : PE (X.suite a ((a, oe) :: pn)) (.Call (.Name nm p) (e :: es) [] pos) (LE B (eArgs (dIsE X.K x.cls a) t)) := by
  have hz' : Zc (.ref x.cls) d oe := by rw [← hh.r.1]; exact hz
  refine PE_imp (pe_callB (call_isH C hz' hf) hg hm hv ha hn hdb he hpl) ?_
  rintro σ H Q ⟨π, S, σd, Qd, R, h, k⟩
  refine ⟨π, S, σd, _, R, h, fun π1 H1 S1 ds vs e1 R1 l q => ⟨hh.now (R.ext.trans e1), ?_⟩⟩
  unfold dIsE at q
  split at q
  · obtain ⟨v, u, rfl, r1, r2⟩ := l.two_inv
    obtain ⟨rfl, t, ht, q⟩ := q
    cases r1
    cases r2
    exact ⟨_, _, t, rfl, fun u hu => hu, ht, k π1 H1 S1 _ _ e1 R1 (.bl _) q⟩
  · obtain ⟨v, u, rfl, r1, r2⟩ := l.two_inv
    obtain ⟨rfl, t, ht, q⟩ := q
    cases r1
    obtain rfl := r2.ty_inv
    exact ⟨_, _, t, rfl, fun u hu => hu, ht, k π1 H1 S1 _ _ e1 R1 (.bl _) q⟩
  · exact q.elim
def eXf (a : Addr) (x : Exn) (f : Str) (te : TEd) : TEd := fun σ S Q => te σ S fun y S1 => y = .adr a ∧ ∃ fs u, x.fs = some fs ∧ fs.lookup f = some u ∧ Q u S1
theorem pXf {e : Expr} {te : TEd} {pos : Pos} {n : Str} (hh : Held B x cls d) (C : ExcC X.K x.cls) (hno : PySem.W.findIn X.K (.ref x.cls) n = some none) (hz : Zc cls d oe) (hf : ∃ vs, oe.data = .fields vs) (he : PE (X.suite a ((a, oe) :: pn)) e (LE B te)) (hb : attributeBase e n X.env (eval e X.env) = eval e X.env := by rfl) :
    PE (X.suite a ((a, oe) :: pn)) (.Attribute e n pos) (LE B (eXf a x n te)) := by
  have C' : XfC X.K x.cls := ⟨C.hg, C.hk, C.hs, C.hd⟩
  refine PE_imp (pe_xf (cls := cls) (d := d) C' hno hz hf he hb) ?_
  rintro σ H Q ⟨π, S, σd, Qd, R, h, k⟩
  refine ⟨π, S, σd, _, R, h, fun π1 H1 S1 y v e1 R1 ry q => ?_⟩
  obtain ⟨rfl, fs, u, hfs, hl, q⟩ := q
  obtain rfl := ry.adr_inv
  obtain ⟨hc, r⟩ := hh.r
  rw [hfs] at r
  obtain ⟨dd, vs, hd, hx, hall⟩ := r
  obtain ⟨w, hw, rw'⟩ := hall n u hl
  have eAll := R.ext.trans e1
  exact ⟨rfl, hc, dd, vs, w, hd, eAll.frm _ _ hx (hh.n dd hd) (fun ps z => by cases z), hw, k π1 H1 S1 _ _ e1 R1 (rw'.mono eAll) q⟩
end
/-- what is told of an error, as a relation -/
abbrev Tell := Exn → Dv → Prop
structure TellOk (RR : Tell) : Prop where
  d : ∀ x d, RR x d → d.clo 0 = true
  f : ∀ x d fs, RR x d → x.fs = some fs → ∀ p ∈ fs, p.2.clo 0 = true
def resT (RR : Tell) (x : Exn) (S : Store) (Q : KD) : Prop := ∃ d, RR x d ∧ Q d S
def eResT (RR : Tell) (te : WXd → TEd) : TEd := fun σ S Q => te (fun x _ S' => resT RR x S' Q) σ S Q
def EchT (G : Cf) (RR : Tell) (Q : VK) : XK := fun cls dd H' => ∃ x d, ExR G [] H' x cls dd ∧ RR x d ∧ LamX.Tabs G.T H' ∧ ∀ π'' H'' S'' v, Ext G [] H' π'' H'' → RepS G π'' H'' S'' → Rep G π'' H'' d v → Q v H''
def TResT (G : Cf) (RR : Tell) : (XK → Hp → VK → Prop) → Hp → VK → Prop := fun tl H Q => tl (EchT G RR Q) H Q
theorem rep_to {G : Cf} {π π'' : List Addr} {H' : Hp} {d : Dv} {v : V} (hd : d.clo 0 = true) (r : Rep G π'' H' d v) : Rep G π H' d v := by
  have r0 : Rep G [] H' d v := by
    have := Rep.drop 0 r hd
    rw [List.take_zero] at this
    exact this
  exact r0.mon ⟨fun i a h => by simp at h, fun _ _ h => h, fun _ _ h => h⟩
section
variable {X : Cx} {B : Bs} {RR : Tell} {te : WXd → TEd} {x a e n q : Str} {g c P SE : Addr} {k i : Nat} {st : Stmt} {fd : FuncData} {Ng : List Str} {params : Arguments} {body : Expr} {scope sg : Scope} {cdg : Value} {p lpos pos p1 p2 p3 p4 p5 p6 : Pos} {G : Cf}
theorem pResT (TO : TellOk RR) (F : Fun X.K x x st g fd) (hb : Binds X.K fd [a] []) (Sg : FnScope Ng [a] (defScope st)) (hg : Gl X x) (hm : X.mg x = some (.ref g)) (hNg : Ng[0]? = some a) (hva : Vis (defScope st) a)
    (hG : ∀ cdg, LamX.GivesTo X Ng x (defScope st) g cdg (defBody st) a (X.env.qual ++ "<lambda>") (TResT B.G RR))
    (TB : LamX.TabB X.base X.mg c P) (hcode : X.env.code = .ref c) (hmT : (P, X.env.qual ++ "<lambda>") ∈ B.G.T) (hu : ∀ p ∈ B.G.T, p.1 = P → p.2 = X.env.qual ++ "<lambda>") (hr : Room (k + 2) X.A) (L : LamX.LamS X.env.scope scope)
    (hbody : ∀ (π0 : List Addr) (H0 : Hp) (Wd : WXd) (A : Around) (outer : List Env) (s : Shared) (H : Hp) (E : XK) (f c' : Addr), Room k (A.deeper (LamX.lamEnv X scope s.heap.objs.size f c')) → Takes (LamX.lamCx X A outer s H E scope f c') (LW ⟨B.G, π0, H0⟩ Wd) →
      PE (LamX.lamCx X A outer s H E scope f c') body (LE ⟨B.G, π0, H0⟩ (te Wd)))
    (hdef : defaultsOf params X.env = ([], []) := by rfl)
    (hbind : ∀ (q : Str) (cl : List (Str × Addr)) (pm cv ctv : Value), bindArgs (PySem.W.kla_fn "<lambda>" q params body scope cl pm cv ctv) ⟨[], []⟩ = pure [] := by intros; rfl)
    (hdb : (x == ("__debug__" : Str)) = false := by decide) (hd : (a == ("__debug__" : Str)) = false := by decide) (hcd : (a == ("__classdict__" : Str)) = false := by decide) :
    PE X (.Call (.Name x p) [.Lambda params body scope lpos] [] pos) (LE B (eResT RR te)) := by
  obtain ⟨oc, od, kV, doc, pm, an, cdv, ct, osl, rfl, lk, hcd'⟩ := F.ex
  refine PE_imp (LamX.pe_lamcall (T := B.G.T) (TT := TResT B.G RR) (t := tL B.G te) (k := k) hg hm F.kp lk hcd' hb Sg hNg hva (hG cdv) TB hcode hmT hu hr L hdef hbind (fun A outer s H E f c' hr2 => ?_) hdb hd hcd) ?_
  · refine ⟨fun pins s' σ H' Q I h => ?_⟩
    obtain ⟨π, S, σd, Qd, Ed, R, rs, h, kq, kx⟩ := h
    have tk : Takes (LamX.lamCx X A outer s H E scope f c') (LW ⟨B.G, π, H'⟩ fun x _ S' => Ed x S') :=
      (takes_of rfl rfl rfl rfl).imp fun cls d σ' H'' q => by
        obtain ⟨π', S', σd', x, R', r, q⟩ := q
        exact kx π' H'' S' x cls d R'.ext R'.sto r q
    exact (hbody π H' _ A outer s H E f c' hr2 tk).run pins s' σ H' Q I ⟨π, S, σd, Qd, ⟨Ext.refl _ _ _, R, rs⟩, h, kq⟩
  · rintro σ H Q ⟨π, S, σd, Qd, R, h, k⟩
    refine ⟨R.sto.tab, fun H1 eN T1 => ?_⟩
    obtain ⟨R1, x1⟩ := step_N R.sto eN T1
    refine ⟨π, S, σd, Qd, fun x S' => resT RR x S' Qd, R1, R.slt.mono x1, h, k.to x1, ?_⟩
    intro π' H' S' x cls dd e R' r q
    obtain ⟨d, hr, q⟩ := q
    have hx : ExR B.G [] H' x cls dd := by
      obtain ⟨r1, r2⟩ := r
      refine ⟨r1, ?_⟩
      split at r2
      · exact r2
      · rename_i fs hfs
        obtain ⟨d1, vs, e1, e2, e3⟩ := r2
        exact ⟨d1, vs, e1, e2, fun f y hy => by
          obtain ⟨v, q1, q2⟩ := e3 f y hy
          exact ⟨v, q1, rep_to (TO.f x d fs hr hfs _ (lookup_mem hy)) q2⟩⟩
    refine ⟨x, d, hx, hr, R'.tab, fun π'' H'' S'' v e2 R2 rv => ?_⟩
    obtain ⟨R3, x3⟩ := step_N R' (extN_of e2) R2.tab
    exact k π' H'' S' _ v (x1.trans (e.trans x3)) R3 (rep_to (TO.d x d hr) rv) q
/-- the def that calls what it got, and tells what is raised -/
theorem res_givesT {OK : Addr → Prop} {b₀ : Stmt} {suite : List Stmt} {tres : Exn → Addr → TSd} (hge : sg.names.lookup e = some .globalImplicit) (hme : X.mg e = some (.ref SE)) (hN : Ng.Nodup) (hi : Ng[i]? = some n) (hln : ∀ L : Addr, (envOfC x sg L g cdg).kindOf n = some .local)
    (hRN : ∀ x d, RR x d → OK x.cls ∧ PySem.W.exmOne X.K (.ref x.cls) (.ref SE) = some true)
    (hread : ∀ x d b, RR x d → tres x b { nx := fun _ _ => False, rt := fun d' _ => d' = d } ((List.replicate Ng.length none).set i (some (.adr b))) [])
    (hsu : ∀ (s : Shared) (H : Hp) (b : Addr) (y : Exn) (cls : Value) (dd : Option Addr) (oe : Obj) (pn : List (Addr × Obj)) (H0 : Hp), Held ⟨G, [], H0⟩ y cls dd → Zc cls dd oe → (∃ vs, oe.data = .fields vs) → OK y.cls → PSs ((cxOf C8.CX0 X.prog X.w X.K X.mg X.base Ng x sg g cdg X.A X.stack s H C8.E0).nox.suite b ((b, oe) :: pn)) (b₀ :: suite) (LS ⟨G, [], H0⟩ (tres y b)))
    (hde : (e == ("__debug__" : Str)) = false := by decide) (h0 : ∀ f : Addr, (L2.start Ng [V.ref f])[0]? = some (some (V.ref f)) := by intro f; rfl) :
    LamX.GivesTo X Ng x sg g cdg [.Try [.Return (some (.Call (.Name a p1) [] [] p2)) p3] [.ExceptHandler (some (.Name e p4)) (some n) (b₀ :: suite) p5] [] [] p6] a q (TResT G RR) := by
  intro f c' s H Q tl act hc h
  have hgl : Gl (cxOf C8.CX0 X.prog X.w X.K X.mg X.base Ng x sg g cdg X.A X.stack s H C8.E0).nox e := hge
  refine ⟨_, pss_one (ps_try_as (X := (cxOf C8.CX0 X.prog X.w X.K X.mg X.base Ng x sg g cdg X.A X.stack s H C8.E0).nox) (c := .ref SE) (i := i) (n := n)
      (tb := fun W D σ H => ∃ Ech : XK, (∀ cls d σ' H', Ech cls d H' → W cls d σ' H') ∧ σ[0]? = some (some (.ref f)) ∧ H c' = some (LamX.CodeO c' q) ∧ tl Ech H D.rt)
      (ts := fun b cls dd D σ H => ∃ (σ0 : L2.St) (y : Exn) (d : Dv), σ = σ0.set i (some (.ref b)) ∧ ExR G [] H y cls dd ∧ RR y d ∧ LamX.Tabs G.T H ∧ ∀ π'' H'' S'' v, Ext G [] H π'' H'' → RepS G π'' H'' S'' → Rep G π'' H'' d v → D.rt v H'')
      rfl rfl hN hi (hln _) ⟨hgl, hde, .inl hme⟩ LamX.takes0 (fun W pn xe tk _ => ?_) (fun b oe cls d pn hz hf => ?_)), ?_⟩
  · refine ⟨fun pins s' σ H' D I h' => ?_⟩
    obtain ⟨Ech, hW, h1, h2, h3⟩ := h'
    have hp := act W pn xe Ech p1 p2 tk hW
    have hq := pss_one (ps_ret (pos := p3) hp)
    exact hq.run pins s' σ H' D I ⟨h1, h2, h3⟩
  · refine ⟨fun pins s' σ H' D I h' => ?_⟩
    obtain ⟨σ0, y, dr, rfl, hx, hr, hT, hk⟩ := h'
    have hlen : (σ0.set i (some (V.ref b))).length = Ng.length := I.len
    have hh : Held ⟨G, [], H'⟩ y cls d := ⟨hx, fun dd _ => List.not_mem_nil⟩
    refine (hsu s H b y cls d oe pn H' hh hz hf (hRN y dr hr).1).run pins s' _ H' D I ⟨[], [], (List.replicate Ng.length none).set i (some (.adr b)), _, ⟨Ext.refl _ _ _, ⟨rfl, List.nodup_nil, fun i m a h => by simp at h, hT⟩, ⟨by rw [hlen, List.length_set, List.length_replicate], fun j d hj => ?_⟩⟩, hread y dr b hr, ?_, ?_, ?_, ?_⟩
    · by_cases hij : j = i
      · subst hij
        have hil : j < (List.replicate Ng.length (none : Option Dv)).length := by rw [List.length_replicate]; exact (List.getElem?_eq_some_iff.mp hi).1
        rw [List.getElem?_set_self hil] at hj
        cases hj
        refine ⟨_, List.getElem?_set_self ?_, .adr b⟩
        rw [List.length_set] at hlen
        rw [hlen]
        exact (List.getElem?_eq_some_iff.mp hi).1
      · rw [List.getElem?_set_ne (fun w => hij w.symm), List.getElem?_replicate] at hj
        split at hj <;> cases hj
    · intro π' H'' S' σd' σ' x R' rs q
      exact q.elim
    · intro π' H'' S' d' v x R' r q
      have q : d' = dr := q
      subst q
      exact hk π' H'' S' v x R' r
    · intro π' H'' S' σd' σ' x R' rs q
      exact q.elim
    · intro π' H'' S' σd' σ' x R' rs q
      exact q.elim
  · refine ⟨EchT G RR Q, fun cls dd σ' H' hE => ?_, h0 f, hc, h⟩
    obtain ⟨y, d, hx, hr, hT, hk⟩ := hE
    refine ⟨true, ?_, fun _ b _ => ⟨σ', y, d, rfl, hx, hr, hT, hk⟩, fun w => by cases w⟩
    rw [hx.1]
    exact (hRN y d hr).2
end
end D3
set_option Elab.async false
set_option linter.all false
set_option maxRecDepth 100000
set_option maxHeartbeats 4000000
namespace D3
open PySem PySem.Spec PyProof.Rows L2
abbrev bbF (r v : Int) : List (Str × Dv) := [("verse", .int v), ("refrain", .int r)]
def tResB (K : PySem.W.Frag) (C_BadBook C_BadCertificate C_BadCount C_BadRefrain C_BadState C_BadTurns C_RefrainBusy C_TooManyCandidates C_TooManyWords : Addr) (x : Exn) (b : Addr) : TSd :=
    (sSeq (sAsg (eLst (aCons (eArgs (dIsE K x.cls b) (aCons (eVar 1) (aCons (eC (.adr C_BadBook)) aNil))) (aCons (eArgs (dIsE K x.cls b) (aCons (eVar 1) (aCons (eC (.adr C_BadCertificate)) aNil))) (aCons (eArgs (dIsE K x.cls b) (aCons (eVar 1) (aCons (eC (.adr C_BadCount)) aNil))) aNil)))) (gNm 2))
    (sSeq (sAsg (eOp dAdd (eVar 2) (eLst (aCons (eArgs (dIsE K x.cls b) (aCons (eVar 1) (aCons (eC (.adr C_BadRefrain)) aNil))) (aCons (eArgs (dIsE K x.cls b) (aCons (eVar 1) (aCons (eC (.adr C_BadState)) aNil))) (aCons (eArgs (dIsE K x.cls b) (aCons (eVar 1) (aCons (eC (.adr C_BadTurns)) aNil))) aNil))))) (gNm 2))
    (sSeq (sAsg (eOp dAdd (eVar 2) (eLst (aCons (eArgs (dIsE K x.cls b) (aCons (eVar 1) (aCons (eC (.adr C_RefrainBusy)) aNil))) (aCons (eArgs (dIsE K x.cls b) (aCons (eVar 1) (aCons (eC (.adr C_TooManyCandidates)) aNil))) (aCons (eArgs (dIsE K x.cls b) (aCons (eVar 1) (aCons (eC (.adr C_TooManyWords)) aNil))) aNil))))) (gNm 2))
    (sSeq (sIf (cOr (cVal (eOp dNe (eBM "list" dCount (eVar 2) (aCons (eC (.bl true)) aNil)) (eC (.int 1)))) (cNot (cVal (eArgs (dIsE K x.cls b) (aCons (eVar 1) (aCons (eC (.ty "ValueError")) aNil)))))) (sRet (eTup (aCons (eC (.str "other")) (aCons (eC (.int 0)) aNil)))) sNext)
    (sSeq (sAsg (eOp dIx (eLst (aCons (eC (.str "BadBook")) (aCons (eC (.str "BadCertificate")) (aCons (eC (.str "BadCount")) (aCons (eC (.str "BadRefrain")) (aCons (eC (.str "BadState")) (aCons (eC (.str "BadTurns")) (aCons (eC (.str "RefrainBusy")) (aCons (eC (.str "TooManyCandidates")) (aCons (eC (.str "TooManyWords")) aNil)))))))))) (eBM "list" dIndexB (eVar 2) (aCons (eC (.bl true)) aNil))) (gNm 3))
    (sRet (eIf (cVal (eOp dEq (eVar 3) (eC (.str "BadBook")))) (eTup (aCons (eVar 3) (aCons (eXf b x "refrain" (eVar 1)) (aCons (eXf b x "verse" (eVar 1)) aNil)))) (eTup (aCons (eVar 3) aNil)))))))))
theorem tResB_ok {K : PySem.W.Frag} {c0 c1 c2 c3 c4 c5 c6 c7 c8 b : Addr} {x : Exn} {d : Dv} {t0 t1 t2 t3 t4 t5 t6 t7 t8 : Bool} (h0 : PySem.W.kitOne K (.ref x.cls) (.ref c0) = some t0) (h1 : PySem.W.kitOne K (.ref x.cls) (.ref c1) = some t1) (h2 : PySem.W.kitOne K (.ref x.cls) (.ref c2) = some t2)
    (h3 : PySem.W.kitOne K (.ref x.cls) (.ref c3) = some t3) (h4 : PySem.W.kitOne K (.ref x.cls) (.ref c4) = some t4) (h5 : PySem.W.kitOne K (.ref x.cls) (.ref c5) = some t5) (h6 : PySem.W.kitOne K (.ref x.cls) (.ref c6) = some t6) (h7 : PySem.W.kitOne K (.ref x.cls) (.ref c7) = some t7) (h8 : PySem.W.kitOne K (.ref x.cls) (.ref c8) = some t8)
    (hv : PySem.W.kitOne K (.ref x.cls) (.type "ValueError") = some true) {j : Nat} {nm : Str} (hc : ([t0, t1, t2, t3, t4, t5, t6, t7, t8].countP fun c => c == true) = 1) (hj : [t0, t1, t2, t3, t4, t5, t6, t7, t8][j]? = some true) (hf : ∀ m : Nat, m < j → [t0, t1, t2, t3, t4, t5, t6, t7, t8][m]? ≠ some true)
    (hn : nmsL[j]? = some nm) (hb : (nm ≠ "BadBook" ∧ d = .tup [.str nm]) ∨ (nm = "BadBook" ∧ ∃ r v, x.fs = some (bbF r v) ∧ d = .tup [.str "BadBook", .int r, .int v])) : tResB K c0 c1 c2 c3 c4 c5 c6 c7 c8 x b { nx := fun _ _ => False, rt := fun d' _ => d' = d } ((List.replicate 4 none).set 1 (some (.adr b))) [] := by
  have e1 : ((List.replicate 4 (none : Option Dv)).set 1 (some (.adr b))) = [none, some (.adr b), none, none] := rfl
  rw [e1]
  unfold tResB
  refine seqI ?_
  simp! only []
  refine isE_adr h0 (isE_adr h1 (isE_adr h2 ?_))
  refine seqI ?_
  simp! only []
  refine isE_adr h3 (isE_adr h4 (isE_adr h5 ?_))
  refine ⟨_, rfl, by show 3 + 3 ≤ sizeLine; decide, ?_⟩
  refine seqI ?_
  simp! only []
  refine isE_adr h6 (isE_adr h7 (isE_adr h8 ?_))
  refine ⟨_, rfl, by show 6 + 3 ≤ sizeLine; decide, ?_⟩
  have hcq : (([t0, t1, t2, t3, t4, t5, t6, t7, t8].countP fun c => c == true : Nat) : Int) = 1 := by rw [hc]; rfl
  refine seqI (ifI ?_)
  simp! only []
  refine ⟨[.bl t0, .bl t1, .bl t2, .bl t3, .bl t4, .bl t5, .bl t6, .bl t7, .bl t8], [t0, t1, t2, t3, t4, t5, t6, t7, t8], rfl, rfl, ?_⟩
  rw [hcq]
  show ∃ c, Dv.bl (!decide ((1 : Int) = 1)) = Dv.bl c ∧ _
  refine ⟨false, rfl, ?_⟩
  rw [if_neg Bool.false_ne_true]
  refine isE_ty hv ⟨true, rfl, ?_⟩
  rw [if_neg (by simp)]
  refine seqI ?_
  simp! only []
  refine ⟨by show 9 ≤ sizeLine; decide, ?_⟩
  refine ⟨[.bl t0, .bl t1, .bl t2, .bl t3, .bl t4, .bl t5, .bl t6, .bl t7, .bl t8], [t0, t1, t2, t3, t4, t5, t6, t7, t8], rfl, rfl, j, hj, hf, ?_⟩
  have hix : L2.atI (nmsL.map Dv.str) (j : Int) = some (.str nm) := atI_nat (by rw [List.getElem?_map, hn]; rfl)
  refine ⟨nmsL.map Dv.str, rfl, .str nm, hix, ?_⟩
  show ∃ c, Dv.bl (decide (nm = "BadBook")) = Dv.bl c ∧ _
  rcases hb with ⟨hb, hd⟩ | ⟨hb, r, v, hfs, hd⟩
  · rw [decide_eq_false hb]
    exact ⟨false, rfl, by rw [if_neg Bool.false_ne_true]; exact hd.symm⟩
  · rw [decide_eq_true hb]
    refine ⟨true, rfl, ?_⟩
    rw [if_pos rfl]
    simp! only [eXf]
    refine ⟨_, hfs, _, rfl, _, hfs, _, rfl, ?_⟩
    rw [hd, hb]
def tellB (cs : List Addr) : Tell := fun x d => (x.fs = none ∧ ∃ nm, (rnL cs).lookup x.cls = some nm ∧ d = .tup [.str nm]) ∨ (cs[0]? = some x.cls ∧ ∃ r v : Int, x.fs = some (bbF r v) ∧ d = .tup [.str "BadBook", .int r, .int v])
theorem tellB_ok (cs : List Addr) : TellOk (tellB cs) := by
  refine ⟨fun x d h => ?_, fun x d fs h hf p hp => ?_⟩
  · rcases h with ⟨_, nm, _, rfl⟩ | ⟨_, r, v, _, rfl⟩ <;> rfl
  · rcases h with ⟨h, _⟩ | ⟨_, r, v, h, _⟩
    · rw [h] at hf; cases hf
    · rw [h] at hf
      cases hf
      simp only [List.mem_cons, List.not_mem_nil, or_false] at hp
      rcases hp with rfl | rfl <;> rfl
structure OkB (K : PySem.W.Frag) (D : Addr) : Prop where
  e : ExcC K D
  r : PySem.W.findIn K (.ref D) "refrain" = some none
  v : PySem.W.findIn K (.ref D) "verse" = some none
def fldB' (K : PySem.W.Frag) (D : Addr) : Bool := (match PySem.W.findIn K (.ref D) "refrain" with | some none => true | _ => false) && (match PySem.W.findIn K (.ref D) "verse" with | some none => true | _ => false)
def resBB (K : PySem.W.Frag) (SE : Addr) (cs : List Addr) : Bool := decide cs.Nodup && cs.all fun D => rowB K SE D cs && fldB' K D
theorem resBB_row {K : PySem.W.Frag} {SE : Addr} {cs : List Addr} (h : resBB K SE cs = true) {x : Exn} {d : Dv} (t : tellB cs x d) : ∃ j : Nat, cs[j]? = some x.cls ∧ OkB K x.cls ∧ PySem.W.exmOne K (.ref x.cls) (.ref SE) = some true ∧ PySem.W.kitOne K (.ref x.cls) (.type "ValueError") = some true ∧
    (∀ C ∈ cs, PySem.W.kitOne K (.ref x.cls) (.ref C) = some (decide (x.cls = C))) ∧ ∃ nm, nmsL[j]? = some nm ∧ ((nm ≠ "BadBook" ∧ d = .tup [.str nm]) ∨ (nm = "BadBook" ∧ ∃ r v, x.fs = some (bbF r v) ∧ d = .tup [.str "BadBook", .int r, .int v])) := by
  unfold resBB at h
  rw [Bool.and_eq_true, decide_eq_true_eq] at h
  obtain ⟨hn, hrow⟩ := h
  have key : ∀ j : Nat, cs[j]? = some x.cls → OkB K x.cls ∧ PySem.W.exmOne K (.ref x.cls) (.ref SE) = some true ∧ PySem.W.kitOne K (.ref x.cls) (.type "ValueError") = some true ∧ ∀ C ∈ cs, PySem.W.kitOne K (.ref x.cls) (.ref C) = some (decide (x.cls = C)) := fun j hj => by
    have hr := List.all_eq_true.mp hrow x.cls (List.mem_of_getElem? hj)
    unfold rowB fldB' at hr
    simp only [Bool.and_eq_true, decide_eq_true_eq, List.all_eq_true] at hr
    obtain ⟨⟨a, b, c, d⟩, e, f⟩ := hr
    refine ⟨⟨excB_ok a, ?_, ?_⟩, b, c, d⟩
    · split at e
      · assumption
      · cases e
    · split at f
      · assumption
      · cases f
  rcases t with ⟨hf, nm, hl, hd⟩ | ⟨h0, r, v, hf, hd⟩
  · obtain ⟨j, j1, j2, j3⟩ := rnL_at hl
    obtain ⟨a, b, c, d⟩ := key j j2
    refine ⟨j, j2, a, b, c, d, nm, j3, .inl ⟨fun w => ?_, hd⟩⟩
    have h0 : nmsL[0]? = some nm := by rw [w]; rfl
    have := nodup_ix (l := nmsL) (by decide) h0 j3
    omega
  · obtain ⟨a, b, c, d⟩ := key 0 h0
    exact ⟨0, h0, a, b, c, d, "BadBook", rfl, .inr ⟨rfl, r, v, hf, hd⟩⟩
theorem resBB_table {K : PySem.W.Frag} {SE c0 c1 c2 c3 c4 c5 c6 c7 c8 : Addr} (h : resBB K SE [c0, c1, c2, c3, c4, c5, c6, c7, c8] = true) :
    (∀ x d, tellB [c0, c1, c2, c3, c4, c5, c6, c7, c8] x d → OkB K x.cls ∧ PySem.W.exmOne K (.ref x.cls) (.ref SE) = some true) ∧
    ∀ x d b, tellB [c0, c1, c2, c3, c4, c5, c6, c7, c8] x d → tResB K c0 c1 c2 c3 c4 c5 c6 c7 c8 x b { nx := fun _ _ => False, rt := fun d' _ => d' = d } ((List.replicate 4 none).set 1 (some (.adr b))) [] := by
  refine ⟨fun x d t => ?_, fun x d b t => ?_⟩
  · obtain ⟨_, _, a, b, _⟩ := resBB_row h t
    exact ⟨a, b⟩
  · obtain ⟨j, j2, _, _, hv, hk, nm, j3, hd⟩ := resBB_row h t
    have hn : [c0, c1, c2, c3, c4, c5, c6, c7, c8].Nodup := by
      unfold resBB at h
      rw [Bool.and_eq_true, decide_eq_true_eq] at h
      exact h.1
    have hmem : x.cls ∈ [c0, c1, c2, c3, c4, c5, c6, c7, c8] := List.mem_of_getElem? j2
    have hm : ∀ m : Nat, ([c0, c1, c2, c3, c4, c5, c6, c7, c8].map fun C => decide (x.cls = C))[m]? = ([c0, c1, c2, c3, c4, c5, c6, c7, c8][m]?).map fun C => decide (x.cls = C) := fun m => List.getElem?_map
    exact tResB_ok (hk c0 (by simp)) (hk c1 (by simp)) (hk c2 (by simp)) (hk c3 (by simp)) (hk c4 (by simp)) (hk c5 (by simp)) (hk c6 (by simp)) (hk c7 (by simp)) (hk c8 (by simp)) hv (j := j) (count_one hn hmem)
      ((hm j).trans (by rw [j2]; simp)) (fun m hmj w => by
        have w := (hm m).symm.trans w
        obtain ⟨C, hC, e⟩ := Option.map_eq_some_iff.mp w
        have e := of_decide_eq_true e
        rw [← e] at hC
        have := nodup_ix hn hC j2
        omega) j3 hd
/-- telling BadBook -/
theorem tell_book {cs : List Addr} {C : Addr} {r v : Int} (h : cs[0]? = some C) : tellB cs ⟨C, some (bbF r v)⟩ (.tup [.str "BadBook", .int r, .int v]) := .inr ⟨h, r, v, rfl, rfl⟩
end D3
set_option Elab.async false
set_option linter.all false
set_option maxRecDepth 100000
set_option maxHeartbeats 4000000
namespace D3
open PySem PySem.Spec PyProof.Rows L2
section
variable {X : Cx} {B : Bs}
def dLeS : RD2 := fun x y S Q => match x, y with
  | .str a, .str b => Q (.bl (!decide (b.cps.toList < a.cps.toList))) S
  | _, _ => False
theorem oLeS : OpR X (compareOp .LtE) (L2' B dLeS) := by
  refine OpR_imp op_le_str ?_
  rintro v u H Q ⟨π, S, d, e, Qd, R, r1, r2, q, k⟩
  unfold dLeS at q
  split at q
  · obtain rfl := r1.str_inv
    obtain rfl := r2.str_inv
    exact ⟨_, _, rfl, rfl, k.here R (.bl _) q⟩
  · exact q.elim
end
end D3
set_option Elab.async false
set_option linter.all false
set_option maxRecDepth 100000
set_option maxHeartbeats 4000000
namespace D3
open PySem PySem.Spec PyProof.Rows L2
section
variable {X : Cx} {B : Bs}
def dInP (neg : Bool) : RD2 := fun x y S Q => ∃ d ds, den (fO S 4) x = some d ∧ (den (fO S 4) y = some (.tuple ds) ∨ den (fO S 4) y = some (.list ds)) ∧ PyData.plainAll ds = true ∧ d.plain = true ∧ PyData.depthAll ds = 0 ∧ Q (.bl (if neg then !ds.any fun z => PyData.eqv z d else ds.any fun z => PyData.eqv z d)) S
end
end D3
set_option Elab.async false
set_option linter.all false
set_option maxRecDepth 100000
set_option maxHeartbeats 2000000
namespace K16
open PySem PySem.Spec PyProof.Rows L2 D3
abbrev c_LETTERS : Dv := .str "abcdefghijklmnopqrstuvwxyz"
abbrev c_MAX_ITEMS : Dv := .int 6
abbrev c_MAX_LETTERS : Dv := .int 8
abbrev c_MAX_REFRAINS : Dv := .int 60
abbrev c_MAX_VERSES : Dv := .int 4
def t_Lbegun (Wd : WXd) : TSd :=
    (sSeq (sAsg (eC (.int 0)) (gNm 1))
    (sSeq (sFor (iSeq (eVar 0)) (gNm 2) (sAsg (eOp dMod (eOp dAdd (eOp dAdd (eOp dMul (eVar 1) (eC (.int 48271))) (eOp dMul (eVar 2) (eC (.int 69621)))) (eC (.int 11))) (eC (.int 2147483647))) (gNm 1)))
    (sRet (eLst (aCons (eArgs dList (aCons (eVar 0) aNil)) (aCons (eOp dMul (eVar 1) (eArgs dInt (aCons (eOp dGt (eArgs dLen (aCons (eVar 0) aNil)) (eC (.int 2))) aNil))) aNil))))))
def t_Ltake (Wd : WXd) : TSd :=
    (sSeq (sIf (cVal (eOp dEq (eOp dIx (eVar 0) (eC (.int 0))) (eLst aNil))) (sSeq (sAsg (eOp dMod (eArgs dInt (aCons (eOp dMul (eOp dIx (eVar 0) (eC (.int 1))) (eC (.int 48271))) aNil)) (eC (.int 2147483647))) (gSb (eVar 0) (eC (.int 1)) dSetL))
    (sRet (eOp dMod (eOp dDiv (eOp dIx (eVar 0) (eC (.int 1))) (eC (.int 7))) (eVar 1)))) sNext)
    (sSeq (sAsg (eOp dIx (eOp dIx (eVar 0) (eC (.int 0))) (eC (.int 0))) (gNm 2))
    (sSeq (sAsg (eOp dDiv (eVar 2) (eVar 1)) (gSb (eOp dIx (eVar 0) (eC (.int 0))) (eC (.int 0)) dSetL))
    (sSeq (sIf (cOr (cVal (eOp dEq (eOp dIx (eOp dIx (eVar 0) (eC (.int 0))) (eC (.int 0))) (eC (.int 0)))) (cVal (eOp dEq (eOp dIx (eOp dIx (eVar 0) (eC (.int 0))) (eC (.int 0))) (eUn dNeg (eC (.int 1)))))) (sDrop (eBM "list" dPop (eOp dIx (eVar 0) (eC (.int 0))) (aCons (eC (.int 0)) aNil))) sNext)
    (sRet (eOp dMod (eArgs dInt (aCons (eVar 2) aNil)) (eVar 1)))))))
def t_Lbook (sp_Ltake : Spd) (Wd : WXd) : TSd :=
    (sSeq (sPar 2 3 (aCons (eOp dAdd (eC (.int 1)) (eCall sp_Ltake Wd (aCons (eVar 0) (aCons (eVar 1) aNil)))) (aCons (eLst aNil) aNil)))
    (sSeq (sAsg (eLst (aCons (eC (.str "la")) (aCons (eC (.str "lu")) (aCons (eC (.str "lo")) (aCons (eC (.str "a")) (aCons (eC (.str "zzzzzzzz")) (aCons (eC (.str "la")) aNil))))))) (gNm 4))
    (sSeq (sFor (iRg1 (aCons (eVar 2) aNil)) (gNm 5) (sSeq (sAsg (eLst aNil) (gNm 6))
    (sSeq (sFor (iRg1 (aCons (eOp dIx (eLst (aCons (eC (.int 1)) (aCons (eC (.int 2)) (aCons (eC (.int 2)) (aCons (eC (.int 3)) (aCons (eC (.int 4)) aNil)))))) (eCall sp_Ltake Wd (aCons (eVar 0) (aCons (eC (.int 5)) aNil)))) aNil)) (gNm 7) (sSeq (sAsg (eLst aNil) (gNm 8))
    (sSeq (sFor (iRg1 (aCons (eOp dIx (eLst (aCons (eC (.int 1)) (aCons (eC (.int 2)) (aCons (eC (.int 2)) (aCons (eC (.int 3)) (aCons (eC (.int 6)) aNil)))))) (eCall sp_Ltake Wd (aCons (eVar 0) (aCons (eC (.int 5)) aNil)))) aNil)) (gNm 9) (sSeq (sAsg (eOp dSub (eOp dSub (eVar 2) (eVar 5)) (eC (.int 1))) (gNm 10))
    (sSeq (sAsg (eOp dIx (eLst (aCons (eOp dAdd (eC (.int 1)) (eCall sp_Ltake Wd (aCons (eVar 0) (aCons (eArgs dMax (aCons (eC (.int 1)) (aCons (eVar 10) aNil))) aNil)))) (aCons (eC (.int 1)) aNil))) (eCall sp_Ltake Wd (aCons (eVar 0) (aCons (eC (.int 2)) aNil)))) (gNm 11))
    (sDrop (eBM "list" dAppend (eVar 8) (aCons (eIf (cAnd (cVal (eOp dGt (eVar 10) (eC (.int 0)))) (cVal (eOp dGt (eCall sp_Ltake Wd (aCons (eVar 0) (aCons (eC (.int 3)) aNil))) (eC (.int 0))))) (eOp dAdd (eVar 5) (eVar 11)) (eOp dIx (eVar 4) (eCall sp_Ltake Wd (aCons (eVar 0) (aCons (eC (.int 6)) aNil))))) aNil))))))
    (sDrop (eBM "list" dAppend (eVar 6) (aCons (eArgs dTuple (aCons (eVar 8) aNil)) aNil))))))
    (sDrop (eBM "list" dAppend (eVar 3) (aCons (eArgs dTuple (aCons (eVar 6) aNil)) aNil))))))
    (sRet (eArgs dTuple (aCons (eVar 3) aNil))))))
def t_Lalike (sp_Lalike_rec : Spd) (Wd : WXd) : TSd :=
    (sSeq (sIf (cVal (eOp dIs (eVar 1) (eC .non))) (sRet (eOp dIs (eVar 0) (eC .non))) sNext)
    (sSeq (sIf (cVal (eArgs dIsi (aCons (eVar 1) (aCons (eC (.ty "bool")) aNil)))) (sRet (eAnd (eArgs dIsi (aCons (eVar 0) (aCons (eC (.ty "bool")) aNil))) (eOp dEq (eVar 0) (eVar 1)))) sNext)
    (sSeq (sIf (cVal (eArgs dIsi (aCons (eVar 1) (aCons (eC (.ty "int")) aNil)))) (sRet (eAnd (eArgs dIsi (aCons (eVar 0) (aCons (eC (.ty "int")) aNil))) (eAnd (eNot (eArgs dIsi (aCons (eVar 0) (aCons (eC (.ty "bool")) aNil)))) (eOp dEq (eVar 0) (eVar 1))))) sNext)
    (sSeq (sIf (cVal (eArgs dIsi (aCons (eVar 1) (aCons (eC (.ty "str")) aNil)))) (sRet (eAnd (eArgs dIsi (aCons (eVar 0) (aCons (eC (.ty "str")) aNil))) (eOp dEq (eVar 0) (eVar 1)))) sNext)
    (sSeq (sIf (cOr (cVal (eOp dNe (eArgs dIsi (aCons (eVar 1) (aCons (eC (.ty "tuple")) aNil))) (eArgs dIsi (aCons (eVar 0) (aCons (eC (.ty "tuple")) aNil))))) (cVal (eOp dNe (eArgs dIsi (aCons (eVar 1) (aCons (eC (.ty "list")) aNil))) (eArgs dIsi (aCons (eVar 0) (aCons (eC (.ty "list")) aNil)))))) (sRet (eC (.bl false))) sNext)
    (sSeq (sIf (cVal (eOp dNe (eArgs dLen (aCons (eVar 0) aNil)) (eArgs dLen (aCons (eVar 1) aNil)))) (sRet (eC (.bl false))) sNext)
    (sSeq (sFor (iRg1 (aCons (eArgs dLen (aCons (eVar 1) aNil)) aNil)) (gNm 2) (sIf (cNot (cVal (eCall sp_Lalike_rec Wd (aCons (eOp dIx (eVar 0) (eVar 2)) (aCons (eOp dIx (eVar 1) (eVar 2)) aNil))))) (sRet (eC (.bl false))) sNext))
    (sRet (eC (.bl true))))))))))
def t_is_word (Wd : WXd) : TSd :=
    (sRet (eArgs dIsi (aCons (eVar 0) (aCons (eC (.ty "str")) aNil))))
def t_is_valid_item (sp_is_word : Spd) (Wd : WXd) : TSd :=
    (sSeq (sIf (cVal (eCall sp_is_word Wd (aCons (eVar 2) aNil))) (sRet (eAnd (eChain dLe dLe (eC (.int 1)) (eArgs dLen (aCons (eVar 2) aNil)) (eC c_MAX_LETTERS)) (eArgs dAll (aCons (eLc (iStr (eVar 2)) (Tg.one 3) cYes (eOp (dIn false) (eVar 3) (eC c_LETTERS)) [3]) aNil)))) sNext)
    (sRet (eChain dLt dLt (eVar 1) (eVar 2) (eArgs dLen (aCons (eVar 0) aNil)))))
def t_first_invalid_verse (sp_is_valid_item : Spd) (Wd : WXd) : TSd :=
    (sSeq (sAsg (eOp dIx (eVar 0) (eVar 1)) (gNm 2))
    (sSeq (sIf (cNot (cVal (eChain dLe dLe (eC (.int 1)) (eArgs dLen (aCons (eVar 2) aNil)) (eC c_MAX_VERSES)))) (sRet (eUn dNeg (eC (.int 1)))) sNext)
    (sSeq (sFor (iEnumD (aCons (eVar 2) aNil)) (gUnp 2 (gsCons (gNm 3) (gsCons (gNm 4) gsNil))) (sIf (cOr (cNot (cVal (eChain dLe dLe (eC (.int 1)) (eArgs dLen (aCons (eVar 4) aNil)) (eC c_MAX_ITEMS)))) (cNot (cVal (eArgs dAll (aCons (eLc (iSeq (eVar 4)) (Tg.one 5) cYes (eCall sp_is_valid_item WNo (aCons (eVar 0) (aCons (eVar 1) (aCons (eVar 5) aNil)))) [5]) aNil))))) (sRet (eVar 3)) sNext))
    (sRet (eC .non)))))
def t_validate_book (C_BadBook : Addr) (sp_first_invalid_verse : Spd) (Wd : WXd) : TSd :=
    (sSeq (sIf (cVal (eOp dEq (eArgs dLen (aCons (eVar 0) aNil)) (eC (.int 0)))) (sRaiseK C_BadBook ["refrain", "verse"] (aCons (eC (.int 0)) (aCons (eUn dNeg (eC (.int 1))) aNil)) Wd) sNext)
    (sFor (iRg1 (aCons (eArgs dLen (aCons (eVar 0) aNil)) aNil)) (gNm 1) (sSeq (sAsg (eIf (cVal (eOp dEq (eVar 1) (eC c_MAX_REFRAINS))) (eUn dNeg (eC (.int 1))) (eCall sp_first_invalid_verse Wd (aCons (eVar 0) (aCons (eVar 1) aNil)))) (gNm 2))
    (sIf (cVal (eOp dIsNot (eVar 2) (eC .non))) (sRaiseK C_BadBook ["refrain", "verse"] (aCons (eVar 1) (aCons (eVar 2) aNil)) Wd) sNext))))
def t_law (RR : Tell) (sp_Lbegun : Spd) (sp_Lbook : Spd) (sp_Lstate : Spd) (sp_Ltake : Spd) (sp_Lalike : Spd) (sp_set_turn : Spd) (sp_stop_song : Spd) (sp_Lbad_items : Spd) (sp_replace_verse : Spd) (Wd : WXd) : TSd :=
    (sSeq (sAsg (eCall sp_Lbegun Wd (aCons (eVar 0) aNil)) (gNm 1))
    (sSeq (sFor (iRg1 (aCons (eC (.int 8)) aNil)) (gNm 2) (sSeq (sAsg (eCall sp_Lbook Wd (aCons (eVar 1) (aCons (eC (.int 9)) aNil))) (gNm 3))
    (sSeq (sAsg (eCall sp_Lstate Wd (aCons (eVar 1) (aCons (eVar 3) aNil))) (gNm 4))
    (sSeq (sAsg (eVar 4) (gUnp 2 (gsCons (gNm 5) (gsCons (gNm 6) gsNil))))
    (sSeq (sAsg (eTup (aCons (eOp dSub (eCall sp_Ltake Wd (aCons (eVar 1) (aCons (eOp dAdd (eArgs dLen (aCons (eVar 3) aNil)) (eC (.int 2))) aNil))) (eC (.int 1))) (aCons (eOp dSub (eCall sp_Ltake Wd (aCons (eVar 1) (aCons (eC (.int 6)) aNil))) (eC (.int 1))) aNil))) (gUnp 2 (gsCons (gNm 7) (gsCons (gNm 8) gsNil))))
    (sSeq (sIf (cNot (cVal (eChain dLe dLt (eC (.int 0)) (eVar 7) (eArgs dLen (aCons (eVar 3) aNil))))) (sAsg (eTup (aCons (eC (.str "BadRefrain")) aNil)) (gNm 9)) (sIf (cNot (cVal (eChain dLe dLt (eC (.int 0)) (eVar 8) (eArgs dLen (aCons (eOp dIx (eVar 3) (eVar 7)) aNil))))) (sAsg (eTup (aCons (eC (.str "BadCount")) aNil)) (gNm 9)) (sSeq (sAsg (eTup (aCons (eOp dAdd (eOp dAdd (eSl dSlice (eVar 5) oNo (oSome (eVar 7))) (eTup (aCons (eVar 8) aNil))) (eSl dSlice (eVar 5) (oSome (eOp dAdd (eVar 7) (eC (.int 1)))) oNo)) (aCons (eVar 6) aNil))) (gNm 9))
    (sIf (cVal (eOp (dIn false) (eVar 7) (eLc (iSeq (eVar 6)) (Tg.one 15) cYes (eOp dIx (eVar 15) (eC (.int 0))) [15]))) (sAsg (eTup (aCons (eC (.str "RefrainBusy")) aNil)) (gNm 9)) sNext))))
    (sSeq (sIf (cNot (cVal (eCall sp_Lalike Wd (aCons (eResT RR (fun Wd => (eCall sp_set_turn Wd (aCons (eVar 3) (aCons (eVar 4) (aCons (eVar 7) (aCons (eVar 8) aNil))))))) (aCons (eVar 9) aNil))))) (sRet (eC (.bl false))) sNext)
    (sSeq (sIf (cNot (cVal (eCall sp_Lalike Wd (aCons (eLst (aCons (eCall sp_stop_song Wd (aCons (eVar 3) (aCons (eVar 4) aNil))) (aCons (eVar 4) aNil))) (aCons (eLst (aCons (eTup (aCons (eVar 5) (aCons (eTup aNil) aNil))) (aCons (eTup (aCons (eVar 5) (aCons (eVar 6) aNil))) aNil))) aNil))))) (sRet (eC (.bl false))) sNext)
    (sSeq (sAsg (eLst aNil) (gNm 10))
    (sSeq (sFor (iRg1 (aCons (eCall sp_Ltake Wd (aCons (eVar 1) (aCons (eC (.int 8)) aNil))) aNil)) (gNm 11) (sSeq (sAsg (eOp dIx (eLst (aCons (eC (.str "la")) (aCons (eC (.str "lu")) (aCons (eC (.str "")) (aCons (eC (.str "B")) (aCons (eC (.str "abcdefghi")) aNil)))))) (eCall sp_Ltake Wd (aCons (eVar 1) (aCons (eC (.int 5)) aNil)))) (gNm 12))
    (sDrop (eBM "list" dAppend (eVar 10) (aCons (eOp dIx (eLst (aCons (eVar 12) (aCons (eCall sp_Ltake Wd (aCons (eVar 1) (aCons (eOp dAdd (eArgs dLen (aCons (eVar 3) aNil)) (eC (.int 1))) aNil))) aNil))) (eCall sp_Ltake Wd (aCons (eVar 1) (aCons (eC (.int 2)) aNil)))) aNil)))))
    (sSeq (sAsg (eOp dIx (eLst (aCons (eArgs dTuple (aCons (eVar 10) aNil)) (aCons (eTup (aCons (eC (.str "la")) aNil)) (aCons (eTup (aCons (eOp dSub (eArgs dLen (aCons (eVar 3) aNil)) (eC (.int 1))) (aCons (eC (.str "a")) aNil))) aNil)))) (eCall sp_Ltake Wd (aCons (eVar 1) (aCons (eC (.int 3)) aNil)))) (gNm 10))
    (sSeq (sIf (cVal (eOp (dInP true) (eOp dIx (eVar 9) (eC (.int 0))) (eTup (aCons (eC (.str "BadRefrain")) (aCons (eC (.str "BadCount")) aNil))))) (sSeq (sAsg (eOp dIx (eVar 3) (eVar 7)) (gNm 13))
    (sSeq (sAsg (eOp dAdd (eOp dAdd (eSl dSlice (eVar 13) oNo (oSome (eVar 8))) (eTup (aCons (eVar 10) aNil))) (eSl dSlice (eVar 13) (oSome (eOp dAdd (eVar 8) (eC (.int 1)))) oNo)) (gNm 13))
    (sSeq (sAsg (eOp dAdd (eOp dAdd (eSl dSlice (eVar 3) oNo (oSome (eVar 7))) (eTup (aCons (eVar 13) aNil))) (eSl dSlice (eVar 3) (oSome (eOp dAdd (eVar 7) (eC (.int 1)))) oNo)) (gNm 9))
    (sIf (cVal (eCall sp_Lbad_items Wd (aCons (eVar 3) (aCons (eVar 7) (aCons (eVar 10) aNil))))) (sAsg (eTup (aCons (eC (.str "BadBook")) (aCons (eVar 7) (aCons (eVar 8) aNil)))) (gNm 9)) sNext)))) sNext)
    (sFor (iRg1 (aCons (eC (.int 2)) aNil)) (gNm 14) (sIf (cNot (cVal (eCall sp_Lalike Wd (aCons (eResT RR (fun Wd => (eCall sp_replace_verse Wd (aCons (eVar 3) (aCons (eVar 7) (aCons (eVar 8) (aCons (eVar 10) aNil))))))) (aCons (eVar 9) aNil))))) (sRet (eC (.bl false))) sNext))))))))))))))
    (sRet (eC (.bl true)))))
end K16
set_option Elab.async false
set_option linter.all false
set_option maxRecDepth 100000
set_option maxHeartbeats 2000000
namespace K13
open PySem PySem.Spec PyProof.Rows L2 D3
abbrev c_LETTERS : Dv := .str "abcdefghijklmnopqrstuvwxyz"
abbrev c_MAX_ITEMS : Dv := .int 6
abbrev c_MAX_LETTERS : Dv := .int 8
abbrev c_MAX_REFRAINS : Dv := .int 60
abbrev c_MAX_VERSES : Dv := .int 4
def t_Lbegun (Wd : WXd) : TSd :=
    (sSeq (sAsg (eC (.int 0)) (gNm 1))
    (sSeq (sFor (iSeq (eVar 0)) (gNm 2) (sAsg (eOp dMod (eOp dAdd (eOp dAdd (eOp dMul (eVar 1) (eC (.int 48271))) (eOp dMul (eVar 2) (eC (.int 69621)))) (eC (.int 11))) (eC (.int 2147483647))) (gNm 1)))
    (sRet (eLst (aCons (eArgs dList (aCons (eVar 0) aNil)) (aCons (eOp dMul (eVar 1) (eArgs dInt (aCons (eOp dGt (eArgs dLen (aCons (eVar 0) aNil)) (eC (.int 2))) aNil))) aNil))))))
def t_Ltake (Wd : WXd) : TSd :=
    (sSeq (sIf (cVal (eOp dEq (eOp dIx (eVar 0) (eC (.int 0))) (eLst aNil))) (sSeq (sAsg (eOp dMod (eArgs dInt (aCons (eOp dMul (eOp dIx (eVar 0) (eC (.int 1))) (eC (.int 48271))) aNil)) (eC (.int 2147483647))) (gSb (eVar 0) (eC (.int 1)) dSetL))
    (sRet (eOp dMod (eOp dDiv (eOp dIx (eVar 0) (eC (.int 1))) (eC (.int 7))) (eVar 1)))) sNext)
    (sSeq (sAsg (eOp dIx (eOp dIx (eVar 0) (eC (.int 0))) (eC (.int 0))) (gNm 2))
    (sSeq (sAsg (eOp dDiv (eVar 2) (eVar 1)) (gSb (eOp dIx (eVar 0) (eC (.int 0))) (eC (.int 0)) dSetL))
    (sSeq (sIf (cOr (cVal (eOp dEq (eOp dIx (eOp dIx (eVar 0) (eC (.int 0))) (eC (.int 0))) (eC (.int 0)))) (cVal (eOp dEq (eOp dIx (eOp dIx (eVar 0) (eC (.int 0))) (eC (.int 0))) (eUn dNeg (eC (.int 1)))))) (sDrop (eBM "list" dPop (eOp dIx (eVar 0) (eC (.int 0))) (aCons (eC (.int 0)) aNil))) sNext)
    (sRet (eOp dMod (eArgs dInt (aCons (eVar 2) aNil)) (eVar 1)))))))
def t_Lbook (sp_Ltake : Spd) (Wd : WXd) : TSd :=
    (sSeq (sPar 2 3 (aCons (eOp dAdd (eC (.int 1)) (eCall sp_Ltake Wd (aCons (eVar 0) (aCons (eVar 1) aNil)))) (aCons (eLst aNil) aNil)))
    (sSeq (sAsg (eLst (aCons (eC (.str "la")) (aCons (eC (.str "lu")) (aCons (eC (.str "lo")) (aCons (eC (.str "a")) (aCons (eC (.str "zzzzzzzz")) (aCons (eC (.str "la")) aNil))))))) (gNm 4))
    (sSeq (sFor (iRg1 (aCons (eVar 2) aNil)) (gNm 5) (sSeq (sAsg (eLst aNil) (gNm 6))
    (sSeq (sFor (iRg1 (aCons (eOp dIx (eLst (aCons (eC (.int 1)) (aCons (eC (.int 2)) (aCons (eC (.int 2)) (aCons (eC (.int 3)) (aCons (eC (.int 4)) aNil)))))) (eCall sp_Ltake Wd (aCons (eVar 0) (aCons (eC (.int 5)) aNil)))) aNil)) (gNm 7) (sSeq (sAsg (eLst aNil) (gNm 8))
    (sSeq (sFor (iRg1 (aCons (eOp dIx (eLst (aCons (eC (.int 1)) (aCons (eC (.int 2)) (aCons (eC (.int 2)) (aCons (eC (.int 3)) (aCons (eC (.int 6)) aNil)))))) (eCall sp_Ltake Wd (aCons (eVar 0) (aCons (eC (.int 5)) aNil)))) aNil)) (gNm 9) (sSeq (sAsg (eOp dSub (eOp dSub (eVar 2) (eVar 5)) (eC (.int 1))) (gNm 10))
    (sSeq (sAsg (eOp dIx (eLst (aCons (eOp dAdd (eC (.int 1)) (eCall sp_Ltake Wd (aCons (eVar 0) (aCons (eArgs dMax (aCons (eC (.int 1)) (aCons (eVar 10) aNil))) aNil)))) (aCons (eC (.int 1)) aNil))) (eCall sp_Ltake Wd (aCons (eVar 0) (aCons (eC (.int 2)) aNil)))) (gNm 11))
    (sDrop (eBM "list" dAppend (eVar 8) (aCons (eIf (cAnd (cVal (eOp dGt (eVar 10) (eC (.int 0)))) (cVal (eOp dGt (eCall sp_Ltake Wd (aCons (eVar 0) (aCons (eC (.int 3)) aNil))) (eC (.int 0))))) (eOp dAdd (eVar 5) (eVar 11)) (eOp dIx (eVar 4) (eCall sp_Ltake Wd (aCons (eVar 0) (aCons (eC (.int 6)) aNil))))) aNil))))))
    (sDrop (eBM "list" dAppend (eVar 6) (aCons (eArgs dTuple (aCons (eVar 8) aNil)) aNil))))))
    (sDrop (eBM "list" dAppend (eVar 3) (aCons (eArgs dTuple (aCons (eVar 6) aNil)) aNil))))))
    (sRet (eArgs dTuple (aCons (eVar 3) aNil))))))
def t_is_word (Wd : WXd) : TSd :=
    (sRet (eArgs dIsi (aCons (eVar 0) (aCons (eC (.ty "str")) aNil))))
def t_is_valid_item (sp_is_word : Spd) (Wd : WXd) : TSd :=
    (sSeq (sIf (cVal (eCall sp_is_word Wd (aCons (eVar 2) aNil))) (sRet (eAnd (eChain dLe dLe (eC (.int 1)) (eArgs dLen (aCons (eVar 2) aNil)) (eC c_MAX_LETTERS)) (eArgs dAll (aCons (eLc (iStr (eVar 2)) (Tg.one 3) cYes (eOp (dIn false) (eVar 3) (eC c_LETTERS)) [3]) aNil)))) sNext)
    (sRet (eChain dLt dLt (eVar 1) (eVar 2) (eArgs dLen (aCons (eVar 0) aNil)))))
def t_first_invalid_verse (sp_is_valid_item : Spd) (Wd : WXd) : TSd :=
    (sSeq (sAsg (eOp dIx (eVar 0) (eVar 1)) (gNm 2))
    (sSeq (sIf (cNot (cVal (eChain dLe dLe (eC (.int 1)) (eArgs dLen (aCons (eVar 2) aNil)) (eC c_MAX_VERSES)))) (sRet (eUn dNeg (eC (.int 1)))) sNext)
    (sSeq (sFor (iEnumD (aCons (eVar 2) aNil)) (gUnp 2 (gsCons (gNm 3) (gsCons (gNm 4) gsNil))) (sIf (cOr (cNot (cVal (eChain dLe dLe (eC (.int 1)) (eArgs dLen (aCons (eVar 4) aNil)) (eC c_MAX_ITEMS)))) (cNot (cVal (eArgs dAll (aCons (eLc (iSeq (eVar 4)) (Tg.one 5) cYes (eCall sp_is_valid_item WNo (aCons (eVar 0) (aCons (eVar 1) (aCons (eVar 5) aNil)))) [5]) aNil))))) (sRet (eVar 3)) sNext))
    (sRet (eC .non)))))
def t_validate_book (sp_first_invalid_verse : Spd) (Wd : WXd) : TSd :=
    (sSeq (sIf (cVal (eOp dEq (eArgs dLen (aCons (eVar 0) aNil)) (eC (.int 0)))) sNever sNext)
    (sFor (iRg1 (aCons (eArgs dLen (aCons (eVar 0) aNil)) aNil)) (gNm 1) (sSeq (sAsg (eIf (cVal (eOp dEq (eVar 1) (eC c_MAX_REFRAINS))) (eUn dNeg (eC (.int 1))) (eCall sp_first_invalid_verse Wd (aCons (eVar 0) (aCons (eVar 1) aNil)))) (gNm 2))
    (sIf (cVal (eOp dIsNot (eVar 2) (eC .non))) sNever sNext))))
def t_Lalike (sp_Lalike_rec : Spd) (Wd : WXd) : TSd :=
    (sSeq (sIf (cVal (eOp dIs (eVar 1) (eC .non))) (sRet (eOp dIs (eVar 0) (eC .non))) sNext)
    (sSeq (sIf (cVal (eArgs dIsi (aCons (eVar 1) (aCons (eC (.ty "bool")) aNil)))) (sRet (eAnd (eArgs dIsi (aCons (eVar 0) (aCons (eC (.ty "bool")) aNil))) (eOp dEq (eVar 0) (eVar 1)))) sNext)
    (sSeq (sIf (cVal (eArgs dIsi (aCons (eVar 1) (aCons (eC (.ty "int")) aNil)))) (sRet (eAnd (eArgs dIsi (aCons (eVar 0) (aCons (eC (.ty "int")) aNil))) (eAnd (eNot (eArgs dIsi (aCons (eVar 0) (aCons (eC (.ty "bool")) aNil)))) (eOp dEq (eVar 0) (eVar 1))))) sNext)
    (sSeq (sIf (cVal (eArgs dIsi (aCons (eVar 1) (aCons (eC (.ty "str")) aNil)))) (sRet (eAnd (eArgs dIsi (aCons (eVar 0) (aCons (eC (.ty "str")) aNil))) (eOp dEq (eVar 0) (eVar 1)))) sNext)
    (sSeq (sIf (cOr (cVal (eOp dNe (eArgs dIsi (aCons (eVar 1) (aCons (eC (.ty "tuple")) aNil))) (eArgs dIsi (aCons (eVar 0) (aCons (eC (.ty "tuple")) aNil))))) (cVal (eOp dNe (eArgs dIsi (aCons (eVar 1) (aCons (eC (.ty "list")) aNil))) (eArgs dIsi (aCons (eVar 0) (aCons (eC (.ty "list")) aNil)))))) (sRet (eC (.bl false))) sNext)
    (sSeq (sIf (cVal (eOp dNe (eArgs dLen (aCons (eVar 0) aNil)) (eArgs dLen (aCons (eVar 1) aNil)))) (sRet (eC (.bl false))) sNext)
    (sSeq (sFor (iRg1 (aCons (eArgs dLen (aCons (eVar 1) aNil)) aNil)) (gNm 2) (sIf (cNot (cVal (eCall sp_Lalike_rec Wd (aCons (eOp dIx (eVar 0) (eVar 2)) (aCons (eOp dIx (eVar 1) (eVar 2)) aNil))))) (sRet (eC (.bl false))) sNext))
    (sRet (eC (.bl true))))))))))
def t_law (RN : List (Addr × Str)) (sp_Lbegun : Spd) (sp_Lbook : Spd) (sp_Lstate : Spd) (sp_Ltake : Spd) (sp_Lvaried : Spd) (sp_Lturns : Spd) (sp_Ldiffers : Spd) (sp_first_difference : Spd) (sp_Lalike : Spd) (Wd : WXd) : TSd :=
    (sSeq (sAsg (eCall sp_Lbegun Wd (aCons (eVar 0) aNil)) (gNm 1))
    (sSeq (sFor (iRg1 (aCons (eC (.int 5)) aNil)) (gNm 2) (sSeq (sAsg (eCall sp_Lbook Wd (aCons (eVar 1) (aCons (eC (.int 7)) aNil))) (gNm 3))
    (sSeq (sAsg (eCall sp_Lstate Wd (aCons (eVar 1) (aCons (eVar 3) aNil))) (gNm 4))
    (sSeq (sPar 5 6 (aCons (eVar 3) (aCons (eVar 4) aNil)))
    (sSeq (sAsg (eCall sp_Ltake Wd (aCons (eVar 1) (aCons (eC (.int 4)) aNil))) (gNm 7))
    (sSeq (sIf (cVal (eOp dEq (eVar 7) (eC (.int 1)))) (sSeq (sAsg (eCall sp_Lvaried Wd (aCons (eVar 1) (aCons (eVar 3) aNil))) (gNm 5))
    (sAsg (eTup (aCons (eCall sp_Lturns Wd (aCons (eVar 1) (aCons (eVar 5) aNil))) (aCons (eTup aNil) aNil))) (gNm 6))) sNext)
    (sSeq (sIf (cVal (eOp dEq (eVar 7) (eC (.int 2)))) (sAsg (eCall sp_Lstate Wd (aCons (eVar 1) (aCons (eVar 3) aNil))) (gNm 6)) sNext)
    (sSeq (sIf (cVal (eOp dEq (eVar 7) (eC (.int 3)))) (sSeq (sAsg (eCall sp_Lbook Wd (aCons (eVar 1) (aCons (eC (.int 7)) aNil))) (gNm 5))
    (sAsg (eCall sp_Lstate Wd (aCons (eVar 1) (aCons (eVar 5) aNil))) (gNm 6))) sNext)
    (sSeq (sAsg (eOp dIx (eLst (aCons (eCall sp_Ltake Wd (aCons (eVar 1) (aCons (eC (.int 30)) aNil))) (aCons (eCall sp_Ltake Wd (aCons (eVar 1) (aCons (eC (.int 600)) aNil))) aNil))) (eCall sp_Ltake Wd (aCons (eVar 1) (aCons (eC (.int 2)) aNil)))) (gNm 8))
    (sSeq (sAsg (eCall sp_Ldiffers Wd (aCons (eVar 3) (aCons (eVar 4) (aCons (eVar 5) (aCons (eVar 6) (aCons (eVar 8) aNil)))))) (gNm 9))
    (sSeq (sAsg (eLst (aCons (eCall sp_first_difference Wd (aCons (eVar 3) (aCons (eVar 4) (aCons (eVar 5) (aCons (eVar 6) (aCons (eVar 8) aNil)))))) (aCons (eCall sp_first_difference Wd (aCons (eVar 5) (aCons (eVar 6) (aCons (eVar 3) (aCons (eVar 4) (aCons (eVar 8) aNil)))))) aNil))) (gNm 10))
    (sIf (cNot (cVal (eCall sp_Lalike Wd (aCons (eVar 10) (aCons (eLst (aCons (eVar 9) (aCons (eVar 9) aNil))) aNil))))) (sRet (eC (.bl false))) sNext))))))))))))
    (sSeq (sAsg (eTup (aCons (eOp dMulT (eTup (aCons (eC (.int 9)) aNil)) (eArgs dLen (aCons (eVar 3) aNil))) (aCons (eTup aNil) aNil))) (gNm 11))
    (sSeq (sIf (cVal (eOp dNe (eRes RN (fun Wd => (eCall sp_first_difference Wd (aCons (eVar 3) (aCons (eVar 4) (aCons (eVar 3) (aCons (eVar 11) (aCons (eC (.int 1)) aNil)))))))) (eTup (aCons (eC (.str "BadState")) aNil)))) (sRet (eC (.bl false))) sNext)
    (sSeq (sIf (cVal (eOp dNe (eRes RN (fun Wd => (eCall sp_first_difference Wd (aCons (eVar 3) (aCons (eVar 11) (aCons (eVar 3) (aCons (eVar 4) (aCons (eC (.int 5001)) aNil)))))))) (eTup (aCons (eC (.str "BadState")) aNil)))) (sRet (eC (.bl false))) sNext)
    (sRet (eOp dEq (eRes RN (fun Wd => (eCall sp_first_difference Wd (aCons (eVar 3) (aCons (eVar 4) (aCons (eVar 3) (aCons (eVar 4) (aCons (eC (.int 5001)) aNil)))))))) (eTup (aCons (eC (.str "BadCount")) aNil)))))))))
end K13
set_option Elab.async false
set_option linter.all false
set_option maxRecDepth 100000
set_option maxHeartbeats 2000000
namespace K03
open PySem PySem.Spec PyProof.Rows L2 D3
abbrev c_LETTERS : Dv := .str "abcdefghijklmnopqrstuvwxyz"
abbrev c_MAX_ITEMS : Dv := .int 6
abbrev c_MAX_LETTERS : Dv := .int 8
abbrev c_MAX_REFRAINS : Dv := .int 60
abbrev c_MAX_VERSES : Dv := .int 4
def t_Lbegun (Wd : WXd) : TSd :=
    (sSeq (sAsg (eC (.int 0)) (gNm 1))
    (sSeq (sFor (iSeq (eVar 0)) (gNm 2) (sAsg (eOp dMod (eOp dAdd (eOp dAdd (eOp dMul (eVar 1) (eC (.int 48271))) (eOp dMul (eVar 2) (eC (.int 69621)))) (eC (.int 11))) (eC (.int 2147483647))) (gNm 1)))
    (sRet (eLst (aCons (eArgs dList (aCons (eVar 0) aNil)) (aCons (eOp dMul (eVar 1) (eArgs dInt (aCons (eOp dGt (eArgs dLen (aCons (eVar 0) aNil)) (eC (.int 2))) aNil))) aNil))))))
def t_Ltake (Wd : WXd) : TSd :=
    (sSeq (sIf (cVal (eOp dEq (eOp dIx (eVar 0) (eC (.int 0))) (eLst aNil))) (sSeq (sAsg (eOp dMod (eArgs dInt (aCons (eOp dMul (eOp dIx (eVar 0) (eC (.int 1))) (eC (.int 48271))) aNil)) (eC (.int 2147483647))) (gSb (eVar 0) (eC (.int 1)) dSetL))
    (sRet (eOp dMod (eOp dDiv (eOp dIx (eVar 0) (eC (.int 1))) (eC (.int 7))) (eVar 1)))) sNext)
    (sSeq (sAsg (eOp dIx (eOp dIx (eVar 0) (eC (.int 0))) (eC (.int 0))) (gNm 2))
    (sSeq (sAsg (eOp dDiv (eVar 2) (eVar 1)) (gSb (eOp dIx (eVar 0) (eC (.int 0))) (eC (.int 0)) dSetL))
    (sSeq (sIf (cOr (cVal (eOp dEq (eOp dIx (eOp dIx (eVar 0) (eC (.int 0))) (eC (.int 0))) (eC (.int 0)))) (cVal (eOp dEq (eOp dIx (eOp dIx (eVar 0) (eC (.int 0))) (eC (.int 0))) (eUn dNeg (eC (.int 1)))))) (sDrop (eBM "list" dPop (eOp dIx (eVar 0) (eC (.int 0))) (aCons (eC (.int 0)) aNil))) sNext)
    (sRet (eOp dMod (eArgs dInt (aCons (eVar 2) aNil)) (eVar 1)))))))
def t_Lbook (sp_Ltake : Spd) (Wd : WXd) : TSd :=
    (sSeq (sPar 2 3 (aCons (eOp dAdd (eC (.int 1)) (eCall sp_Ltake Wd (aCons (eVar 0) (aCons (eVar 1) aNil)))) (aCons (eLst aNil) aNil)))
    (sSeq (sAsg (eLst (aCons (eC (.str "la")) (aCons (eC (.str "lu")) (aCons (eC (.str "lo")) (aCons (eC (.str "a")) (aCons (eC (.str "zzzzzzzz")) (aCons (eC (.str "la")) aNil))))))) (gNm 4))
    (sSeq (sFor (iRg1 (aCons (eVar 2) aNil)) (gNm 5) (sSeq (sAsg (eLst aNil) (gNm 6))
    (sSeq (sFor (iRg1 (aCons (eOp dIx (eLst (aCons (eC (.int 1)) (aCons (eC (.int 2)) (aCons (eC (.int 2)) (aCons (eC (.int 3)) (aCons (eC (.int 4)) aNil)))))) (eCall sp_Ltake Wd (aCons (eVar 0) (aCons (eC (.int 5)) aNil)))) aNil)) (gNm 7) (sSeq (sAsg (eLst aNil) (gNm 8))
    (sSeq (sFor (iRg1 (aCons (eOp dIx (eLst (aCons (eC (.int 1)) (aCons (eC (.int 2)) (aCons (eC (.int 2)) (aCons (eC (.int 3)) (aCons (eC (.int 6)) aNil)))))) (eCall sp_Ltake Wd (aCons (eVar 0) (aCons (eC (.int 5)) aNil)))) aNil)) (gNm 9) (sSeq (sAsg (eOp dSub (eOp dSub (eVar 2) (eVar 5)) (eC (.int 1))) (gNm 10))
    (sSeq (sAsg (eOp dIx (eLst (aCons (eOp dAdd (eC (.int 1)) (eCall sp_Ltake Wd (aCons (eVar 0) (aCons (eArgs dMax (aCons (eC (.int 1)) (aCons (eVar 10) aNil))) aNil)))) (aCons (eC (.int 1)) aNil))) (eCall sp_Ltake Wd (aCons (eVar 0) (aCons (eC (.int 2)) aNil)))) (gNm 11))
    (sDrop (eBM "list" dAppend (eVar 8) (aCons (eIf (cAnd (cVal (eOp dGt (eVar 10) (eC (.int 0)))) (cVal (eOp dGt (eCall sp_Ltake Wd (aCons (eVar 0) (aCons (eC (.int 3)) aNil))) (eC (.int 0))))) (eOp dAdd (eVar 5) (eVar 11)) (eOp dIx (eVar 4) (eCall sp_Ltake Wd (aCons (eVar 0) (aCons (eC (.int 6)) aNil))))) aNil))))))
    (sDrop (eBM "list" dAppend (eVar 6) (aCons (eArgs dTuple (aCons (eVar 8) aNil)) aNil))))))
    (sDrop (eBM "list" dAppend (eVar 3) (aCons (eArgs dTuple (aCons (eVar 6) aNil)) aNil))))))
    (sRet (eArgs dTuple (aCons (eVar 3) aNil))))))
def t_Lalike (sp_Lalike_rec : Spd) (Wd : WXd) : TSd :=
    (sSeq (sIf (cVal (eOp dIs (eVar 1) (eC .non))) (sRet (eOp dIs (eVar 0) (eC .non))) sNext)
    (sSeq (sIf (cVal (eArgs dIsi (aCons (eVar 1) (aCons (eC (.ty "bool")) aNil)))) (sRet (eAnd (eArgs dIsi (aCons (eVar 0) (aCons (eC (.ty "bool")) aNil))) (eOp dEq (eVar 0) (eVar 1)))) sNext)
    (sSeq (sIf (cVal (eArgs dIsi (aCons (eVar 1) (aCons (eC (.ty "int")) aNil)))) (sRet (eAnd (eArgs dIsi (aCons (eVar 0) (aCons (eC (.ty "int")) aNil))) (eAnd (eNot (eArgs dIsi (aCons (eVar 0) (aCons (eC (.ty "bool")) aNil)))) (eOp dEq (eVar 0) (eVar 1))))) sNext)
    (sSeq (sIf (cVal (eArgs dIsi (aCons (eVar 1) (aCons (eC (.ty "str")) aNil)))) (sRet (eAnd (eArgs dIsi (aCons (eVar 0) (aCons (eC (.ty "str")) aNil))) (eOp dEq (eVar 0) (eVar 1)))) sNext)
    (sSeq (sIf (cOr (cVal (eOp dNe (eArgs dIsi (aCons (eVar 1) (aCons (eC (.ty "tuple")) aNil))) (eArgs dIsi (aCons (eVar 0) (aCons (eC (.ty "tuple")) aNil))))) (cVal (eOp dNe (eArgs dIsi (aCons (eVar 1) (aCons (eC (.ty "list")) aNil))) (eArgs dIsi (aCons (eVar 0) (aCons (eC (.ty "list")) aNil)))))) (sRet (eC (.bl false))) sNext)
    (sSeq (sIf (cVal (eOp dNe (eArgs dLen (aCons (eVar 0) aNil)) (eArgs dLen (aCons (eVar 1) aNil)))) (sRet (eC (.bl false))) sNext)
    (sSeq (sFor (iRg1 (aCons (eArgs dLen (aCons (eVar 1) aNil)) aNil)) (gNm 2) (sIf (cNot (cVal (eCall sp_Lalike_rec Wd (aCons (eOp dIx (eVar 0) (eVar 2)) (aCons (eOp dIx (eVar 1) (eVar 2)) aNil))))) (sRet (eC (.bl false))) sNext))
    (sRet (eC (.bl true))))))))))
def t_is_word (Wd : WXd) : TSd :=
    (sRet (eArgs dIsi (aCons (eVar 0) (aCons (eC (.ty "str")) aNil))))
def t_is_valid_item (sp_is_word : Spd) (Wd : WXd) : TSd :=
    (sSeq (sIf (cVal (eCall sp_is_word Wd (aCons (eVar 2) aNil))) (sRet (eAnd (eChain dLe dLe (eC (.int 1)) (eArgs dLen (aCons (eVar 2) aNil)) (eC c_MAX_LETTERS)) (eArgs dAll (aCons (eLc (iStr (eVar 2)) (Tg.one 3) cYes (eOp (dIn false) (eVar 3) (eC c_LETTERS)) [3]) aNil)))) sNext)
    (sRet (eChain dLt dLt (eVar 1) (eVar 2) (eArgs dLen (aCons (eVar 0) aNil)))))
def t_first_invalid_verse (sp_is_valid_item : Spd) (Wd : WXd) : TSd :=
    (sSeq (sAsg (eOp dIx (eVar 0) (eVar 1)) (gNm 2))
    (sSeq (sIf (cNot (cVal (eChain dLe dLe (eC (.int 1)) (eArgs dLen (aCons (eVar 2) aNil)) (eC c_MAX_VERSES)))) (sRet (eUn dNeg (eC (.int 1)))) sNext)
    (sSeq (sFor (iEnumD (aCons (eVar 2) aNil)) (gUnp 2 (gsCons (gNm 3) (gsCons (gNm 4) gsNil))) (sIf (cOr (cNot (cVal (eChain dLe dLe (eC (.int 1)) (eArgs dLen (aCons (eVar 4) aNil)) (eC c_MAX_ITEMS)))) (cNot (cVal (eArgs dAll (aCons (eLc (iSeq (eVar 4)) (Tg.one 5) cYes (eCall sp_is_valid_item WNo (aCons (eVar 0) (aCons (eVar 1) (aCons (eVar 5) aNil)))) [5]) aNil))))) (sRet (eVar 3)) sNext))
    (sRet (eC .non)))))
def t_validate_book (sp_first_invalid_verse : Spd) (Wd : WXd) : TSd :=
    (sSeq (sIf (cVal (eOp dEq (eArgs dLen (aCons (eVar 0) aNil)) (eC (.int 0)))) sNever sNext)
    (sFor (iRg1 (aCons (eArgs dLen (aCons (eVar 0) aNil)) aNil)) (gNm 1) (sSeq (sAsg (eIf (cVal (eOp dEq (eVar 1) (eC c_MAX_REFRAINS))) (eUn dNeg (eC (.int 1))) (eCall sp_first_invalid_verse Wd (aCons (eVar 0) (aCons (eVar 1) aNil)))) (gNm 2))
    (sIf (cVal (eOp dIsNot (eVar 2) (eC .non))) sNever sNext))))
def t_law (sp_Lbegun : Spd) (sp_Lbook : Spd) (sp_Lstate : Spd) (sp_Ltake : Spd) (sp_Lfrom : Spd) (sp_Lalike : Spd) (sp_advance : Spd) (sp_Lstate_of : Spd) (sp_Lsing : Spd) (sp_word_at : Spd) (sp_next_words : Spd) (Wd : WXd) : TSd :=
    (sSeq (sAsg (eCall sp_Lbegun Wd (aCons (eVar 0) aNil)) (gNm 1))
    (sSeq (sFor (iRg1 (aCons (eC (.int 4)) aNil)) (gNm 2) (sSeq (sAsg (eCall sp_Lbook Wd (aCons (eVar 1) (aCons (eC (.int 9)) aNil))) (gNm 3))
    (sSeq (sAsg (eCall sp_Lstate Wd (aCons (eVar 1) (aCons (eVar 3) aNil))) (gNm 4))
    (sSeq (sAsg (eTup (aCons (eCall sp_Ltake Wd (aCons (eVar 1) (aCons (eOp dIx (eLst (aCons (eC (.int 9)) (aCons (eC (.int 201)) aNil))) (eCall sp_Ltake Wd (aCons (eVar 1) (aCons (eC (.int 2)) aNil)))) aNil))) (aCons (eCall sp_Lfrom Wd (aCons (eVar 4) aNil)) (aCons (eLst aNil) aNil)))) (gUnp 3 (gsCons (gNm 5) (gsCons (gNm 6) (gsCons (gNm 7) gsNil)))))
    (sSeq (sAsg (eArgs dSortedI (aCons (eLc (iRg1 (aCons (eC (.int 4)) aNil)) (Tg.one 10) cYes (eCall sp_Ltake WNo (aCons (eVar 1) (aCons (eOp dAdd (eVar 5) (eC (.int 1))) aNil))) [10]) aNil)) (gNm 8))
    (sSeq (sFor (iRg1 (aCons (eOp dAdd (eVar 5) (eC (.int 1))) aNil)) (gNm 9) (sSeq (sIf (cAnd (cVal (eOp (dIn false) (eVar 9) (eVar 8))) (cNot (cVal (eCall sp_Lalike Wd (aCons (eCall sp_advance Wd (aCons (eVar 3) (aCons (eVar 4) (aCons (eVar 9) aNil)))) (aCons (eCall sp_Lstate_of Wd (aCons (eVar 6) aNil)) aNil)))))) (sRet (eC (.bl false))) sNext)
    (sSeq (sIf (cVal (eOp dLt (eVar 9) (eVar 5))) (sDrop (eBM "list" dAppend (eVar 7) (aCons (eCall sp_Lsing Wd (aCons (eVar 3) (aCons (eVar 6) aNil))) aNil))) sNext)
    (sIf (cAnd (cVal (eOp dLt (eVar 9) (eVar 5))) (cVal (eOp (dIn false) (eOp dAdd (eVar 9) (eC (.int 1))) (eVar 8)))) (sIf (cNot (cVal (eCall sp_Lalike Wd (aCons (eCall sp_word_at Wd (aCons (eVar 3) (aCons (eVar 4) (aCons (eOp dAdd (eVar 9) (eC (.int 1))) aNil)))) (aCons (eOp dIx (eVar 7) (eUn dNeg (eC (.int 1)))) aNil))))) (sRet (eC (.bl false))) sNext) sNext))))
    (sIf (cNot (cVal (eCall sp_Lalike Wd (aCons (eLst (aCons (eCall sp_next_words Wd (aCons (eVar 3) (aCons (eVar 4) (aCons (eVar 5) aNil)))) (aCons (eCall sp_next_words Wd (aCons (eVar 3) (aCons (eVar 4) (aCons (eVar 5) aNil)))) aNil))) (aCons (eLst (aCons (eVar 7) (aCons (eVar 7) aNil))) aNil))))) (sRet (eC (.bl false))) sNext)))))))
    (sRet (eC (.bl true)))))
end K03
set_option Elab.async false
set_option linter.all false
set_option maxRecDepth 100000
set_option maxHeartbeats 2000000
namespace K11
open PySem PySem.Spec PyProof.Rows L2 D3
abbrev c_LETTERS : Dv := .str "abcdefghijklmnopqrstuvwxyz"
abbrev c_MAX_ITEMS : Dv := .int 6
abbrev c_MAX_LETTERS : Dv := .int 8
abbrev c_MAX_REFRAINS : Dv := .int 60
abbrev c_MAX_VERSES : Dv := .int 4
def t_Lbegun (Wd : WXd) : TSd :=
    (sSeq (sAsg (eC (.int 0)) (gNm 1))
    (sSeq (sFor (iSeq (eVar 0)) (gNm 2) (sAsg (eOp dMod (eOp dAdd (eOp dAdd (eOp dMul (eVar 1) (eC (.int 48271))) (eOp dMul (eVar 2) (eC (.int 69621)))) (eC (.int 11))) (eC (.int 2147483647))) (gNm 1)))
    (sRet (eLst (aCons (eArgs dList (aCons (eVar 0) aNil)) (aCons (eOp dMul (eVar 1) (eArgs dInt (aCons (eOp dGt (eArgs dLen (aCons (eVar 0) aNil)) (eC (.int 2))) aNil))) aNil))))))
def t_Ltake (Wd : WXd) : TSd :=
    (sSeq (sIf (cVal (eOp dEq (eOp dIx (eVar 0) (eC (.int 0))) (eLst aNil))) (sSeq (sAsg (eOp dMod (eArgs dInt (aCons (eOp dMul (eOp dIx (eVar 0) (eC (.int 1))) (eC (.int 48271))) aNil)) (eC (.int 2147483647))) (gSb (eVar 0) (eC (.int 1)) dSetL))
    (sRet (eOp dMod (eOp dDiv (eOp dIx (eVar 0) (eC (.int 1))) (eC (.int 7))) (eVar 1)))) sNext)
    (sSeq (sAsg (eOp dIx (eOp dIx (eVar 0) (eC (.int 0))) (eC (.int 0))) (gNm 2))
    (sSeq (sAsg (eOp dDiv (eVar 2) (eVar 1)) (gSb (eOp dIx (eVar 0) (eC (.int 0))) (eC (.int 0)) dSetL))
    (sSeq (sIf (cOr (cVal (eOp dEq (eOp dIx (eOp dIx (eVar 0) (eC (.int 0))) (eC (.int 0))) (eC (.int 0)))) (cVal (eOp dEq (eOp dIx (eOp dIx (eVar 0) (eC (.int 0))) (eC (.int 0))) (eUn dNeg (eC (.int 1)))))) (sDrop (eBM "list" dPop (eOp dIx (eVar 0) (eC (.int 0))) (aCons (eC (.int 0)) aNil))) sNext)
    (sRet (eOp dMod (eArgs dInt (aCons (eVar 2) aNil)) (eVar 1)))))))
def t_Lbook (sp_Ltake : Spd) (Wd : WXd) : TSd :=
    (sSeq (sPar 2 3 (aCons (eOp dAdd (eC (.int 1)) (eCall sp_Ltake Wd (aCons (eVar 0) (aCons (eVar 1) aNil)))) (aCons (eLst aNil) aNil)))
    (sSeq (sAsg (eLst (aCons (eC (.str "la")) (aCons (eC (.str "lu")) (aCons (eC (.str "lo")) (aCons (eC (.str "a")) (aCons (eC (.str "zzzzzzzz")) (aCons (eC (.str "la")) aNil))))))) (gNm 4))
    (sSeq (sFor (iRg1 (aCons (eVar 2) aNil)) (gNm 5) (sSeq (sAsg (eLst aNil) (gNm 6))
    (sSeq (sFor (iRg1 (aCons (eOp dIx (eLst (aCons (eC (.int 1)) (aCons (eC (.int 2)) (aCons (eC (.int 2)) (aCons (eC (.int 3)) (aCons (eC (.int 4)) aNil)))))) (eCall sp_Ltake Wd (aCons (eVar 0) (aCons (eC (.int 5)) aNil)))) aNil)) (gNm 7) (sSeq (sAsg (eLst aNil) (gNm 8))
    (sSeq (sFor (iRg1 (aCons (eOp dIx (eLst (aCons (eC (.int 1)) (aCons (eC (.int 2)) (aCons (eC (.int 2)) (aCons (eC (.int 3)) (aCons (eC (.int 6)) aNil)))))) (eCall sp_Ltake Wd (aCons (eVar 0) (aCons (eC (.int 5)) aNil)))) aNil)) (gNm 9) (sSeq (sAsg (eOp dSub (eOp dSub (eVar 2) (eVar 5)) (eC (.int 1))) (gNm 10))
    (sSeq (sAsg (eOp dIx (eLst (aCons (eOp dAdd (eC (.int 1)) (eCall sp_Ltake Wd (aCons (eVar 0) (aCons (eArgs dMax (aCons (eC (.int 1)) (aCons (eVar 10) aNil))) aNil)))) (aCons (eC (.int 1)) aNil))) (eCall sp_Ltake Wd (aCons (eVar 0) (aCons (eC (.int 2)) aNil)))) (gNm 11))
    (sDrop (eBM "list" dAppend (eVar 8) (aCons (eIf (cAnd (cVal (eOp dGt (eVar 10) (eC (.int 0)))) (cVal (eOp dGt (eCall sp_Ltake Wd (aCons (eVar 0) (aCons (eC (.int 3)) aNil))) (eC (.int 0))))) (eOp dAdd (eVar 5) (eVar 11)) (eOp dIx (eVar 4) (eCall sp_Ltake Wd (aCons (eVar 0) (aCons (eC (.int 6)) aNil))))) aNil))))))
    (sDrop (eBM "list" dAppend (eVar 6) (aCons (eArgs dTuple (aCons (eVar 8) aNil)) aNil))))))
    (sDrop (eBM "list" dAppend (eVar 3) (aCons (eArgs dTuple (aCons (eVar 6) aNil)) aNil))))))
    (sRet (eArgs dTuple (aCons (eVar 3) aNil))))))
def t_Lreached (Wd : WXd) : TSd :=
    (sSeq (sPar 1 2 (aCons (eLst aNil) (aCons (eLst (aCons (eC (.int 0)) aNil)) aNil)))
    (sSeq (sWhile (cVal (eOp dNe (eVar 2) (eLst aNil))) (sSeq (sAsg (eBM "list" dPop (eVar 2) aNil) (gNm 3))
    (sIf (cVal (eOp (dIn true) (eVar 3) (eVar 1))) (sSeq (sDrop (eBM "list" dAppend (eVar 1) (aCons (eVar 3) aNil)))
    (sFor (iSeq (eOp dIx (eVar 0) (eVar 3))) (gNm 4) (sAsg (eOp dAdd (eVar 2) (eLc (iSeq (eVar 4)) (Tg.one 5) (cNot (cVal (eArgs dIsi (aCons (eVar 5) (aCons (eC (.ty "str")) aNil))))) (eVar 5) [5])) (gNm 2)))) sNext)))
    (sRet (eArgs dSortedI (aCons (eVar 1) aNil)))))
def t_is_word (Wd : WXd) : TSd :=
    (sRet (eArgs dIsi (aCons (eVar 0) (aCons (eC (.ty "str")) aNil))))
def t_is_valid_item (sp_is_word : Spd) (Wd : WXd) : TSd :=
    (sSeq (sIf (cVal (eCall sp_is_word Wd (aCons (eVar 2) aNil))) (sRet (eAnd (eChain dLe dLe (eC (.int 1)) (eArgs dLen (aCons (eVar 2) aNil)) (eC c_MAX_LETTERS)) (eArgs dAll (aCons (eLc (iStr (eVar 2)) (Tg.one 3) cYes (eOp (dIn false) (eVar 3) (eC c_LETTERS)) [3]) aNil)))) sNext)
    (sRet (eChain dLt dLt (eVar 1) (eVar 2) (eArgs dLen (aCons (eVar 0) aNil)))))
def t_first_invalid_verse (sp_is_valid_item : Spd) (Wd : WXd) : TSd :=
    (sSeq (sAsg (eOp dIx (eVar 0) (eVar 1)) (gNm 2))
    (sSeq (sIf (cNot (cVal (eChain dLe dLe (eC (.int 1)) (eArgs dLen (aCons (eVar 2) aNil)) (eC c_MAX_VERSES)))) (sRet (eUn dNeg (eC (.int 1)))) sNext)
    (sSeq (sFor (iEnumD (aCons (eVar 2) aNil)) (gUnp 2 (gsCons (gNm 3) (gsCons (gNm 4) gsNil))) (sIf (cOr (cNot (cVal (eChain dLe dLe (eC (.int 1)) (eArgs dLen (aCons (eVar 4) aNil)) (eC c_MAX_ITEMS)))) (cNot (cVal (eArgs dAll (aCons (eLc (iSeq (eVar 4)) (Tg.one 5) cYes (eCall sp_is_valid_item WNo (aCons (eVar 0) (aCons (eVar 1) (aCons (eVar 5) aNil)))) [5]) aNil))))) (sRet (eVar 3)) sNext))
    (sRet (eC .non)))))
def t_validate_book (sp_first_invalid_verse : Spd) (Wd : WXd) : TSd :=
    (sSeq (sIf (cVal (eOp dEq (eArgs dLen (aCons (eVar 0) aNil)) (eC (.int 0)))) sNever sNext)
    (sFor (iRg1 (aCons (eArgs dLen (aCons (eVar 0) aNil)) aNil)) (gNm 1) (sSeq (sAsg (eIf (cVal (eOp dEq (eVar 1) (eC c_MAX_REFRAINS))) (eUn dNeg (eC (.int 1))) (eCall sp_first_invalid_verse Wd (aCons (eVar 0) (aCons (eVar 1) aNil)))) (gNm 2))
    (sIf (cVal (eOp dIsNot (eVar 2) (eC .non))) sNever sNext))))
def t_Lalike (sp_Lalike_rec : Spd) (Wd : WXd) : TSd :=
    (sSeq (sIf (cVal (eOp dIs (eVar 1) (eC .non))) (sRet (eOp dIs (eVar 0) (eC .non))) sNext)
    (sSeq (sIf (cVal (eArgs dIsi (aCons (eVar 1) (aCons (eC (.ty "bool")) aNil)))) (sRet (eAnd (eArgs dIsi (aCons (eVar 0) (aCons (eC (.ty "bool")) aNil))) (eOp dEq (eVar 0) (eVar 1)))) sNext)
    (sSeq (sIf (cVal (eArgs dIsi (aCons (eVar 1) (aCons (eC (.ty "int")) aNil)))) (sRet (eAnd (eArgs dIsi (aCons (eVar 0) (aCons (eC (.ty "int")) aNil))) (eAnd (eNot (eArgs dIsi (aCons (eVar 0) (aCons (eC (.ty "bool")) aNil)))) (eOp dEq (eVar 0) (eVar 1))))) sNext)
    (sSeq (sIf (cVal (eArgs dIsi (aCons (eVar 1) (aCons (eC (.ty "str")) aNil)))) (sRet (eAnd (eArgs dIsi (aCons (eVar 0) (aCons (eC (.ty "str")) aNil))) (eOp dEq (eVar 0) (eVar 1)))) sNext)
    (sSeq (sIf (cOr (cVal (eOp dNe (eArgs dIsi (aCons (eVar 1) (aCons (eC (.ty "tuple")) aNil))) (eArgs dIsi (aCons (eVar 0) (aCons (eC (.ty "tuple")) aNil))))) (cVal (eOp dNe (eArgs dIsi (aCons (eVar 1) (aCons (eC (.ty "list")) aNil))) (eArgs dIsi (aCons (eVar 0) (aCons (eC (.ty "list")) aNil)))))) (sRet (eC (.bl false))) sNext)
    (sSeq (sIf (cVal (eOp dNe (eArgs dLen (aCons (eVar 0) aNil)) (eArgs dLen (aCons (eVar 1) aNil)))) (sRet (eC (.bl false))) sNext)
    (sSeq (sFor (iRg1 (aCons (eArgs dLen (aCons (eVar 1) aNil)) aNil)) (gNm 2) (sIf (cNot (cVal (eCall sp_Lalike_rec Wd (aCons (eOp dIx (eVar 0) (eVar 2)) (aCons (eOp dIx (eVar 1) (eVar 2)) aNil))))) (sRet (eC (.bl false))) sNext))
    (sRet (eC (.bl true))))))))))
def t_law (sp_Lbegun : Spd) (sp_Lbook : Spd) (sp_Lwords : Spd) (sp_Ltake : Spd) (sp_make_certificate : Spd) (sp_max_deviation : Spd) (sp_Lspread : Spd) (sp_Lalike : Spd) (sp_Lturns : Spd) (sp_Loccurrences : Spd) (sp_Lusage : Spd) (sp_Lis_less : Spd) (Wd : WXd) : TSd :=
    (sSeq (sAsg (eCall sp_Lbegun Wd (aCons (eVar 0) aNil)) (gNm 1))
    (sSeq (sFor (iRg1 (aCons (eC (.int 4)) aNil)) (gNm 2) (sSeq (sAsg (eCall sp_Lbook Wd (aCons (eVar 1) (aCons (eC (.int 12)) aNil))) (gNm 3))
    (sSeq (sAsg (eOp dIx (eCall sp_Lwords Wd (aCons (eVar 3) aNil)) (eCall sp_Ltake Wd (aCons (eVar 1) (aCons (eArgs dLen (aCons (eCall sp_Lwords Wd (aCons (eVar 3) aNil)) aNil)) aNil)))) (gNm 4))
    (sSeq (sAsg (eCall sp_make_certificate Wd (aCons (eVar 3) (aCons (eVar 4) aNil))) (gUnp 2 (gsCons (gNm 5) (gsCons (gNm 6) gsNil))))
    (sSeq (sPar 7 8 (aCons (eCall sp_max_deviation Wd (aCons (eVar 3) (aCons (eVar 4) aNil))) (aCons (eTup (aCons (eC (.int 0)) (aCons (eC (.int 1)) aNil))) aNil)))
    (sSeq (sFor (iSeq (eVar 6)) (gNm 9) (sSeq (sAsg (eCall sp_Lspread Wd (aCons (eVar 9) aNil)) (gNm 10))
    (sAsg (eTup (aCons (eOp dAdd (eOp dMul (eOp dIx (eVar 8) (eC (.int 0))) (eOp dIx (eVar 10) (eC (.int 1)))) (eOp dMul (eOp dIx (eVar 10) (eC (.int 0))) (eOp dIx (eVar 8) (eC (.int 1))))) (aCons (eOp dMul (eOp dIx (eVar 8) (eC (.int 1))) (eOp dIx (eVar 10) (eC (.int 1)))) aNil))) (gNm 8))))
    (sSeq (sIf (cOr (cVal (eOp dNe (eOp dMul (eOp dIx (eVar 7) (eC (.int 0))) (eOp dIx (eVar 8) (eC (.int 1)))) (eOp dMul (eOp dIx (eVar 8) (eC (.int 0))) (eOp dIx (eVar 7) (eC (.int 1)))))) (cNot (cVal (eCall sp_Lalike Wd (aCons (eCall sp_max_deviation Wd (aCons (eVar 3) (aCons (eVar 4) aNil))) (aCons (eVar 7) aNil)))))) (sRet (eC (.bl false))) sNext)
    (sFor (iRg1 (aCons (eC (.int 5)) aNil)) (gNm 11) (sSeq (sAsg (eCall sp_Lturns Wd (aCons (eVar 1) (aCons (eVar 3) aNil))) (gNm 12))
    (sSeq (sAsg (eOp dIx (eLst (aCons (eCall sp_Ltake Wd (aCons (eVar 1) (aCons (eC (.int 30)) aNil))) (aCons (eOp dSub (eOp dPow (eC (.int 10)) (eC (.int 18))) (eCall sp_Ltake Wd (aCons (eVar 1) (aCons (eOp dPow (eC (.int 10)) (eC (.int 6))) aNil)))) aNil))) (eCall sp_Ltake Wd (aCons (eVar 1) (aCons (eC (.int 2)) aNil)))) (gNm 13))
    (sSeq (sAsg (eCall sp_Loccurrences Wd (aCons (eVar 3) (aCons (eOp dIx (eCall sp_Lusage Wd (aCons (eVar 3) (aCons (eVar 12) (aCons (eVar 13) aNil)))) (eC (.int 0))) (aCons (eVar 4) aNil)))) (gNm 14))
    (sSeq (sPar 15 16 (aCons (eOp dSub (eOp dMul (eVar 14) (eOp dIx (eOp dIx (eVar 5) (eC (.int 0))) (eC (.int 1)))) (eOp dMul (eVar 13) (eOp dIx (eOp dIx (eVar 5) (eC (.int 0))) (eC (.int 0))))) (aCons (eOp dIx (eOp dIx (eVar 5) (eC (.int 0))) (eC (.int 1))) aNil)))
    (sIf (cVal (eCall sp_Lis_less Wd (aCons (eVar 7) (aCons (eTup (aCons (eArgs dAbs (aCons (eVar 15) aNil)) (aCons (eVar 16) aNil))) aNil)))) (sRet (eC (.bl false))) sNext)))))))))))))
    (sRet (eC (.bl true)))))
end K11
set_option Elab.async false
set_option linter.all false
set_option maxRecDepth 100000
set_option maxHeartbeats 2000000
namespace K20
open PySem PySem.Spec PyProof.Rows L2 D3
abbrev c_LETTERS : Dv := .str "abcdefghijklmnopqrstuvwxyz"
abbrev c_MAX_ITEMS : Dv := .int 6
abbrev c_MAX_LETTERS : Dv := .int 8
abbrev c_MAX_REFRAINS : Dv := .int 60
abbrev c_MAX_VERSES : Dv := .int 4
def t_Lalike (sp_Lalike_rec : Spd) (Wd : WXd) : TSd :=
    (sSeq (sIf (cVal (eArgs dIsi (aCons (eVar 1) (aCons (eC (.ty "dict")) aNil)))) sNever sNext)
    (sSeq (sIf (cVal (eArgs dIsi (aCons (eVar 1) (aCons (eTup (aCons (eC (.ty "tuple")) (aCons (eC (.ty "list")) aNil))) aNil)))) (sSeq (sIf (cOr (cNot (cVal (eArgs dIsi (aCons (eVar 0) (aCons (eTup (aCons (eC (.ty "tuple")) (aCons (eC (.ty "list")) aNil))) aNil))))) (cVal (eOp dNe (eArgs dIsi (aCons (eVar 0) (aCons (eC (.ty "list")) aNil))) (eArgs dIsi (aCons (eVar 1) (aCons (eC (.ty "list")) aNil)))))) (sRet (eC (.bl false))) sNext)
    (sSeq (sIf (cVal (eOp dNe (eArgs dLen (aCons (eVar 0) aNil)) (eArgs dLen (aCons (eVar 1) aNil)))) (sRet (eC (.bl false))) sNext)
    (sRet (eOp dEq (eLc (iRg1 (aCons (eArgs dLen (aCons (eVar 1) aNil)) aNil)) (Tg.one 2) (cNot (cVal (eCall sp_Lalike_rec WNo (aCons (eOp dIx (eVar 0) (eVar 2)) (aCons (eOp dIx (eVar 1) (eVar 2)) aNil))))) (eVar 2) [2]) (eLst aNil))))) sNext)
    (sSeq (sIf (cOr (cVal (eOp dIs (eVar 1) (eC .non))) (cVal (eArgs dIsi (aCons (eVar 1) (aCons (eC (.ty "str")) aNil))))) (sRet (eAnd (eOp dEq (eVar 0) (eVar 1)) (eOp dEq (eArgs dIsi (aCons (eVar 0) (aCons (eC (.ty "str")) aNil))) (eArgs dIsi (aCons (eVar 1) (aCons (eC (.ty "str")) aNil)))))) sNext)
    (sRet (eAnd (eArgs dIsi (aCons (eVar 0) (aCons (eC (.ty "int")) aNil))) (eAnd (eOp dEq (eArgs dIsi (aCons (eVar 0) (aCons (eC (.ty "bool")) aNil))) (eArgs dIsi (aCons (eVar 1) (aCons (eC (.ty "bool")) aNil)))) (eOp dEq (eVar 0) (eVar 1))))))))
def t_is_word (Wd : WXd) : TSd :=
    (sRet (eArgs dIsi (aCons (eVar 0) (aCons (eC (.ty "str")) aNil))))
def t_is_valid_item (sp_is_word : Spd) (Wd : WXd) : TSd :=
    (sSeq (sIf (cVal (eCall sp_is_word Wd (aCons (eVar 2) aNil))) (sRet (eAnd (eChain dLe dLe (eC (.int 1)) (eArgs dLen (aCons (eVar 2) aNil)) (eC c_MAX_LETTERS)) (eArgs dAll (aCons (eLc (iStr (eVar 2)) (Tg.one 3) cYes (eOp (dIn false) (eVar 3) (eC c_LETTERS)) [3]) aNil)))) sNext)
    (sRet (eChain dLt dLt (eVar 1) (eVar 2) (eArgs dLen (aCons (eVar 0) aNil)))))
def t_first_invalid_verse (sp_is_valid_item : Spd) (Wd : WXd) : TSd :=
    (sSeq (sAsg (eOp dIx (eVar 0) (eVar 1)) (gNm 2))
    (sSeq (sIf (cNot (cVal (eChain dLe dLe (eC (.int 1)) (eArgs dLen (aCons (eVar 2) aNil)) (eC c_MAX_VERSES)))) (sRet (eUn dNeg (eC (.int 1)))) sNext)
    (sSeq (sFor (iEnumD (aCons (eVar 2) aNil)) (gUnp 2 (gsCons (gNm 3) (gsCons (gNm 4) gsNil))) (sIf (cOr (cNot (cVal (eChain dLe dLe (eC (.int 1)) (eArgs dLen (aCons (eVar 4) aNil)) (eC c_MAX_ITEMS)))) (cNot (cVal (eArgs dAll (aCons (eLc (iSeq (eVar 4)) (Tg.one 5) cYes (eCall sp_is_valid_item WNo (aCons (eVar 0) (aCons (eVar 1) (aCons (eVar 5) aNil)))) [5]) aNil))))) (sRet (eVar 3)) sNext))
    (sRet (eC .non)))))
def t_validate_book (sp_first_invalid_verse : Spd) (Wd : WXd) : TSd :=
    (sSeq (sIf (cVal (eOp dEq (eArgs dLen (aCons (eVar 0) aNil)) (eC (.int 0)))) sNever sNext)
    (sFor (iRg1 (aCons (eArgs dLen (aCons (eVar 0) aNil)) aNil)) (gNm 1) (sSeq (sAsg (eIf (cVal (eOp dEq (eVar 1) (eC c_MAX_REFRAINS))) (eUn dNeg (eC (.int 1))) (eCall sp_first_invalid_verse Wd (aCons (eVar 0) (aCons (eVar 1) aNil)))) (gNm 2))
    (sIf (cVal (eOp dIsNot (eVar 2) (eC .non))) sNever sNext))))
def t_law (sp_Lmix : Spd) (sp_Ldeep : Spd) (sp_Lnext : Spd) (sp_Luses : Spd) (sp_Lalike : Spd) (sp_advance_songs : Spd) (sp_make_certificate : Spd) (sp_count_by_certificate : Spd) (Wd : WXd) : TSd :=
    (sSeq (sAsg (eCall sp_Lmix Wd (aCons (eVar 0) (aCons (eC (.int 20)) aNil))) (gNm 1))
    (sSeq (sFor (iRg1 (aCons (eC (.int 2)) aNil)) (gNm 2) (sSeq (sAsg (eCall sp_Ldeep Wd (aCons (eVar 1) (aCons (eOp dAdd (eC (.int 2)) (eCall sp_Lnext Wd (aCons (eVar 1) (aCons (eC (.int 59)) aNil)))) aNil))) (gNm 3))
    (sSeq (sAsg (eArgs dTuple (aCons (eLc (iSeq (eVar 3)) (Tg.one 15) cYes (eCall sp_Lnext WNo (aCons (eVar 1) (aCons (eArgs dLen (aCons (eVar 15) aNil)) aNil))) [15]) aNil)) (gNm 4))
    (sSeq (sAsg (eOp dIx (eLst (aCons (eCall sp_Lnext Wd (aCons (eVar 1) (aCons (eC (.int 100)) aNil))) (aCons (eOp dSub (eOp dPow (eC (.int 10)) (eC (.int 18))) (eCall sp_Lnext Wd (aCons (eVar 1) (aCons (eC (.int 100)) aNil)))) aNil))) (eCall sp_Lnext Wd (aCons (eVar 1) (aCons (eC (.int 2)) aNil)))) (gNm 5))
    (sSeq (sAsg (eTup (aCons (eOp dAdd (eLst (aCons (eVar 5) aNil)) (eOp dMul (eLst (aCons (eC (.int 0)) aNil)) (eOp dSub (eArgs dLen (aCons (eVar 3) aNil)) (eC (.int 1))))) (aCons (eDisp (((eC (.str "la")), (eC (.int 0))) :: (((eC (.str "lo")), (eC (.int 0))) :: []))) aNil))) (gUnp 2 (gsCons (gNm 6) (gsCons (gNm 7) gsNil))))
    (sSeq (sFor (iRg1 (aCons (eArgs dLen (aCons (eVar 3) aNil)) aNil)) (gNm 8) (sSeq (sAsg (eCall sp_Luses Wd (aCons (eOp dIx (eVar 6) (eVar 8)) (aCons (eOp dIx (eVar 4) (eVar 8)) (aCons (eArgs dLen (aCons (eOp dIx (eVar 3) (eVar 8)) aNil)) aNil)))) (gNm 9))
    (sFor (iRg1 (aCons (eArgs dLen (aCons (eOp dIx (eVar 3) (eVar 8)) aNil)) aNil)) (gNm 10) (sFor (iSeq (eOp dIx (eOp dIx (eVar 3) (eVar 8)) (eVar 10))) (gNm 11) (sIf (cVal (eArgs dIsi (aCons (eVar 11) (aCons (eC (.ty "str")) aNil)))) (sAsg (eOp dAdd (eOp dKGet (eVar 7) (eVar 11)) (eOp dIx (eVar 9) (eVar 10))) (gSb (eVar 7) (eVar 11) dKSet)) (sAsg (eOp dAdd (eOp dIx (eVar 6) (eVar 11)) (eOp dIx (eVar 9) (eVar 10))) (gSb (eVar 6) (eVar 11) dSetL)))))))
    (sSeq (sAsg (eArgs dTuple (aCons (eLc (iRg1 (aCons (eArgs dLen (aCons (eVar 3) aNil)) aNil)) (Tg.one 8) cYes (eOp dMod (eArgs dInt (aCons (eOp dAdd (eOp dIx (eVar 4) (eVar 8)) (eOp dIx (eVar 6) (eVar 8))) aNil)) (eArgs dLen (aCons (eOp dIx (eVar 3) (eVar 8)) aNil))) [8]) aNil)) (gNm 12))
    (sSeq (sIf (cNot (cVal (eCall sp_Lalike Wd (aCons (eCall sp_advance_songs Wd (aCons (eVar 3) (aCons (eVar 4) (aCons (eVar 5) aNil)))) (aCons (eTup (aCons (eOp dAdd (eOp dKGet (eVar 7) (eC (.str "la"))) (eOp dKGet (eVar 7) (eC (.str "lo")))) (aCons (eVar 12) aNil))) aNil))))) (sRet (eC (.bl false))) sNext)
    (sFor (iSeq (eTup (aCons (eC (.str "la")) (aCons (eC (.str "lo")) aNil)))) (gNm 13) (sSeq (sAsg (eCall sp_make_certificate Wd (aCons (eVar 3) (aCons (eVar 13) aNil))) (gNm 14))
    (sIf (cNot (cVal (eCall sp_Lalike Wd (aCons (eCall sp_count_by_certificate Wd (aCons (eVar 3) (aCons (eVar 13) (aCons (eVar 14) (aCons (eVar 4) (aCons (eVar 12) (aCons (eVar 5) aNil))))))) (aCons (eTup (aCons (eOp dKGet (eVar 7) (eVar 13)) (aCons (eC (.int 1)) aNil))) aNil))))) (sRet (eC (.bl false))) sNext)))))))))))
    (sRet (eC (.bl true)))))
end K20
set_option Elab.async false
set_option linter.all false
set_option maxRecDepth 100000
set_option maxHeartbeats 2000000
namespace K20
open PySem PySem.Spec D3
inductive Itm where
  | ref (n : Int)
  | wd (x : Str)
deriving DecidableEq
abbrev Bk := List (List (List Itm))
def Itm.d : Itm → Dv
  | .ref n => .int n
  | .wd x => .str x
def Itm.isW : Itm → Bool
  | .ref _ => false
  | .wd _ => true
def Itm.short : Itm → Prop
  | .ref _ => True
  | .wd x => x.length ≤ 100000
def vsD (v : List Itm) : Dv := .tup (v.map Itm.d)
def rfD (r : List (List Itm)) : Dv := .tup (r.map vsD)
def bkD (B : Bk) : Dv := .tup (B.map rfD)
theorem Itm.clo (x : Itm) (n : Nat) : x.d.clo n = true := by cases x <;> rfl
theorem vsD_clo (v : List Itm) (n : Nat) : (vsD v).clo n = true := cloL_map fun a _ => a.clo n
theorem rfD_clo (r : List (List Itm)) (n : Nat) : (rfD r).clo n = true := cloL_map fun a _ => vsD_clo a n
theorem bkD_clo (B : Bk) (n : Nat) : (bkD B).clo n = true := cloL_map fun a _ => rfD_clo a n
def spIsWord : Spd := fun ds S Q E => ∃ x : Itm, ds = [x.d] ∧ Q (.bl x.isW) S
theorem r_is_word : ∀ ds S Qd Ed, spIsWord ds S Qd Ed → StClo S → t_is_word (WEx S.length Ed) { nx := fun _ S' => Gc S.length Qd .non S', rt := Gc S.length Qd } (startD 1 ds) S := by
  rintro _ S Qd Ed ⟨x, rfl, h⟩ hc
  unfold t_is_word
  cases x <;> dsimp! only [Itm.d]
  all_goals exact .inl h
/-- the letters of a word -/
def letterOk (c : Nat) : Bool := strIn ⟨#[c]⟩ "abcdefghijklmnopqrstuvwxyz"
def wordOk (w : Str) : Bool := decide (1 ≤ w.length) && decide (w.length ≤ 8) && w.cps.toList.all letterOk
def itemOk (n k : Int) : Itm → Bool
  | .wd w => wordOk w
  | .ref m => decide (k < m) && decide (m < n)
def spIsValidItem : Spd := fun ds S Q E => ∃ (B : Bk) (k : Int) (x : Itm), ds = [bkD B, .int k, x.d] ∧ x.short ∧ Q (.bl (itemOk B.length k x)) S
theorem r_is_valid_item : ∀ ds S Qd Ed, spIsValidItem ds S Qd Ed → StClo S → t_is_valid_item spIsWord (WEx S.length Ed) { nx := fun _ S' => Gc S.length Qd .non S', rt := Gc S.length Qd } (startD 4 ds) S := by
  rintro _ S Qd Ed ⟨B, k, x, rfl, hx, h⟩ hc
  unfold t_is_valid_item
  dsimp! only []
  refine ⟨x, rfl, ?_⟩
  cases x with
  | ref m =>
    dsimp! only [Itm.isW, Itm.d, bkD, List.length_map, c_LETTERS]
    simp only [itemOk] at h
    by_cases h1 : k < m
    · simp only [h1, decide_true, if_true, Bool.true_and] at h ⊢
      exact .inl h
    · simp only [h1, decide_false, Bool.false_and] at h ⊢
      exact .inl h
  | wd w =>
    have hx : w.length ≤ 100000 := hx
    dsimp! only [Itm.isW, Itm.d, bkD, List.length_map, c_LETTERS]
    refine ⟨Nat.le_trans hx (by decide), ?_⟩
    simp only [itemOk, wordOk] at h
    by_cases h1 : 1 ≤ w.length
    · by_cases h2 : w.length ≤ 8
      · have e1 : (1 : Int) ≤ w.length := by omega
        have e2 : (w.length : Int) ≤ 8 := by omega
        simp only [h1, h2, e1, e2, decide_true, if_true, Bool.true_and] at h ⊢
        refine eLc_map ⟨w.cps.toList.map fun c => .str ⟨#[c]⟩, fun _ => True⟩ w.cps.toList (fun c => .str ⟨#[c]⟩) (fun c => .bl (letterOk c)) ?_ rfl trivial ?_ hc (fun _ _ => rfl) ?_ ?_
        · intro R hR
          dsimp! only [iStr]
          exact hR
        · have : w.cps.toList.length = w.length := by simp [Str.length]
          omega
        · intro c hc' K1 K0 hK
          dsimp! only [dIn]
          exact app_nil hK
        · dsimp! only [getL_at, blsOf_mapf, List.all_map]
          exact gc_drop h rfl hc
      · have e1 : (1 : Int) ≤ w.length := by omega
        have e2 : ¬ (w.length : Int) ≤ 8 := by omega
        simp only [h1, h2, e1, e2, decide_true, decide_false, if_true, Bool.false_eq_true, if_false, Bool.true_and, Bool.false_and] at h ⊢
        exact .inl h
    · have e1 : ¬ (1 : Int) ≤ w.length := by omega
      simp only [h1, e1, decide_false, Bool.false_eq_true, if_false, Bool.false_and] at h ⊢
      exact .inl h
def verseOk (n k : Int) (v : List Itm) : Bool := decide (1 ≤ v.length) && decide (v.length ≤ 6) && v.all (itemOk n k)
def firstBad (n k : Int) (r : List (List Itm)) : Dv := if 1 ≤ r.length ∧ r.length ≤ 4 then (match r.findIdx? fun v => !verseOk n k v with
  | some i => .int (i : Nat)
  | none => .non) else .int (-1)
def Small (B : Bk) : Prop := B.length < 100000 ∧ ∀ r ∈ B, r.length < 100000 ∧ ∀ v ∈ r, v.length < 100000 ∧ ∀ x ∈ v, x.short
def spFirstBad : Spd := fun ds S Q E => ∃ (B : Bk) (k : Nat) (r : List (List Itm)), ds = [bkD B, .int k] ∧ Small B ∧ B[k]? = some r ∧ Q (firstBad B.length k r) S
theorem r_first_invalid_verse : ∀ ds S Qd Ed, spFirstBad ds S Qd Ed → StClo S → t_first_invalid_verse spIsValidItem (WEx S.length Ed) { nx := fun _ S' => Gc S.length Qd .non S', rt := Gc S.length Qd } (startD 6 ds) S := by
  rintro _ S Qd Ed ⟨B, k, r, rfl, hB, hk, h⟩ hc
  have hr : r ∈ B := List.mem_of_getElem? hk
  obtain ⟨hB1, hB2⟩ := hB
  obtain ⟨hr1, hr2⟩ := hB2 r hr
  have hk' : (B.map rfD)[k]? = some (rfD r) := by rw [List.getElem?_map, hk]; rfl
  unfold t_first_invalid_verse
  dsimp! only [bkD, atI_nat hk', rfD, List.length_map, c_MAX_VERSES, c_MAX_ITEMS]
  unfold firstBad at h
  by_cases h1 : 1 ≤ r.length
  · by_cases h2 : r.length ≤ 4
    · have e1 : (1 : Int) ≤ r.length := by omega
      have e2 : (r.length : Int) ≤ 4 := by omega
      simp only [h1, h2, e1, e2, and_self, decide_true, if_true, Bool.not_true, Bool.false_eq_true, if_false] at h ⊢
      refine sFor_inv (S1 := S) (jEnum (rfD r) (r.map vsD)) (fun i σ S' => S' = S ∧ (∀ v ∈ r.take i, (!verseOk B.length k v) = false) ∧ ∃ o3 o4, σ = [some (bkD B), some (.int k), some (rfD r), o3, o4, none]) ?_ ?_ ?_ ?_ ?_
      · refine hw_enum (fun R hR => ?_) rfl
        dsimp! only []
        exact hR
      · exact ⟨rfl, fun v hv => by simp at hv, none, none, rfl⟩
      · rintro i σ S' _ ⟨rfl, _⟩
        rfl
      · rintro i d σ S' hd ⟨rfl, hi, o3, o4, rfl⟩ KK hKK
        obtain ⟨v, hv, rfl⟩ := jEnum_get hd
        have hvr : v ∈ r := List.mem_of_getElem? hv
        obtain ⟨hv1, hv2⟩ := hr2 v hvr
        dsimp! only [vsD, List.length_map]
        have hyes : verseOk B.length k v = true → ∀ T, KK [some (bkD B), some (.int k), some (rfD r), some (.int i), some (vsD v), none] (S' ++ T) := fun hy T =>
          hKK _ _ (wk_drop ⟨rfl, fun v' hv' => by
            rw [take_succ hv] at hv'
            rcases List.mem_append.mp hv' with z | z
            · exact hi v' z
            · rw [List.mem_singleton.mp z, hy]; rfl, _, _, rfl⟩ (by simp [cloSl, bkD_clo, rfD_clo, vsD_clo, Dv.clo]) hc)
        have hno : verseOk B.length k v = false → ∀ T, Gc S'.length Qd (.int i) (S' ++ T) := fun hy T => by
          rw [find_first hi hv (by rw [hy]; rfl)] at h
          exact gc_drop h rfl hc
        by_cases g1 : 1 ≤ v.length
        · by_cases g2 : v.length ≤ 6
          · have f1 : (1 : Int) ≤ v.length := by omega
            have f2 : (v.length : Int) ≤ 6 := by omega
            simp only [f1, f2, decide_true, Bool.not_true, Bool.false_eq_true, if_true, if_false]
            have hv3 : verseOk B.length k v = v.all (itemOk B.length k) := by unfold verseOk; simp [g1, g2]
            rw [hv3] at hyes hno
            refine eLc_map (S1 := S') (jSeq (vsD v) (v.map Itm.d)) v Itm.d (fun x => .bl (itemOk B.length k x)) (hw_seq (fun R hR => ?_) rfl) rfl rfl hv1 hc (fun _ _ => rfl) ?_ ?_
            · dsimp! only []
              exact hR
            · intro x hx K1 K0 hK
              dsimp! only []
              exact ⟨B, k, x, rfl, hv2 x hx, app_nil hK⟩
            · dsimp! only [getL_at, blsOf_mapf, List.all_map]
              have e : v.all (id ∘ itemOk B.length k) = v.all (itemOk B.length k) := rfl
              rw [e]
              by_cases g : v.all (itemOk B.length k) = true
              · simp only [g, Bool.not_true, Bool.false_eq_true, if_false]
                exact hyes g _
              · rw [Bool.not_eq_true] at g
                simp only [g, Bool.not_false, if_true]
                exact hno g _
          · have f1 : (1 : Int) ≤ v.length := by omega
            have f2 : ¬ (v.length : Int) ≤ 6 := by omega
            simp only [f1, f2, decide_true, decide_false, Bool.not_false, if_true]
            exact app_nil (hno (by unfold verseOk; simp [g2]))
        · have f1 : ¬ (1 : Int) ≤ v.length := by omega
          simp only [f1, decide_false, Bool.false_eq_true, if_false]
          exact app_nil (hno (by unfold verseOk; simp [g1]))
      · rintro σ S' ⟨rfl, hi, o3, o4, rfl⟩
        dsimp! only []
        rw [jEnum_len, List.take_length] at hi
        rw [find_none hi] at h
        exact .inl h
    · have e1 : (1 : Int) ≤ r.length := by omega
      have e2 : ¬ (r.length : Int) ≤ 4 := by omega
      simp only [h1, h2, e1, e2, and_false, decide_true, decide_false, if_true, if_false, Bool.not_true, Bool.not_false, Bool.false_eq_true] at h ⊢
      exact .inl h
  · have e1 : ¬ (1 : Int) ≤ r.length := by omega
    simp only [h1, e1, false_and, decide_false, if_true, if_false, Bool.not_false, Bool.false_eq_true] at h ⊢
    exact .inl h
structure BkOk (B : Bk) : Prop where
  small : Small B
  pos : 1 ≤ B.length
  le : B.length ≤ 60
  ok : ∀ k r, B[k]? = some r → firstBad B.length (k : Nat) r = .non
def spValidateBook : Spd := fun ds S Q E => ∃ B : Bk, ds = [bkD B] ∧ BkOk B ∧ Q .non S
theorem r_validate_book : ∀ ds S Qd Ed, spValidateBook ds S Qd Ed → StClo S → t_validate_book spFirstBad (WEx S.length Ed) { nx := fun _ S' => Gc S.length Qd .non S', rt := Gc S.length Qd } (startD 3 ds) S := by
  rintro _ S Qd Ed ⟨B, rfl, hB, h⟩ hc
  unfold t_validate_book
  have h1 := hB.pos
  have h2 := hB.le
  have h0 : ¬ (B.length : Int) = 0 := by omega
  dsimp! only [bkD, List.length_map, h0, decide_false, c_MAX_REFRAINS]
  refine sFor_inv (S1 := S) (jRg B.length) (fun i σ S' => S' = S ∧ ∃ o1 o2, σ = [some (bkD B), o1, o2]) (hw_rg1 (fun R hR => ?_) (by omega)) ⟨rfl, none, none, rfl⟩ (fun _ _ _ _ _ => trivial) ?_ ?_
  · dsimp! only [List.length_map]
    exact hR
  · rintro i d σ S' hd ⟨rfl, o1, o2, rfl⟩ KK hKK
    obtain ⟨hi, rfl⟩ := jRg_get hd
    have g : ¬ (i : Int) = 60 := by omega
    dsimp! only [g, decide_false]
    obtain ⟨r, hr⟩ : ∃ r, B[i]? = some r := ⟨_, List.getElem?_eq_getElem hi⟩
    refine ⟨B, i, r, rfl, hB.small, hr, ?_⟩
    rw [hB.ok i r hr]
    dsimp! only []
    exact hKK _ _ (.inl ⟨rfl, _, _, rfl⟩)
  · rintro σ S' ⟨rfl, o1, o2, rfl⟩
    exact .inl h
def turnsOk (B : Bk) (ts : List Int) : Bool := decide (ts.length = B.length) && (ts.zip B).all fun p => decide (0 ≤ p.1) && decide (p.1 < p.2.length)
def tsD (ts : List Int) : Dv := .tup (ts.map Dv.int)
theorem tsD_clo (ts : List Int) (n : Nat) : (tsD ts).clo n = true := cloL_map fun _ _ => rfl
def useOf (size turn starts v : Int) : Int := starts / size + b2i' (decide ((v - turn) % size < starts % size))
def usesL (size : Nat) (turn starts : Int) : List Int := (List.range size).map fun v : Nat => useOf size turn starts v
abbrev Cc := List (Int × Int)
def getC (cc : Cc) (n : Int) : Int := ((cc.find? fun p => decide (p.1 = n)).map (·.2)).getD 0
def putC (cc : Cc) (n m : Int) : Cc := if (cc.any fun p => decide (p.1 = n)) = true then cc.map (fun p => if p.1 = n then (p.1, m) else p) else cc ++ [(n, m)]
def bump (cc : Cc) (n : Int) : Cc := putC cc n (getC cc n + 1)
def bumpI (cc : Cc) : Itm → Cc
  | .wd _ => cc
  | .ref n => bump cc n
def callsOf (v : List Itm) : Cc := v.foldl bumpI []
def dkOf (cc : Cc) : List (L2.Key × Dv) := cc.map fun p => (.inl p.1, .int p.2)
theorem get_at {S T : Store} {m : Mo} : (S ++ m :: T)[S.length]? = some m := by
  rw [List.getElem?_append_right (Nat.le_refl _), Nat.sub_self]; rfl
end K20
set_option Elab.async false
set_option linter.all false
set_option maxRecDepth 100000
set_option maxHeartbeats 2000000
namespace K20
open PySem PySem.Spec D3
def RowAt (S : Store) (x : Dv) (r : List (List Itm)) : Prop := ∃ (b : Nat) (ids : List Nat), x = .obj b ∧ getL S b = some (ids.map Dv.obj) ∧ ids.length = r.length ∧ ∀ (j : Nat) v d, r[j]? = some v → ids[j]? = some d → S[d]? = some (.dk (dkOf (callsOf v)))
def CallsAt (S : Store) (x : Dv) (B : Bk) : Prop := ∃ (a : Nat) (xs : List Dv), x = .obj a ∧ getL S a = some xs ∧ xs.length = B.length ∧ ∀ (k : Nat) r y, B[k]? = some r → xs[k]? = some y → RowAt S y r
theorem get_old {S T : Store} {i : Nat} {m : Mo} (h : S[i]? = some m) : (S ++ T)[i]? = some m := by
  rw [List.getElem?_append_left (at_lt h)]; exact h
theorem RowAt.app {S T : Store} {x : Dv} {r : List (List Itm)} (h : RowAt S x r) : RowAt (S ++ T) x r := by
  obtain ⟨b, ids, rfl, h1, h2, h3⟩ := h
  exact ⟨b, ids, rfl, getL_old h1, h2, fun j v d e1 e2 => get_old (h3 j v d e1 e2)⟩
theorem CallsAt.app {S T : Store} {x : Dv} {B : Bk} (h : CallsAt S x B) : CallsAt (S ++ T) x B := by
  obtain ⟨b, ids, rfl, h1, h2, h3⟩ := h
  exact ⟨b, ids, rfl, getL_old h1, h2, fun j v d e1 e2 => (h3 j v d e1 e2).app⟩
def cntF (B : Bk) (x : Dv) : List (Str × Dv) := [("book", bkD B), ("calls", x)]
end K20
set_option Elab.async false
set_option linter.all false
set_option maxRecDepth 100000
set_option maxHeartbeats 2000000
namespace K20
open PySem PySem.Spec D3
def addAt (l : List Int) (n d : Int) : List Int := l.set n.toNat (l.getD n.toNat 0 + d)
def ccAdd (u : Int) (cc : Cc) (l : List Int) : List Int := cc.foldl (fun l p => addAt l p.1 (u * p.2)) l
def refAdd (us : List Int) (r : List (List Itm)) (l : List Int) : List Int := (us.zip r).foldl (fun l p => ccAdd p.1 (callsOf p.2) l) l
def usesAt (B : Bk) (ts : List Int) (l : List Int) (k : Nat) : List Int := usesL (B.getD k []).length (ts.getD k 0) (l.getD k 0)
def pendStep (B : Bk) (ts : List Int) (l : List Int) (k : Nat) : List Int := refAdd (usesAt B ts l k) (B.getD k []) l
def pendK (B : Bk) (ts : List Int) (l : List Int) (k : Nat) : List Int := (List.range k).foldl (pendStep B ts) l
def rowsK (B : Bk) (ts : List Int) (l : List Int) (k : Nat) : List (List Int) := (List.range k).map fun j => usesAt B ts (pendK B ts l j) j
def finalK (B : Bk) (ts : List Int) (l : List Int) (k : Nat) : List Int := (List.range k).map fun j => (ts.getD j 0 + (pendK B ts l (j + 1)).getD j 0) % ((B.getD j []).length : Int)
theorem addAt_len (l : List Int) (n d : Int) : (addAt l n d).length = l.length := List.length_set
def RowsAt (S : Store) (u : Nat) (rows : List (List Int)) : Prop := ∃ as : List Nat, getL S u = some (as.map Dv.obj) ∧ as.length = rows.length ∧ ∀ (k : Nat) row a, rows[k]? = some row → as[k]? = some a → getL S a = some (row.map Dv.int)
/-- every call lies within the book -/
def Within (B : Bk) : Prop := ∀ r ∈ B, ∀ v ∈ r, ∀ n, Itm.ref n ∈ v → 0 ≤ n ∧ n < B.length
def startL (n : Nat) (s : Int) : List Int := (List.replicate n 0).set 0 s
theorem at_ints {l : List Int} {n : Int} (h0 : 0 ≤ n) (h1 : n < l.length) : L2.atI (l.map Dv.int) n = some (.int (l.getD n.toNat 0)) := by
  obtain ⟨k, rfl⟩ := Int.eq_ofNat_of_zero_le h0
  have hk : k < l.length := by omega
  refine atI_nat ?_
  rw [List.getElem?_map, List.getD_eq_getElem?_getD, Int.toNat_natCast, List.getElem?_eq_getElem hk]; rfl
theorem ix_int {m : Nat} {n : Int} (h0 : 0 ≤ n) (h1 : n < m) : L2.ixN m n = some n.toNat := by
  obtain ⟨k, rfl⟩ := Int.eq_ofNat_of_zero_le h0
  rw [Int.toNat_natCast]
  exact ixN_nat (by omega)
theorem set_ints {l : List Int} {n d : Int} : (l.map Dv.int).set n.toNat (.int (l.getD n.toNat 0 + d)) = (addAt l n d).map Dv.int := by unfold addAt; rw [List.map_set]
end K20
set_option Elab.async false
set_option linter.all false
set_option maxRecDepth 100000
set_option maxHeartbeats 2000000
namespace K20
open PySem PySem.Spec D3
def prodL (rows wts : List (List Int)) : List Int := (rows.zip wts).flatMap fun p => (p.1.zip p.2).map fun q => q.1 * q.2
/-- does the word count here: none stands for every word -/
def counts (w : Option Str) : Itm → Bool
  | .ref _ => false
  | .wd x => match w with
    | none => true
    | some w => decide (x = w)
def wordD : Option Str → Dv
  | none => .non
  | some w => .str w
def wtsOf (B : Bk) (w : Option Str) : List (List Int) := B.map fun r => r.map fun v => ((v.filter (counts w)).length : Int)
end K20
set_option Elab.async false
set_option linter.all false
set_option maxRecDepth 100000
set_option maxHeartbeats 2000000
namespace K20
open PySem PySem.Spec D3
theorem firstBad_non {n k : Int} {r : List (List Itm)} (h : firstBad n k r = .non) : (1 ≤ r.length ∧ r.length ≤ 4) ∧ ∀ v ∈ r, verseOk n k v = true := by
  unfold firstBad at h
  split at h
  · rename_i h1
    refine ⟨h1, fun v hv => ?_⟩
    split at h
    · cases h
    · rename_i h2
      have := List.findIdx?_eq_none_iff.mp h2 v hv
      simpa using this
  · cases h
theorem BkOk.row {B : Bk} (h : BkOk B) {k : Nat} {r : List (List Itm)} (hr : B[k]? = some r) : 1 ≤ r.length ∧ r.length ≤ 4 := (firstBad_non (h.ok k r hr)).1
theorem BkOk.verse {B : Bk} (h : BkOk B) {k : Nat} {r : List (List Itm)} (hr : B[k]? = some r) {v : List Itm} (hv : v ∈ r) : 1 ≤ v.length ∧ v.length ≤ 6 ∧ v.all (itemOk B.length k) = true := by
  have := (firstBad_non (h.ok k r hr)).2 v hv
  unfold verseOk at this
  simp only [Bool.and_eq_true, decide_eq_true_eq] at this
  exact ⟨this.1.1, this.1.2, this.2⟩
theorem BkOk.ref {B : Bk} (h : BkOk B) {k : Nat} {r : List (List Itm)} (hr : B[k]? = some r) {v : List Itm} (hv : v ∈ r) {n : Int} (hn : .ref n ∈ v) : (k : Int) < n ∧ n < B.length := by
  have := List.all_eq_true.mp (h.verse hr hv).2.2 _ hn
  unfold itemOk at this
  simpa using this
theorem BkOk.within {B : Bk} (h : BkOk B) : Within B := fun r hr v hv n hn => by
  obtain ⟨k, hk⟩ := List.getElem?_of_mem hr
  have := h.ref hk hv hn
  omega
theorem turnsOk_len {B : Bk} {ts : List Int} (h : turnsOk B ts = true) : ts.length = B.length := by
  unfold turnsOk at h
  simp only [Bool.and_eq_true, decide_eq_true_eq] at h
  exact h.1
def songWords (B : Bk) (ts : List Int) (s : Int) (w : Option Str) : Int := (prodL (rowsK B ts (startL B.length s) B.length) (wtsOf B w)).sum
def songTurns (B : Bk) (ts : List Int) (s : Int) : List Int := finalK B ts (startL B.length s) B.length
def spAdvanceSongs : Spd := fun ds S Q E => ∃ (B : Bk) (ts : List Int) (s : Int), ds = [bkD B, tsD ts, .int s] ∧ BkOk B ∧ turnsOk B ts = true ∧ 0 ≤ s ∧ s ≤ 1000000000000000000 ∧ Q (.tup [.int (songWords B ts s none), tsD (songTurns B ts s)]) S
end K20
set_option Elab.async false
set_option linter.all false
set_option maxRecDepth 100000
set_option maxHeartbeats 2000000
set_option exponentiation.threshold 5000
namespace K20
open PySem PySem.Spec D3
def encQ (q : Rat) : Dv := .tup [.int q.num, .int (q.den : Nat)]
theorem sWhile_inv {c : TTd} {tb : TSd} {D : EndsD} {σ : Sl} {S : Store} {n0 : Nat} (hn : n0 = S.length) (Pv : Nat → Sl → Store → Prop) (h0 : ∃ m, Pv m σ S)
    (step : ∀ m σ1 S1, Pv m σ1 S1 → ∀ K : Sl → Store → Prop, (∀ σ S, (Wk n0 fun σ' S' => ∃ m', m' < m ∧ Pv m' σ' S') σ S → K σ S) → c σ1 S1 fun b S2 => if b = true then tb { D with nx := K, ct := K, bk := D.nx } σ1 S2 else D.nx σ1 S2) : sWhile c tb D σ S :=
  by subst hn; exact ⟨Pv, h0, fun m σ1 S1 h => step m σ1 S1 h _ fun _ _ h => h⟩
theorem at0 {α : Type} {a : α} {l : List α} : L2.atI (a :: l) (0 : Int) = some a := atI_nat (i := 0) rfl
theorem at1 {α : Type} {a b : α} {l : List α} : L2.atI (a :: b :: l) (1 : Int) = some b := atI_nat (i := 1) rfl
def sumQ (qs : List Rat) : Rat := qs.foldl (· + ·) 0
end K20
set_option Elab.async false
set_option linter.all false
set_option maxRecDepth 100000
set_option maxHeartbeats 2000000
set_option exponentiation.threshold 5000
namespace K20
open PySem PySem.Spec D3
def Bd (D M : Nat) (q : Rat) : Prop := ∃ a : Int, q * (D : Rat) = (a : Rat) ∧ a.natAbs ≤ M
theorem Bd.mono {D M N : Nat} {q : Rat} (h : Bd D M q) (hm : M ≤ N) : Bd D N q := by
  obtain ⟨a, e, ha⟩ := h
  exact ⟨a, e, Nat.le_trans ha hm⟩
theorem Bd.add {D M N : Nat} {p q : Rat} (h : Bd D M p) (h' : Bd D N q) : Bd D (M + N) (p + q) := by
  obtain ⟨a, e, ha⟩ := h
  obtain ⟨b, e', hb⟩ := h'
  refine ⟨a + b, ?_, by omega⟩
  rw [Rat.intCast_add, ← e, ← e']
  grind
theorem Bd.zero {D M : Nat} : Bd D M 0 := ⟨0, by simp, by simp⟩
theorem Bd.one {D : Nat} : Bd D D 1 := ⟨D, by rw [Rat.intCast_natCast, Rat.one_mul], by simp⟩
theorem Bd.scale {D M : Nat} {p : Rat} (k : Nat) (h : Bd D M p) : Bd (D * k) (M * k) p := by
  obtain ⟨a, e, ha⟩ := h
  refine ⟨a * k, ?_, by rw [Int.natAbs_mul, Int.natAbs_natCast]; exact Nat.mul_le_mul_right _ ha⟩
  rw [Rat.intCast_mul, ← e, Rat.natCast_mul]
  have : (((k : Nat) : Int) : Rat) = (k : Rat) := rfl
  rw [this]
  grind
theorem Bd.div {D M : Nat} {p : Rat} {n : Nat} (h : Bd D (n * M) p) (h0 : 0 < n) (h1 : n ≤ 4) : Bd (D * 12) (12 * M) (p / (n : Rat)) := by
  obtain ⟨a, e, ha⟩ := h
  have hn : n = 1 ∨ n = 2 ∨ n = 3 ∨ n = 4 := by omega
  have key : ∀ m : Nat, n * m = 12 → Bd (D * 12) (12 * M) (p / (n : Rat)) := fun m hm => by
    refine ⟨a * m, ?_, ?_⟩
    · have hn0 : (n : Rat) ≠ 0 := by
        intro z
        have : n = 0 := by exact_mod_cast z
        omega
      have hm' : (n : Rat) * (m : Rat) = 12 := by exact_mod_cast congrArg (fun x : Nat => (x : Rat)) hm
      rw [Rat.intCast_mul, ← e, Rat.natCast_mul]
      have e1 : (((m : Nat) : Int) : Rat) = (m : Rat) := rfl
      have e2 : ((12 : Nat) : Rat) = (n : Rat) * (m : Rat) := by rw [hm']; rfl
      rw [e1, e2]
      grind
    · rw [Int.natAbs_mul, Int.natAbs_natCast]
      have := Nat.mul_le_mul_right m ha
      calc a.natAbs * m ≤ n * M * m := this
        _ = n * m * M := by rw [Nat.mul_assoc, Nat.mul_comm M m, ← Nat.mul_assoc]
        _ = 12 * M := by rw [hm]
  rcases hn with rfl | rfl | rfl | rfl
  · exact key 12 rfl
  · exact key 6 rfl
  · exact key 4 rfl
  · exact key 3 rfl
theorem sum_bd {D M : Nat} : ∀ (qs : List Rat) (z : Rat) (N : Nat), Bd D N z → (∀ q ∈ qs, Bd D M q) → Bd D (N + qs.length * M) (qs.foldl (· + ·) z)
  | [], z, N, hz, _ => hz.mono (by simp)
  | q :: qs, z, N, hz, h => by
    have := sum_bd qs (z + q) (N + M) (hz.add (h q List.mem_cons_self)) fun x hx => h x (List.mem_cons_of_mem _ hx)
    refine this.mono ?_
    rw [List.length_cons, Nat.add_mul]
    omega
theorem sumQ_bd {D M : Nat} {qs : List Rat} (h : ∀ q ∈ qs, Bd D M q) : Bd D (qs.length * M) (sumQ qs) := by
  have := sum_bd qs 0 0 (Bd.zero (M := 0)) h
  rwa [Nat.zero_add] at this
end K20
set_option Elab.async false
set_option linter.all false
set_option maxRecDepth 100000
set_option maxHeartbeats 2000000
set_option exponentiation.threshold 5000
namespace K20
open PySem PySem.Spec D3
def itemQ (w : Str) (qs : List Rat) : Itm → Rat
  | .wd x => if x = w then 1 else 0
  | .ref n => qs.getD n.toNat 0
theorem at_map {α : Type} {f : α → Dv} {l : List α} {n : Int} {z : α} (h0 : 0 ≤ n) (h1 : n < l.length) : L2.atI (l.map f) n = some (f (l.getD n.toNat z)) := by
  obtain ⟨k, rfl⟩ := Int.eq_ofNat_of_zero_le h0
  have hk : k < l.length := by omega
  refine atI_nat ?_
  rw [List.getElem?_map, List.getD_eq_getElem?_getD, Int.toNat_natCast, List.getElem?_eq_getElem hk]; rfl
def verseQ (w : Str) (qs : List Rat) (v : List Itm) : Rat := sumQ (v.map (itemQ w qs))
def rateQ (w : Str) (qs : List Rat) (r : List (List Itm)) : Rat := sumQ (r.map (verseQ w qs)) / (r.length : Rat)
def offQ (rate : Rat) (ss : List Rat) (j : Nat) : Rat := sumQ ((ss.take j).map fun s => s - rate)
def rowQ (rate : Rat) (ss : List Rat) : List Rat := (List.range ss.length).map (offQ rate ss)
abbrev Ct := List Rat × List (List Rat)
def stepC (B : Bk) (w : Str) (c : Ct) (k : Nat) : Ct := (c.1.set k (rateQ w c.1 (B.getD k [])), c.2.set k (rowQ (rateQ w c.1 (B.getD k [])) ((B.getD k []).map (verseQ w c.1))))
def certK (B : Bk) (w : Str) (j : Nat) : Ct := (List.range j).foldl (fun c i => stepC B w c (B.length - 1 - i)) (List.replicate B.length 0, List.replicate B.length [])
theorem certK_succ {B : Bk} {w : Str} {j : Nat} : certK B w (j + 1) = stepC B w (certK B w j) (B.length - 1 - j) := by unfold certK; rw [List.range_succ, List.foldl_append]; rfl
theorem certK_len {B : Bk} {w : Str} : ∀ j, (certK B w j).1.length = B.length ∧ (certK B w j).2.length = B.length
  | 0 => by unfold certK; simp
  | j + 1 => by
    rw [certK_succ]
    obtain ⟨h1, h2⟩ := certK_len (B := B) (w := w) j
    exact ⟨by show (List.set _ _ _).length = _; rw [List.length_set]; exact h1, by show (List.set _ _ _).length = _; rw [List.length_set]; exact h2⟩
def rowD (row : List Rat) : Dv := .tup (row.map encQ)
def certD (c : Ct) : Dv := .tup [rowD c.1, .tup (c.2.map rowD)]
theorem item_bd {D M : Nat} {w : Str} {qs : List Rat} (h : ∀ q ∈ qs, Bd D M q) (hD : D ≤ M) (x : Itm) : Bd D M (itemQ w qs x) := by
  cases x with
  | wd y =>
    show Bd D M (if y = w then 1 else 0)
    split
    · exact Bd.one.mono hD
    · exact Bd.zero
  | ref n =>
    show Bd D M (qs.getD n.toNat 0)
    rw [List.getD_eq_getElem?_getD]
    cases e : qs[n.toNat]? with
    | none => exact Bd.zero
    | some q => exact h q (List.mem_of_getElem? e)
theorem verse_bd {D M : Nat} {w : Str} {qs : List Rat} (h : ∀ q ∈ qs, Bd D M q) (hD : D ≤ M) {v : List Itm} (hv : v.length ≤ 6) : Bd D (6 * M) (verseQ w qs v) := by
  have := sumQ_bd (qs := v.map (itemQ w qs)) (D := D) (M := M) fun q hq => by
    obtain ⟨x, _, rfl⟩ := List.mem_map.mp hq
    exact item_bd h hD x
  exact this.mono (by rw [List.length_map]; exact Nat.mul_le_mul_right _ hv)
theorem rate_bd {D M : Nat} {w : Str} {qs : List Rat} (h : ∀ q ∈ qs, Bd D M q) (hD : D ≤ M) {r : List (List Itm)} (hr : 1 ≤ r.length ∧ r.length ≤ 4) (hv : ∀ v ∈ r, v.length ≤ 6) : Bd (D * 12) (72 * M) (rateQ w qs r) := by
  have h1 := sumQ_bd (qs := r.map (verseQ w qs)) (D := D) (M := 6 * M) fun q hq => by
    obtain ⟨v, hv', rfl⟩ := List.mem_map.mp hq
    exact verse_bd h hD (hv v hv')
  rw [List.length_map] at h1
  have h2 := Bd.div h1 hr.1 hr.2
  exact h2.mono (by omega)
theorem cert_bd {B : Bk} (hB : BkOk B) {w : Str} : ∀ j, ∀ q ∈ (certK B w j).1, Bd (12 ^ j) (72 ^ j) q
  | 0 => fun q hq => by
    unfold certK at hq
    have := List.eq_of_mem_replicate (show q ∈ List.replicate B.length (0 : Rat) from hq)
    rw [this]; exact Bd.zero
  | j + 1 => fun q hq => by
    have ih := cert_bd hB (w := w) j
    rw [certK_succ] at hq
    have hD : 12 ^ j ≤ 72 ^ j := Nat.pow_le_pow_left (by decide) j
    rcases List.mem_or_eq_of_mem_set (show q ∈ (certK B w j).1.set _ _ from hq) with z | z
    · have := (ih q z).scale 12
      rw [Nat.pow_succ, Nat.pow_succ]
      exact this.mono (by omega)
    · rw [z]
      rw [Nat.pow_succ, Nat.pow_succ, Nat.mul_comm (72 ^ j)]
      cases e : B[B.length - 1 - j]? with
      | none =>
        rw [List.getD_eq_getElem?_getD, e]
        show Bd _ _ (sumQ [] / ((0 : Nat) : Rat))
        have : sumQ [] / ((0 : Nat) : Rat) = 0 := by
          show (0 : Rat) / _ = 0
          rw [Rat.div_def, Rat.zero_mul]
        rw [this]; exact Bd.zero
      | some r =>
        rw [List.getD_eq_getElem?_getD, e]
        exact rate_bd ih hD (hB.row e) fun v hv => (hB.verse e hv).2.1
end K20
set_option Elab.async false
set_option linter.all false
set_option maxRecDepth 100000
set_option maxHeartbeats 2000000
set_option exponentiation.threshold 5000
namespace K20
open PySem PySem.Spec D3
end K20
set_option Elab.async false
set_option linter.all false
set_option maxRecDepth 100000
set_option maxHeartbeats 2000000
set_option exponentiation.threshold 5000
namespace K20
open PySem PySem.Spec D3
theorem item_congr {w : Str} {qs qs' : List Rat} {x : Itm} (h : ∀ n, x = .ref n → qs.getD n.toNat 0 = qs'.getD n.toNat 0) : itemQ w qs x = itemQ w qs' x := by
  cases x with
  | wd y => rfl
  | ref n => exact h n rfl
theorem verse_congr {w : Str} {qs qs' : List Rat} {v : List Itm} (h : ∀ n, .ref n ∈ v → qs.getD n.toNat 0 = qs'.getD n.toNat 0) : verseQ w qs v = verseQ w qs' v := by
  unfold verseQ
  congr 1
  exact List.map_congr_left fun x hx => item_congr fun n e => h n (by rw [← e]; exact hx)
theorem verses_congr {w : Str} {qs qs' : List Rat} {r : List (List Itm)} (h : ∀ v ∈ r, ∀ n, .ref n ∈ v → qs.getD n.toNat 0 = qs'.getD n.toNat 0) : r.map (verseQ w qs) = r.map (verseQ w qs') :=
  List.map_congr_left fun v hv => verse_congr (h v hv)
theorem rate_congr {w : Str} {qs qs' : List Rat} {r : List (List Itm)} (h : ∀ v ∈ r, ∀ n, .ref n ∈ v → qs.getD n.toNat 0 = qs'.getD n.toNat 0) : rateQ w qs r = rateQ w qs' r := by
  unfold rateQ
  rw [verses_congr h]
/-- the rates and the offsets, each from the rates -/
structure CertOk (B : Bk) (w : Str) (c : Ct) (from_ : Nat) : Prop where
  rate : ∀ (k : Nat) r, from_ ≤ k → B[k]? = some r → c.1[k]? = some (rateQ w c.1 r)
  row : ∀ (k : Nat) r, from_ ≤ k → B[k]? = some r → c.2[k]? = some (rowQ (rateQ w c.1 r) (r.map (verseQ w c.1)))
theorem getD_set_ne {qs : List Rat} {k m : Nat} {x : Rat} (h : k ≠ m) : (qs.set k x).getD m 0 = qs.getD m 0 := by
  rw [List.getD_eq_getElem?_getD, List.getD_eq_getElem?_getD, List.getElem?_set_ne h]
theorem cert_ok {B : Bk} (hB : BkOk B) (w : Str) : ∀ j, j ≤ B.length → CertOk B w (certK B w j) (B.length - j)
  | 0, _ => ⟨fun k r hk hr => by have := at_lt hr; omega, fun k r hk hr => by have := at_lt hr; omega⟩
  | j + 1, hj => by
    have ih := cert_ok hB w j (by omega)
    have hs := certK_succ (B := B) (w := w) (j := j)
    obtain ⟨l1, l2⟩ := certK_len (B := B) (w := w) j
    have hk' : B.length - (j + 1) = B.length - 1 - j := by omega
    -- the refrain of this step
    obtain ⟨r0, hr0⟩ : ∃ r0, B[B.length - 1 - j]? = some r0 := ⟨_, List.getElem?_eq_getElem (by omega)⟩
    have hg0 : B.getD (B.length - 1 - j) [] = r0 := by rw [List.getD_eq_getElem?_getD, hr0]; rfl
    unfold stepC at hs
    rw [hg0] at hs
    have cg : ∀ (k : Nat) r, B.length - 1 - j ≤ k → B[k]? = some r → ∀ v ∈ r, ∀ n, Itm.ref n ∈ v → (certK B w j).1.getD n.toNat 0 = (certK B w (j + 1)).1.getD n.toNat 0 := by
      intro k r hk hr v hv n hn
      obtain ⟨h1, h2⟩ := hB.ref hr hv hn
      rw [hs]
      exact (getD_set_ne (by omega)).symm
    refine ⟨fun k r hk hr => ?_, fun k r hk hr => ?_⟩
    · rw [← rate_congr (cg k r (by omega) hr)]
      by_cases e : k = B.length - 1 - j
      · subst e
        rw [hr0] at hr
        cases hr
        rw [hs]
        exact List.getElem?_set_self (by omega)
      · rw [hs]
        show ((certK B w j).1.set _ _)[k]? = _
        rw [List.getElem?_set_ne (fun z => e z.symm)]
        exact ih.rate k r (by omega) hr
    · rw [← rate_congr (cg k r (by omega) hr), ← verses_congr (cg k r (by omega) hr)]
      by_cases e : k = B.length - 1 - j
      · subst e
        rw [hr0] at hr
        cases hr
        rw [hs]
        exact List.getElem?_set_self (by omega)
      · rw [hs]
        show ((certK B w j).2.set _ _)[k]? = _
        rw [List.getElem?_set_ne (fun z => e z.symm)]
        exact ih.row k r (by omega) hr
end K20
set_option Elab.async false
set_option linter.all false
set_option maxRecDepth 100000
set_option maxHeartbeats 2000000
set_option exponentiation.threshold 5000
namespace K20
open PySem PySem.Spec D3
structure CertFull (B : Bk) (w : Str) (c : Ct) : Prop where
  l1 : c.1.length = B.length
  l2 : c.2.length = B.length
  rate : ∀ (k : Nat) r, B[k]? = some r → c.1[k]? = some (rateQ w c.1 r)
  row : ∀ (k : Nat) r, B[k]? = some r → c.2[k]? = some (rowQ (rateQ w c.1 r) (r.map (verseQ w c.1)))
  b1 : ∀ q ∈ c.1, Bd (12 ^ 60) (72 ^ 60) q
theorem Bd.up {j : Nat} {q : Rat} (h : Bd (12 ^ j) (72 ^ j) q) (hj : j ≤ 60) : Bd (12 ^ 60) (72 ^ 60) q := by
  have h1 := h.scale (12 ^ (60 - j))
  rw [← Nat.pow_add, Nat.add_sub_cancel' hj] at h1
  refine h1.mono ?_
  have h2 : 12 ^ (60 - j) ≤ 72 ^ (60 - j) := Nat.pow_le_pow_left (by decide) _
  calc 72 ^ j * 12 ^ (60 - j) ≤ 72 ^ j * 72 ^ (60 - j) := Nat.mul_le_mul_left _ h2
    _ = 72 ^ 60 := by rw [← Nat.pow_add, Nat.add_sub_cancel' hj]
theorem cert_full {B : Bk} (hB : BkOk B) (w : Str) : CertFull B w (certK B w B.length) := by
  obtain ⟨h1, h2⟩ := certK_len (B := B) (w := w) B.length
  have h3 := cert_ok hB w B.length (Nat.le_refl _)
  rw [Nat.sub_self] at h3
  exact ⟨h1, h2, fun k r hr => h3.rate k r (Nat.zero_le _) hr, fun k r hr => h3.row k r (Nat.zero_le _) hr, fun q hq => (cert_bd hB B.length q hq).up hB.le⟩
def spMakeCert : Spd := fun ds S Q E => ∃ (B : Bk) (w : Str), ds = [bkD B, .str w] ∧ BkOk B ∧ Q (certD (certK B w B.length)) S
end K20
set_option Elab.async false
set_option linter.all false
set_option maxRecDepth 100000
set_option maxHeartbeats 2000000
set_option exponentiation.threshold 5000
namespace K11
open PySem PySem.Spec D3 K20
theorem denL_ints {f : Nat → Option PyData} : ∀ ns : List Int, denL f (ns.map Dv.int) = some (ns.map PyData.int)
  | [] => by simp [denL]
  | n :: ns => by
    rw [List.map_cons, denL, denL_ints ns]
    rfl
theorem shaped_ints (ns : List Int) : SeqAt.shaped (.list (ns.map PyData.int)) = true := by
  have h1 : ∀ ns : List Int, PyData.canLayAll0 (ns.map PyData.int) = true := fun ns => by
    induction ns with
    | nil => simp [PyData.canLayAll0]
    | cons n ns ih => simp [PyData.canLayAll0, PyData.canLay0, ih]
  have h2 : ∀ ns : List Int, PyData.depthAll (ns.map PyData.int) ≤ 1 := fun ns => by
    induction ns with
    | nil => simp [PyData.depthAll]
    | cons n ns ih => simp [PyData.depthAll, PyData.depth]; omega
  have h3 := h2 ns
  simp [SeqAt.shaped, PyData.canLay0, PyData.depth, h1 ns]
  omega
theorem fO_ints {S : Store} {b : Nat} {ns : List Int} (h : getL S b = some (ns.map Dv.int)) : den (fO S 4) (.obj b) = some (.list (ns.map PyData.int)) := by
  show fO S 4 b = _
  rw [fO, h]
  show (denL (fO S 3) (ns.map Dv.int)).map PyData.list = _
  rw [denL_ints]; rfl
theorem eqv_nil (ns : List Int) : PyData.eqv (.list (ns.map PyData.int)) (.list []) = decide (ns = []) := by
  cases ns <;> simp [PyData.eqv, PyData.eqvAll]
theorem dEq_nil {S : Store} {b c : Nat} {ns : List Int} {Q : KD} (hb : getL S b = some (ns.map Dv.int)) (hc : getL S c = some []) (h : Q (.bl (decide (ns = []))) S) : dEq (.obj b) (.obj c) S Q := by
  refine ⟨_, _, fO_ints hb, fO_ints (ns := []) hc, shaped_ints ns, shaped_ints [], ?_⟩
  rw [List.map_nil, eqv_nil]
  exact h
theorem dNe_nil {S : Store} {b c : Nat} {ns : List Int} {Q : KD} (hb : getL S b = some (ns.map Dv.int)) (hc : getL S c = some []) (h : Q (.bl (!decide (ns = []))) S) : dNe (.obj b) (.obj c) S Q := by
  refine ⟨_, _, fO_ints hb, fO_ints (ns := []) hc, shaped_ints ns, shaped_ints [], ?_⟩
  rw [List.map_nil, eqv_nil]
  exact h
def Bx (a b : Nat) (S : Store) : Prop := ∃ (z : Int) (ns : List Int), S[a]? = some (.lst [.obj b, .int z]) ∧ S[b]? = some (.lst (ns.map Dv.int))
theorem Bx.ne {a b : Nat} {S : Store} (h : Bx a b S) : a ≠ b := by
  rintro rfl
  obtain ⟨z, ns, h1, h2⟩ := h
  rw [h1] at h2
  cases ns with
  | nil => cases h2
  | cons x xs => cases h2
theorem Bx.app {a b : Nat} {S T : Store} (h : Bx a b S) : Bx a b (S ++ T) := by
  obtain ⟨z, ns, h1, h2⟩ := h
  exact ⟨z, ns, get_old h1, get_old h2⟩
theorem Bx.lt {a b : Nat} {S : Store} (h : Bx a b S) : a < S.length ∧ b < S.length := by
  obtain ⟨z, ns, h1, h2⟩ := h
  exact ⟨at_lt h1, at_lt h2⟩
structure Bup (a b : Nat) (S S' : Store) : Prop where
  len : S'.length = S.length
  bx : Bx a b S'
  oth : ∀ i, i ≠ a → i ≠ b → S'[i]? = S[i]?
theorem Bup.trans {a b : Nat} {S S1 S2 : Store} (h : Bup a b S S1) (h' : Bup a b S1 S2) : Bup a b S S2 := ⟨h'.len.trans h.len, h'.bx, fun i x y => (h'.oth i x y).trans (h.oth i x y)⟩
theorem Bup.refl {a b : Nat} {S : Store} (h : Bx a b S) : Bup a b S S := ⟨rfl, h, fun _ _ _ => rfl⟩
theorem bup_app {a b : Nat} {S1 T S2 : Store} (hs : Bx a b S1) (h : Bup a b (S1 ++ T) S2) : ∃ S1', S2 = S1' ++ T ∧ Bup a b S1 S1' := by
  obtain ⟨la, lb⟩ := hs.lt
  have hl : S2.length = S1.length + T.length := by rw [h.len, List.length_append]
  have e : S2 = S2.take S1.length ++ T := by
    refine List.ext_getElem? fun i => ?_
    by_cases hi : i < S1.length
    · rw [List.getElem?_append_left (by rw [List.length_take]; omega), List.getElem?_take_of_lt hi]
    · rw [List.getElem?_append_right (by rw [List.length_take]; omega), List.length_take, Nat.min_eq_left (by omega), h.oth i (by omega) (by omega), List.getElem?_append_right (by omega)]
  refine ⟨_, e, by rw [List.length_take]; omega, ?_, fun i h1 h2 => ?_⟩
  · obtain ⟨z, ns, h1, h2⟩ := h.bx
    exact ⟨z, ns, by rw [List.getElem?_take_of_lt la]; exact h1, by rw [List.getElem?_take_of_lt lb]; exact h2⟩
  · by_cases hi : i < S1.length
    · rw [List.getElem?_take_of_lt hi, h.oth i h1 h2, List.getElem?_append_left hi]
    · rw [List.getElem?_eq_none (by rw [List.length_take]; omega), List.getElem?_eq_none (by omega)]
theorem stclo_bup {a b : Nat} {S S' : Store} (hc : StClo S) (h : Bup a b S S') : StClo S' := by
  intro m hm
  obtain ⟨i, hi⟩ := List.getElem?_of_mem hm
  rw [h.len]
  obtain ⟨z, ns, h1, h2⟩ := h.bx
  by_cases e1 : i = a
  · subst e1
    rw [h1] at hi
    cases hi
    have hb := at_lt h2
    rw [h.len] at hb
    show (decide (b < S.length) && (true && true)) = true
    rw [decide_eq_true hb]; rfl
  · by_cases e2 : i = b
    · subst e2
      rw [h2] at hi
      cases hi
      exact cloL_ints
    · rw [h.oth i e1 e2] at hi
      exact hc m (List.mem_of_getElem? hi)
theorem gc_bup {a b : Nat} {S S' T : Store} {Q : KD} {d : Dv} (hc : StClo S) (hu : Bup a b S S') (hd : d.clo S.length = true) (h : Q d S') : Gc S.length Q d (S' ++ T) := by
  have := gc_drop (T := T) h (by rw [hu.len]; exact hd) (stclo_bup hc hu)
  rwa [hu.len] at this
def spBegun : Spd := fun ds S Q E => ∃ (x : Dv) (ns : List Int), ds = [x] ∧ seqOf S x = some (ns.map Dv.int) ∧ ns.length ≤ 63 ∧ ∀ z, Q (.obj (S.length + 1)) (S ++ [.lst (ns.map Dv.int), .lst [.obj S.length, .int z]])
theorem r_begun : ∀ ds S Qd Ed, spBegun ds S Qd Ed → StClo S → t_Lbegun (WEx S.length Ed) { nx := fun _ S' => Gc S.length Qd .non S', rt := Gc S.length Qd } (startD 3 ds) S := by
  rintro _ S Qd Ed ⟨x, ns, rfl, hx, hl, h⟩ hc
  unfold t_Lbegun
  dsimp! only []
  refine sFor_inv (S1 := S) (jSeq x (ns.map Dv.int)) (fun i σ S' => S' = S ∧ ∃ m o, σ = [some x, some (.int m), o]) (hw_seq (fun R hR => ?_) hx) ⟨rfl, _, _, rfl⟩ (fun i σ S' _ hP => by rw [hP.1]; exact hx) ?_ ?_
  · dsimp! only []
    exact hR
  · rintro i d σ S' hd ⟨rfl, m, o, rfl⟩ K hK
    obtain ⟨z, hz, rfl⟩ := jSeq_get hd
    dsimp! only []
    exact ⟨.inl (.inr ⟨by decide, by decide⟩), .inl (.inr ⟨by decide, by decide⟩), by decide, hK _ _ (.inl ⟨rfl, _, _, rfl⟩)⟩
  · rintro σ S' ⟨rfl, m, o, rfl⟩
    have hdl : ∀ Q : KD, Q (.obj S'.length) (S' ++ [.lst (ns.map Dv.int)]) → dList [x] S' Q := fun Q q => ⟨_, hx, q⟩
    have hln : ∀ (T : Store) (Q : KD), Q (.int ns.length) (S' ++ T) → dLen [x] (S' ++ T) Q := fun T Q q => by
      have hx' : seqOf (S' ++ T) x = some (ns.map Dv.int) := by
        cases x <;> first | exact hx | exact getL_old hx | cases hx
      cases x <;> first | (cases hx'; done) | skip
      all_goals (show ∃ _, _; refine ⟨_, hx', ?_⟩; rw [List.length_map]; exact q)
    simp only [sSeq, sAsg, sNext, sBreak, sCont, sDrop, sRet, sRetN, sIf, sPar, sPar3, sAug, sNever, D3.sFld, D3.sFldAug, sAugS, gNm, gsNil, gsCons, gUnp, gSb, eVar, eC, eOp, eUn, eChain, eAnd, eOr, eNot, eIf, eTup, eLst, eArgs, eSl, eBM, aNil, aCons, cVal, cAnd, cOr, cNot, cYes, oNo, oSome, eFld, eMake, eMeth, eCall, eKNew, eKGet1, eKGet2, eDisp, tPairsD, dAdd, dSub, dMul, dDiv, dMod, dPow, dNeg, dCmpI, dIs, dIsNot, isNon, dEq, dNe, sEq, dIx, dSlice, dInt, b2i', dAbs, dMax, dMin, dSum, dAll, dAny, dOrd, dStrI, dIsi, tyOf, isB, isTy, String.reduceBEq, Bool.or_true, Bool.true_or, Bool.or_false, Bool.false_or, Bool.and_true, Bool.and_false, Bool.false_and, Bool.true_and, dAppend, dPop, dExtend, dSetL, dGetL, dAddA, dSubA, dMulA, dKGet, dKSet, tyD, Tg.rd, setsD, wipeD, startD, List.map_cons, List.map_nil, List.length_cons, List.length_nil, List.replicate, List.cons_append, List.nil_append, List.getElem?_cons_zero, List.getElem?_cons_succ, List.set_cons_zero, List.set_cons_succ, Option.some.injEq, exists_eq_left', exists_eq_left, Dv.int.injEq, Dv.bl.injEq, Dv.str.injEq, Dv.tup.injEq, Dv.obj.injEq, Mo.dk.injEq, Mo.lst.injEq, Mo.ldk.injEq, Mo.ins.injEq, exists_eq', exists_eq, List.cons.injEq, and_true, true_and, true_or, or_true, eq_self, decide_true, decide_false, cast2, and_assoc, exists_and_left, exists_and_right, exists_const, exists_eq_right, exists_eq_right_right, Nat.reduceAdd, Nat.reduceSub, Nat.zero_add, List.length_append, st_get0, st_getk, st_set0, st_setk, st_getL0, st_getLk, getL_c0, getL_cs, line0, line1, line2, line3, flatten1, Int.toNat_natCast, Nat.one_mul, List.append_assoc, List.append_nil, Nat.reduceLeDiff, ite_true, ite_false, if_true, if_false, Bool.false_eq_true, Bool.not_true, Bool.not_false, Bool.not_eq_true, and_self, false_and, and_false]
    refine hdl _ ?_
    refine hln _ _ ?_
    dsimp! only []
    refine ⟨.inl (.inr (by split <;> exact ⟨by decide, by decide⟩)), .inl (h _)⟩
def spTake : Spd := fun ds S Q E => ∃ (a b : Nat) (lim : Int), ds = [.obj a, .int lim] ∧ Bx a b S ∧ 0 < lim ∧ lim < 100000000 ∧ ∀ r S', 0 ≤ r → r < lim → Bup a b S S' → Q (.int r) S'
theorem r_take : ∀ ds S Qd Ed, spTake ds S Qd Ed → StClo S → t_Ltake (WEx S.length Ed) { nx := fun _ S' => Gc S.length Qd .non S', rt := Gc S.length Qd } (startD 3 ds) S := by
  rintro _ S Qd Ed ⟨a, b, lim, rfl, hh, hl0, hl1, h⟩ hc
  have hab := hh.ne
  obtain ⟨z, ns, ha, hb⟩ := hh
  have hla := at_lt ha
  have hlb := at_lt hb
  have ga : getL S a = some [.obj b, .int z] := getL_iff.mpr ha
  have gb : getL S b = some (ns.map Dv.int) := getL_iff.mpr hb
  have hlim : ∀ i, DivOk i lim := fun i => .inl ⟨hl0, by omega⟩
  unfold t_Ltake
  refine seqI (ifI ?_)
  simp! only [ga, at0]
  refine dEq_nil (getL_old gb) getL_at ?_
  by_cases e : ns = []
  · subst e
    have gset : ∀ (S0 T : Store) (xs : List Dv), a < S0.length → getL (S0.set a (.lst xs) ++ T) a = some xs := fun S0 T xs h => getL_old (getL_iff.mpr (List.getElem?_set_self h))
    have i21 : L2.ixN 2 (1 : Int) = some 1 := rfl
    dsimp! only [getL_old ga, at0, at1]
    refine ⟨.inl (.inr ⟨by decide, by decide⟩), by decide, 1, i21, ?_⟩
    rw [List.set_append_left _ _ hla]
    refine ⟨_, gset S _ _ hla, _, at1, ?_⟩
    refine ⟨.inl ⟨by decide, by decide⟩, hl0, ?_⟩
    have hu : Bup a b S (S.set a (.lst [.obj b, .int (z * 48271 % 2147483647)])) := ⟨List.length_set, ⟨_, [], List.getElem?_set_self hla, by rw [List.getElem?_set_ne hab]; exact hb⟩, fun i h1 h2 => List.getElem?_set_ne (fun q => h1 q.symm)⟩
    exact gc_bup hc hu rfl (h _ _ (Int.emod_nonneg _ (by omega)) (Int.emod_lt_of_pos _ hl0) hu)
  · obtain ⟨f, rest, rfl⟩ : ∃ f rest, ns = f :: rest := by
      cases ns with
      | nil => exact (e rfl).elim
      | cons f rest => exact ⟨f, rest, rfl⟩
    have gset : ∀ (S0 T : Store) (xs : List Dv), b < S0.length → getL (S0.set b (.lst xs) ++ T) b = some xs := fun S0 T xs h => getL_old (getL_iff.mpr (List.getElem?_set_self h))
    have gsea : ∀ (T : Store) (xs : List Dv), getL (S.set b (.lst xs) ++ T) a = some [.obj b, .int z] := fun T xs => getL_old (getL_iff.mpr (by rw [List.getElem?_set_ne (fun q => hab q.symm)]; exact ha))
    have ixs : ∀ n : Nat, L2.ixN (n + 1) (0 : Int) = some 0 := fun n => ixN_nat (k := 0) (by omega)
    have hmap : (f :: rest).map Dv.int = .int f :: rest.map Dv.int := rfl
    have r0 := Int.emod_nonneg f (Int.ne_of_gt hl0)
    have r1 := Int.emod_lt_of_pos f hl0
    simp! only [e]
    refine seqI ?_
    simp! only [getL_old ga, getL_old gb, at0, at1, List.length_map, ixs, hmap]
    refine seqI ?_
    simp! only [getL_old ga, getL_old gb, at0, at1, List.length_map, ixs, hmap]
    refine ⟨hlim f, ?_⟩
    rw [List.set_append_left _ _ hlb]
    refine seqI (ifI ?_)
    have hu1 : Bup a b S (S.set b (.lst ((f / lim :: rest).map Dv.int))) := ⟨List.length_set, ⟨z, f / lim :: rest, by rw [List.getElem?_set_ne (fun q => hab q.symm)]; exact ha, List.getElem?_set_self hlb⟩, fun i h1 h2 => List.getElem?_set_ne (fun q => h2 q.symm)⟩
    have hu2 : Bup a b S (S.set b (.lst (rest.map Dv.int))) := ⟨List.length_set, ⟨z, rest, by rw [List.getElem?_set_ne (fun q => hab q.symm)]; exact ha, List.getElem?_set_self hlb⟩, fun i h1 h2 => List.getElem?_set_ne (fun q => h2 q.symm)⟩
    have hsb : ∀ T, (S.set b (.lst (.int (f / lim) :: rest.map Dv.int)) ++ T)[b]? = some (.lst (.int (f / lim) :: rest.map Dv.int)) := fun T => get_old (List.getElem?_set_self hlb)
    have hpop : ∀ T, (S.set b (.lst (.int (f / lim) :: rest.map Dv.int)) ++ T).set b (.lst (rest.map Dv.int)) = S.set b (.lst (rest.map Dv.int)) ++ T := fun T => by
      rw [List.set_append_left _ _ (by rw [List.length_set]; exact hlb), List.set_set]
    have hq : seqIndex? 0 (rest.length + 1) = some 0 := by unfold seqIndex?; simp
    have hend : Gc S.length Qd (.int (f % lim)) (S.set b (.lst (rest.map Dv.int)) ++ [.lst []]) := gc_bup hc hu2 rfl (h _ _ r0 r1 hu2)
    have hend1 : Gc S.length Qd (.int (f % lim)) (S.set b (.lst (.int (f / lim) :: rest.map Dv.int)) ++ [.lst []]) := gc_bup hc hu1 rfl (h _ _ r0 r1 hu1)
    by_cases c0 : f / lim = 0
    · simp only [c0] at gset hpop hsb
      dsimp! only [gsea, gset S _ _ hlb, at0, at1, c0, hsb, List.length_map, hq, hpop]
      refine ⟨by decide, by decide, hl0, ?_⟩
      rw [List.eraseIdx_cons_zero, hpop]
      exact hend
    · by_cases c1 : f / lim = -1
      · simp only [c1] at gset hpop hsb
        have m1 : ¬ (-1 : Int) = 0 := by decide
        dsimp! only [gsea, gset S _ _ hlb, at0, at1, c0, c1, m1, hsb, List.length_map, hq, hpop]
        refine ⟨by decide, by decide, hl0, ?_⟩
        rw [List.eraseIdx_cons_zero, hpop]
        exact hend
      · dsimp! only [gsea, gset S _ _ hlb, at0, at1, c0, c1, hsb, List.length_map, hq, hpop]
        exact ⟨hl0, hend1⟩
end K11
set_option Elab.async false
set_option linter.all false
set_option maxRecDepth 100000
set_option maxHeartbeats 2000000
set_option exponentiation.threshold 5000
namespace K11
open PySem PySem.Spec D3 K20
def alD : Nat → Dv → Bool
  | _, .int _ => true
  | n + 1, .tup ds => decide (ds.length < 100000) && ds.all (alD n)
  | _, _ => false
def spAlike (n : Nat) : Spd := fun ds S Q E => ∃ d, ds = [d, d] ∧ alD n d = true ∧ Q (.bl true) S
end K11
set_option Elab.async false
set_option linter.all false
set_option maxRecDepth 100000
set_option maxHeartbeats 2000000
set_option exponentiation.threshold 5000
namespace K11
open PySem PySem.Spec D3 K20
inductive Rch (B : Bk) : Int → Prop
  | root : Rch B 0
  | step {k n : Int} {r : List (List Itm)} {v : List Itm} : Rch B k → B[k.toNat]? = some r → v ∈ r → Itm.ref n ∈ v → Rch B n
def refI : Itm → Option Int
  | .ref n => some n
  | .wd _ => none
def refsOf (v : List Itm) : List Int := v.filterMap refI
def refD (x : Itm) : Option Dv := match x with
  | .ref n => some (.int n)
  | .wd _ => none
theorem refD_map (v : List Itm) : v.filterMap refD = (refsOf v).map Dv.int := by
  unfold refsOf
  rw [List.map_filterMap]
  congr 1
  funext x
  cases x <;> rfl
theorem mem_refs {v : List Itm} {n : Int} : n ∈ refsOf v ↔ Itm.ref n ∈ v := by
  unfold refsOf
  rw [List.mem_filterMap]
  constructor
  · rintro ⟨x, hx, e⟩
    cases x with
    | ref m => cases e; exact hx
    | wd y => cases e
  · intro h
    exact ⟨_, h, rfl⟩
theorem refs_len (v : List Itm) : (refsOf v).length ≤ v.length := List.length_filterMap_le _ _
theorem filter_less {α : Type} {p q : α → Bool} (h : ∀ x, q x = true → p x = true) : ∀ (l : List α), (l.filter q).length ≤ (l.filter p).length
  | [] => Nat.le_refl _
  | x :: l => by
    have ih := filter_less h l
    by_cases c : q x = true
    · rw [List.filter_cons_of_pos c, List.filter_cons_of_pos (h x c), List.length_cons, List.length_cons]; omega
    · rw [List.filter_cons_of_neg c]
      by_cases d : p x = true
      · rw [List.filter_cons_of_pos d, List.length_cons]; omega
      · rw [List.filter_cons_of_neg d]; exact ih
theorem filter_lt {α : Type} {p q : α → Bool} (h : ∀ x, q x = true → p x = true) {y : α} (hp : p y = true) (hq : q y = false) : ∀ (l : List α), y ∈ l → (l.filter q).length < (l.filter p).length
  | [], m => by cases m
  | x :: l, m => by
    have ih0 := filter_less h l
    by_cases e : x = y
    · subst e
      rw [List.filter_cons_of_neg (by rw [hq]; exact Bool.false_ne_true), List.filter_cons_of_pos hp, List.length_cons]; omega
    · have ih := filter_lt h hp hq l (by
        rcases List.mem_cons.mp m with z | z
        · exact (e z.symm).elim
        · exact z)
      by_cases c : q x = true
      · rw [List.filter_cons_of_pos c, List.filter_cons_of_pos (h x c), List.length_cons, List.length_cons]; omega
      · rw [List.filter_cons_of_neg c]
        by_cases d : p x = true
        · rw [List.filter_cons_of_pos d, List.length_cons]; omega
        · rw [List.filter_cons_of_neg d]; exact ih
/-- how many refrains are not yet found -/
def missN (N : Nat) (f : List Int) : Nat := ((List.range N).filter fun j : Nat => decide ((j : Int) ∉ f)).length
theorem missN_add {N : Nat} {f : List Int} {k : Int} (h0 : 0 ≤ k) (h1 : k < N) (hk : k ∉ f) : missN N (f ++ [k]) < missN N f := by
  unfold missN
  refine filter_lt (y := k.toNat) (fun x hx => ?_) ?_ ?_ _ ?_
  · simp only [decide_eq_true_eq, List.mem_append, List.mem_singleton, not_or] at hx ⊢
    exact hx.1
  · have e : ((k.toNat : Nat) : Int) = k := by omega
    rw [e]; exact decide_eq_true hk
  · have e : ((k.toNat : Nat) : Int) = k := by omega
    rw [e]; exact decide_eq_false (by simp)
  · rw [List.mem_range]; omega
theorem inD_ints {k : Int} : ∀ l : List Int, inD (.int k) (l.map Dv.int) = decide (k ∈ l)
  | [] => by simp [inD]
  | x :: l => by
    have ih := inD_ints (k := k) l
    unfold inD at ih ⊢
    rw [List.map_cons, List.any_cons, ih]
    show ((x == k) || decide (k ∈ l)) = decide (k ∈ x :: l)
    rw [Bool.eq_iff_iff]
    simp only [Bool.or_eq_true, beq_iff_eq, decide_eq_true_eq, List.mem_cons]
    exact or_congr ⟨fun h => h.symm, fun h => h.symm⟩ Iff.rfl
theorem flatL_ints : ∀ l : List Int, flatL (l.map Dv.int) = true
  | [] => rfl
  | x :: l => by show (true && flatL (l.map Dv.int)) = true; rw [flatL_ints l]; rfl
/-- what the search has found and what waits -/
structure Sr (B : Bk) (f p : List Int) : Prop where
  rch : ∀ x, x ∈ f ∨ x ∈ p → Rch B x
  root : 0 ∈ f ∨ 0 ∈ p
  nd : f.Nodup
  cnt : f.length + missN B.length f ≤ B.length
  plen : p.length ≤ 1 + 24 * f.length
  clo : ∀ k ∈ f, ∀ r, B[k.toNat]? = some r → ∀ v ∈ r, ∀ n, Itm.ref n ∈ v → n ∈ f ∨ n ∈ p
theorem rch_in {B : Bk} (hB : BkOk B) {x : Int} (h : Rch B x) : 0 ≤ x ∧ x < B.length := by
  induction h with
  | root => exact ⟨Int.le_refl _, by have := hB.pos; omega⟩
  | step h1 h2 h3 h4 ih =>
    have := hB.ref h2 h3 h4
    omega
theorem Sr.init {B : Bk} : Sr B [] [0] := by
  refine ⟨fun x h => ?_, .inr (by simp), List.nodup_nil, ?_, by simp, fun k h => by cases h⟩
  · rcases h with h | h
    · cases h
    · rw [List.mem_singleton.mp h]; exact .root
  · unfold missN
    have := List.length_filter_le (fun j : Nat => decide ((j : Int) ∉ ([] : List Int))) (List.range B.length)
    rw [List.length_range] at this
    simpa using this
theorem Sr.skip {B : Bk} {f p : List Int} {k : Int} (s : Sr B f (p ++ [k])) (h : k ∈ f) : Sr B f p := by
  have back : ∀ x, x ∈ f ∨ x ∈ p ++ [k] → x ∈ f ∨ x ∈ p := fun x hx => by
    rcases hx with z | z
    · exact .inl z
    · rcases List.mem_append.mp z with z | z
      · exact .inr z
      · rw [List.mem_singleton.mp z]; exact .inl h
  refine ⟨fun x hx => s.rch x (hx.imp id fun z => List.mem_append.mpr (.inl z)), back 0 s.root, s.nd, s.cnt, ?_, fun k' hk' r hr v hv n hn => back n (s.clo k' hk' r hr v hv n hn)⟩
  have := s.plen
  rw [List.length_append] at this
  omega
theorem refs_flat {B : Bk} (hB : BkOk B) {k : Nat} {r : List (List Itm)} (hr : B[k]? = some r) : (r.flatMap refsOf).length ≤ 24 := by
  have hrow := hB.row hr
  have : (r.flatMap refsOf).length ≤ 6 * r.length := by
    have hv6 : ∀ v ∈ r, v.length ≤ 6 := fun v hv => (hB.verse hr hv).2.1
    clear hr hrow
    induction r with
    | nil => simp
    | cons v r ih =>
      rw [List.flatMap_cons, List.length_append, List.length_cons]
      have h1 := ih fun v hv => hv6 v (List.mem_cons_of_mem _ hv)
      have h2 := hv6 v List.mem_cons_self
      have h3 := refs_len v
      omega
  omega
theorem Sr.add {B : Bk} (hB : BkOk B) {f p : List Int} {k : Int} {r : List (List Itm)} (s : Sr B f (p ++ [k])) (h : k ∉ f) (hr : B[k.toNat]? = some r) : Sr B (f ++ [k]) (p ++ r.flatMap refsOf) ∧ missN B.length (f ++ [k]) < missN B.length f := by
  have hk : Rch B k := s.rch k (.inr (by simp))
  obtain ⟨k0, k1⟩ := rch_in hB hk
  have hm := missN_add k0 k1 h
  refine ⟨⟨fun x hx => ?_, ?_, ?_, ?_, ?_, ?_⟩, hm⟩
  · rcases hx with z | z
    · rcases List.mem_append.mp z with z | z
      · exact s.rch x (.inl z)
      · rw [List.mem_singleton.mp z]; exact hk
    · rcases List.mem_append.mp z with z | z
      · exact s.rch x (.inr (List.mem_append.mpr (.inl z)))
      · obtain ⟨v, hv, hx⟩ := List.mem_flatMap.mp z
        exact .step hk hr hv (mem_refs.mp hx)
  · rcases s.root with z | z
    · exact .inl (List.mem_append.mpr (.inl z))
    · rcases List.mem_append.mp z with z | z
      · exact .inr (List.mem_append.mpr (.inl z))
      · exact .inl (List.mem_append.mpr (.inr z))
  · rw [List.nodup_append]
    refine ⟨s.nd, by simp, fun a ha b hb => ?_⟩
    rw [List.mem_singleton.mp hb]
    rintro rfl
    exact h ha
  · have := s.cnt
    rw [List.length_append]
    simp only [List.length_singleton]
    omega
  · have hp := s.plen
    rw [List.length_append] at hp ⊢
    rw [List.length_append]
    simp only [List.length_singleton] at hp ⊢
    have := refs_flat hB hr
    omega
  · intro k' hk' r' hr' v hv n hn
    rcases List.mem_append.mp hk' with z | z
    · rcases s.clo k' z r' hr' v hv n hn with y | y
      · exact .inl (List.mem_append.mpr (.inl y))
      · rcases List.mem_append.mp y with y | y
        · exact .inr (List.mem_append.mpr (.inl y))
        · exact .inl (List.mem_append.mpr (.inr y))
    · rw [List.mem_singleton.mp z, hr] at hr'
      cases hr'
      exact .inr (List.mem_append.mpr (.inr (List.mem_flatMap.mpr ⟨v, hv, mem_refs.mpr hn⟩)))
theorem Sr.done {B : Bk} {f : List Int} (s : Sr B f []) (x : Int) : x ∈ f ↔ Rch B x := by
  constructor
  · exact fun h => s.rch x (.inl h)
  · intro h
    induction h with
    | root => exact s.root.elim id fun z => by cases z
    | step h1 h2 h3 h4 ih => exact (s.clo _ ih _ h2 _ h3 _ h4).elim id fun z => by cases z
end K11
set_option Elab.async false
set_option linter.all false
set_option maxRecDepth 100000
set_option maxHeartbeats 2000000
set_option exponentiation.threshold 5000
namespace K11
open PySem PySem.Spec D3 K20
def spReached : Spd := fun ds S Q E => ∃ B : Bk, ds = [bkD B] ∧ BkOk B ∧ ∀ (R : List Int) (T : Store) (i : Nat), R.Pairwise (· ≤ ·) → R.Nodup → R.length ≤ B.length → (∀ x, x ∈ R ↔ Rch B x) → StClo (S ++ T) → getL (S ++ T) i = some (R.map Dv.int) → Q (.obj i) (S ++ T)
theorem r_reached : ∀ ds S Qd Ed, spReached ds S Qd Ed → StClo S → t_Lreached (WEx S.length Ed) { nx := fun _ S' => Gc S.length Qd .non S', rt := Gc S.length Qd } (startD 6 ds) S := by
  rintro _ S Qd Ed ⟨B, rfl, hB, h⟩ hc
  have hsm := hB.le
  unfold t_Lreached
  refine seqI ?_
  simp! only []
  refine seqI ?_
  refine sWhile_inv rfl (fun m σ S' => ∃ (f p : List Int) (T : Store) (j : Nat) (o3 o4 : Option Dv), S' = S ++ .lst (f.map Dv.int) :: T ∧ T[j]? = some (.lst (p.map Dv.int)) ∧ StClo S' ∧ Sr B f p ∧ m = 30 * missN B.length f + p.length ∧
    σ = [some (bkD B), some (.obj S.length), some (.obj (S.length + (j + 1))), o3, o4, none]) ⟨_, [], [0], [.lst [.int 0]], 0, none, none, rfl, rfl, ?_, .init, rfl, rfl⟩ ?_
  · have h1 := stclo_one (m := .lst []) hc rfl
    have h2 := stclo_one (m := .lst [.int 0]) h1 rfl
    simpa using h2
  rintro m σ S' ⟨f, p, T, j, o3, o4, rfl, hT, hcl, hs, rfl, rfl⟩ K hK
  simp! only []
  have gp : ∀ T', getL (S ++ .lst (f.map Dv.int) :: (T ++ T')) (S.length + (j + 1)) = some (p.map Dv.int) := fun T' => getL_iff.mpr (by rw [st_getk, List.getElem?_cons_succ]; exact get_old hT)
  have gn : ∀ m, getL (S ++ .lst (f.map Dv.int) :: (T ++ [.lst m])) (S.length + (T.length + 1)) = some m := fun m => getL_iff.mpr (by rw [st_getk, List.getElem?_cons_succ, st_get0]; rfl)
  refine dNe_nil (gp _) (gn _) ⟨_, rfl, ?_⟩
  by_cases e : p = []
  · subst e
    simp! only []
    refine ⟨_, f, getL_iff.mpr (by rw [st_get0]; rfl), intsOf_map f, ⟨_, rfl⟩, fun R hp hs' => ?_⟩
    refine .inl ?_
    have hcl2 : StClo (S ++ .lst (f.map Dv.int) :: (T ++ [.lst []]) ++ [.lst (R.map Dv.int)]) := by
      have h1 := stclo_one (m := .lst []) hcl rfl
      have h2 := stclo_one (m := .lst (R.map Dv.int)) h1 cloL_ints
      simpa using h2
    rw [List.append_assoc] at hcl2 ⊢
    have hcnt := hs.cnt
    refine h R _ _ hs' (hp.nodup_iff.mpr hs.nd) (by rw [hp.length_eq]; omega) (fun x => (hp.mem_iff).trans (hs.done x)) hcl2 ?_
    rw [← List.append_assoc, st_getL0]; rfl
  · obtain ⟨p, k, rfl⟩ : ∃ q k, p = q ++ [k] := ⟨p.dropLast, p.getLast e, by rw [List.dropLast_concat_getLast]⟩
    have hk : Rch B k := hs.rch k (.inr (by simp))
    obtain ⟨k0, k1⟩ := rch_in hB hk
    simp! only [e]
    refine seqI ?_
    simp! only []
    refine ⟨.inl ⟨_, get_old hT⟩, _, getL_iff.mpr (get_old hT), .int k, by simp, ?_⟩
    have hdl : ((p ++ [k]).map Dv.int).dropLast = p.map Dv.int := by simp
    rw [hdl, List.set_append_left _ _ (at_lt hT)]
    have hT1 : (T.set j (.lst (p.map Dv.int)) ++ [.lst []])[j]? = some (.lst (p.map Dv.int)) := get_old (List.getElem?_set_self (at_lt hT))
    have hc1 : StClo (S ++ .lst (f.map Dv.int) :: (T.set j (.lst (p.map Dv.int)) ++ [.lst []])) := by
      have h1 := stclo_set (i := S.length + (j + 1)) (m := .lst (p.map Dv.int)) hcl cloL_ints
      rw [st_setk, List.set_cons_succ] at h1
      have h2 := stclo_one (m := .lst []) h1 rfl
      simpa using h2
    generalize T.set j (.lst (p.map Dv.int)) ++ [.lst []] = T1 at *
    refine ifI ?_
    simp! only []
    have hgf : ∀ T', getL (S ++ .lst (f.map Dv.int) :: T') S.length = some (f.map Dv.int) := fun T' => getL_at
    refine ⟨_, hgf _, rfl, flatL_ints f, _, rfl, ?_⟩
    rw [inD_ints]
    by_cases hkf : k ∈ f
    · simp! only [hkf]
      refine hK _ _ (.inl ⟨_, ?_, f, p, T1, j, _, _, rfl, hT1, hc1, hs.skip hkf, rfl, rfl⟩)
      rw [List.length_append, List.length_singleton]; omega
    · obtain ⟨r, hr⟩ : ∃ r, B[k.toNat]? = some r := ⟨_, List.getElem?_eq_getElem (by omega)⟩
      obtain ⟨hs2, hm2⟩ := hs.add hB hkf hr
      have hbk : L2.atI (B.map rfD) k = some (rfD r) := by
        have := at_map (f := rfD) (l := B) (n := k) (z := []) k0 k1
        rw [List.getD_eq_getElem?_getD, hr] at this
        exact this
      have hfl : (f.map Dv.int).length < sizeLine := by rw [List.length_map]; have := hs.cnt; exact small_line (by omega)
      have hplen := hs.plen
      simp! only [hkf]
      refine seqI ?_
      simp! only [hgf]
      refine ⟨hfl, ?_⟩
      have hfk : f.map Dv.int ++ [.int k] = (f ++ [k]).map Dv.int := by rw [List.map_append]; rfl
      rw [hfk]
      have hc2 : StClo (S ++ .lst ((f ++ [k]).map Dv.int) :: T1) := by
        have h1 := stclo_set (i := S.length) (m := .lst ((f ++ [k]).map Dv.int)) hc1 cloL_ints
        rw [st_set0, List.set_cons_zero] at h1
        exact h1
      have hbnd := hs2.plen
      generalize f ++ [k] = f2 at *
      refine sFor_inv (S1 := S ++ .lst (f2.map Dv.int) :: T1) (jSeq (rfD r) (r.map vsD)) (fun i σ S' => ∃ (T2 : Store) (j2 : Nat) (o4 : Option Dv), S' = S ++ .lst (f2.map Dv.int) :: T2 ∧ T2[j2]? = some (.lst ((p ++ (r.take i).flatMap refsOf).map Dv.int)) ∧ StClo S' ∧
        σ = [some (bkD B), some (.obj S.length), some (.obj (S.length + (j2 + 1))), some (.int k), o4, none]) (hw_seq (fun R hR => ?_) rfl) ⟨T1, j, o4, rfl, by simpa using hT1, hc2, rfl⟩ (fun i σ S' _ hP => rfl) ?_ ?_
      · dsimp! only [bkD, hbk]
        exact hR
      · rintro i d σ S' hd ⟨T2, j2, o5, rfl, hT2, hc3, rfl⟩ K2 hK2
        obtain ⟨v, hv, rfl⟩ := jSeq_get hd
        have hvr : v ∈ r := List.mem_of_getElem? hv
        have hv6 := (hB.verse hr hvr).2.1
        simp! only []
        refine eLc_opt (S1 := S ++ .lst (f2.map Dv.int) :: T2) (jSeq (vsD v) (v.map Itm.d)) v Itm.d refD (hw_seq (fun R hR => ?_) rfl) rfl rfl (by omega) hc3 (fun a _ y hy => ?_) ?_ ?_
        · dsimp! only []
          exact hR
        · cases a with
          | ref n => cases hy; rfl
          | wd z => cases hy
        · intro x hx K1 K0 h1 h0
          cases x with
          | ref n =>
            dsimp! only [Itm.d]
            exact app_nil (h1 _ rfl)
          | wd z =>
            dsimp! only [Itm.d]
            exact app_nil (h0 rfl)
        · rw [refD_map]
          have hlen : ((p ++ (r.take i).flatMap refsOf).map Dv.int).length + ((refsOf v).map Dv.int).length ≤ sizeLine := by
            rw [List.length_map, List.length_map]
            have h1 : (p ++ (r.take i).flatMap refsOf).length + (refsOf v).length ≤ (p ++ r.flatMap refsOf).length := by
              have e : r = r.take i ++ v :: r.drop (i + 1) := by
                have hi := at_lt hv
                have h2 : r[i] = v := (List.getElem?_eq_some_iff.mp hv).2
                rw [← h2, List.getElem_cons_drop hi, List.take_append_drop]
              have e2 : (r.flatMap refsOf).length = ((r.take i).flatMap refsOf).length + ((refsOf v).length + ((r.drop (i + 1)).flatMap refsOf).length) := by
                conv => lhs; rw [e]
                rw [List.flatMap_append, List.length_append, List.flatMap_cons, List.length_append]
              rw [List.length_append, List.length_append, e2]; omega
            have h2 := hs2.cnt
            exact Nat.le_of_lt (small_line (by omega))
          have g1 : ∀ T', getL (S ++ .lst (f2.map Dv.int) :: (T2 ++ T')) (S.length + (j2 + 1)) = some ((p ++ (r.take i).flatMap refsOf).map Dv.int) := fun T' => getL_iff.mpr (by rw [st_getk, List.getElem?_cons_succ]; exact get_old hT2)
          have g2 : ∀ m, getL (S ++ .lst (f2.map Dv.int) :: (T2 ++ [.lst m])) (S.length + (T2.length + 1)) = some m := fun m => getL_iff.mpr (by rw [st_getk, List.getElem?_cons_succ, st_get0]; rfl)
          have hnew : (p ++ (r.take i).flatMap refsOf).map Dv.int ++ (refsOf v).map Dv.int = (p ++ (r.take (i + 1)).flatMap refsOf).map Dv.int := by
            rw [take_succ hv, List.flatMap_append, ← List.map_append]; simp
          generalize p ++ (r.take i).flatMap refsOf = q at *
          have g3 : getL ((S ++ Mo.lst (f2.map Dv.int) :: T2) ++ [Mo.lst ((refsOf v).map Dv.int)]) (S.length + (j2 + 1)) = some (q.map Dv.int) := by
            have := g1 [Mo.lst ((refsOf v).map Dv.int)]
            simpa using this
          refine ⟨_, g3, _, getL_at, hlen, ?_⟩
          rw [hnew]
          refine hK2 _ _ (.inl ⟨T2 ++ [.lst ((refsOf v).map Dv.int), .lst ((p ++ (r.take (i + 1)).flatMap refsOf).map Dv.int)], T2.length + 1, some (vsD v), by simp, by rw [st_getk]; rfl, ?_, ?_⟩)
          · exact stclo_one (stclo_one hc3 cloL_ints) cloL_ints
          · simp only [List.length_append, List.length_cons, List.length_nil, Nat.zero_add, Nat.add_assoc]
      · rintro σ S' ⟨T2, j2, o5, rfl, hT2, hc3, rfl⟩
        rw [jSeq_len, List.take_length] at hT2
        refine hK _ _ (.inl ⟨_, ?_, f2, _, T2, j2, _, _, rfl, hT2, hc3, hs2, rfl, rfl⟩)
        rw [List.length_append, List.length_append, List.length_singleton]
        have := refs_flat hB hr
        omega
end K11
set_option Elab.async false
set_option linter.all false
set_option maxRecDepth 100000
set_option maxHeartbeats 2000000
set_option exponentiation.threshold 5000
namespace K11
open PySem PySem.Spec D3 K20
end K11
set_option Elab.async false
set_option linter.all false
set_option maxRecDepth 100000
set_option maxHeartbeats 2000000
set_option exponentiation.threshold 5000
namespace K20
open PySem PySem.Spec D3
end K20
set_option Elab.async false
set_option linter.all false
set_option maxRecDepth 100000
set_option maxHeartbeats 2000000
set_option exponentiation.threshold 5000
namespace K20
open PySem PySem.Spec D3
def chg (c : Ct) (ts fs : List Int) : List Rat := (c.2.zip (ts.zip fs)).map fun p => p.1.getD p.2.2.toNat 0 - p.1.getD p.2.1.toNat 0
def countQ (c : Ct) (ts fs : List Int) (s : Int) : Rat := c.1.getD 0 0 * (s : Rat) + sumQ (chg c ts fs)
def spCount : Spd := fun ds S Q E => ∃ (B : Bk) (w : Str) (c : Ct) (ts fs : List Int) (s : Int), ds = [bkD B, .str w, certD c, tsD ts, tsD fs, .int s] ∧ BkOk B ∧ CertFull B w c ∧ turnsOk B ts = true ∧ turnsOk B fs = true ∧ 0 ≤ s ∧ s ≤ 1000000000000000000 ∧ Q (encQ (countQ c ts fs s)) S
theorem turnsOk_at {B : Bk} {ts : List Int} (h : turnsOk B ts = true) {k : Nat} {r : List (List Itm)} {t : Int} (hr : B[k]? = some r) (ht : ts[k]? = some t) : 0 ≤ t ∧ t < r.length := by
  unfold turnsOk at h
  simp only [Bool.and_eq_true, decide_eq_true_eq] at h
  have := List.all_eq_true.mp h.2 (t, r) (List.mem_of_getElem? (List.getElem?_zip_eq_some.mpr ⟨ht, hr⟩))
  simpa using this
end K20
set_option Elab.async false
set_option linter.all false
set_option maxRecDepth 100000
set_option maxHeartbeats 2000000
set_option exponentiation.threshold 5000
namespace K20
open PySem PySem.Spec D3
def HS (a b : Nat) (S : Store) : Prop := ∃ (m : Int) (ns : List Int) (c : Int), S[a]? = some (.lst [.int m, .obj b, .int c]) ∧ S[b]? = some (.lst (ns.map Dv.int)) ∧ ns.length ≤ 63
theorem HS.ne {a b : Nat} {S : Store} (h : HS a b S) : a ≠ b := by
  rintro rfl
  obtain ⟨m, ns, c, h1, h2, _⟩ := h
  rw [h1] at h2
  cases ns with
  | nil => cases h2
  | cons x xs => cases xs with
    | nil => cases h2
    | cons y ys => cases h2
structure Hup (a b : Nat) (S S' : Store) : Prop where
  len : S'.length = S.length
  hs : HS a b S'
  oth : ∀ i, i ≠ a → i ≠ b → S'[i]? = S[i]?
theorem HS.app {a b : Nat} {S T : Store} (h : HS a b S) : HS a b (S ++ T) := by
  obtain ⟨m, ns, c, h1, h2, h3⟩ := h
  exact ⟨m, ns, c, get_old h1, get_old h2, h3⟩
def spMix : Spd := fun ds S Q E => ∃ (x : Dv) (ns : List Int) (seed : Int), ds = [x, .int seed] ∧ seqOf S x = some (ns.map Dv.int) ∧ ns.length ≤ 63 ∧ ∀ m, Q (.obj (S.length + 1)) (S ++ [.lst (ns.map Dv.int), .lst [.int m, .obj S.length, .int 0]])
def spNext : Spd := fun ds S Q E => ∃ (a b : Nat) (lim : Int), ds = [.obj a, .int lim] ∧ HS a b S ∧ 0 < lim ∧ lim < 1000000 ∧ ∀ r S', 0 ≤ r → r < lim → Hup a b S S' → Q (.int r) S'
theorem stclo_hup {a b : Nat} {S S' : Store} (hc : StClo S) (h : Hup a b S S') : StClo S' := by
  intro m hm
  obtain ⟨i, hi⟩ := List.getElem?_of_mem hm
  rw [h.len]
  obtain ⟨x, ns, c, h1, h2, h3⟩ := h.hs
  by_cases e1 : i = a
  · subst e1
    rw [h1] at hi
    cases hi
    have hb := at_lt h2
    rw [h.len] at hb
    show (true && (decide (b < S.length) && (true && true))) = true
    rw [decide_eq_true hb]; rfl
  · by_cases e2 : i = b
    · subst e2
      rw [h2] at hi
      cases hi
      exact cloL_ints
    · rw [h.oth i e1 e2] at hi
      exact hc m (List.mem_of_getElem? hi)
end K20
set_option Elab.async false
set_option linter.all false
set_option maxRecDepth 100000
set_option maxHeartbeats 2000000
set_option exponentiation.threshold 5000
namespace K20
open PySem PySem.Spec D3
def spUses : Spd := fun ds S Q E => ∃ (s t : Int) (n : Nat), ds = [.int s, .int t, .int n] ∧ 0 ≤ s ∧ 1 ≤ n ∧ n < 100000 ∧ Q (.obj S.length) (S ++ [.lst ((usesL n t s).map Dv.int)])
def alikeD : Nat → Dv → Bool
  | _, .int _ => true
  | n + 1, .tup ds => decide (ds.length < 100000) && ds.all (alikeD n)
  | _, _ => false
def spAlike (n : Nat) : Spd := fun ds S Q E => ∃ d, ds = [d, d] ∧ alikeD n d = true ∧ Q (.bl true) S
end K20
set_option Elab.async false
set_option linter.all false
set_option maxRecDepth 100000
set_option maxHeartbeats 2000000
set_option exponentiation.threshold 5000
namespace K20
open PySem PySem.Spec D3
theorem HS.lt {a b : Nat} {S : Store} (h : HS a b S) : a < S.length ∧ b < S.length := by
  obtain ⟨m, ns, c, h1, h2, _⟩ := h
  exact ⟨at_lt h1, at_lt h2⟩
theorem Hup.trans {a b : Nat} {S S1 S2 : Store} (h : Hup a b S S1) (h' : Hup a b S1 S2) : Hup a b S S2 := ⟨h'.len.trans h.len, h'.hs, fun i x y => (h'.oth i x y).trans (h.oth i x y)⟩
theorem Hup.refl {a b : Nat} {S : Store} (h : HS a b S) : Hup a b S S := ⟨rfl, h, fun _ _ _ => rfl⟩
theorem hup_app {a b : Nat} {S1 T S2 : Store} (hs : HS a b S1) (h : Hup a b (S1 ++ T) S2) : ∃ S1', S2 = S1' ++ T ∧ Hup a b S1 S1' := by
  obtain ⟨la, lb⟩ := hs.lt
  have hl : S2.length = S1.length + T.length := by rw [h.len, List.length_append]
  have e : S2 = S2.take S1.length ++ T := by
    refine List.ext_getElem? fun i => ?_
    by_cases hi : i < S1.length
    · rw [List.getElem?_append_left (by rw [List.length_take]; omega), List.getElem?_take_of_lt hi]
    · rw [List.getElem?_append_right (by rw [List.length_take]; omega), List.length_take, Nat.min_eq_left (by omega), h.oth i (by omega) (by omega), List.getElem?_append_right (by omega)]
  refine ⟨_, e, by rw [List.length_take]; omega, ?_, fun i h1 h2 => ?_⟩
  · obtain ⟨m, ns, c, h1, h2, h3⟩ := h.hs
    refine ⟨m, ns, c, by rw [List.getElem?_take_of_lt la]; exact h1, by rw [List.getElem?_take_of_lt lb]; exact h2, h3⟩
  · by_cases hi : i < S1.length
    · rw [List.getElem?_take_of_lt hi, h.oth i h1 h2, List.getElem?_append_left hi]
    · rw [List.getElem?_eq_none (by rw [List.length_take]; omega), List.getElem?_eq_none (by omega)]
def LaLo (B : Bk) : Prop := ∀ r ∈ B, ∀ v ∈ r, ∀ x, Itm.wd x ∈ v → x = "la" ∨ x = "lo"
def spDeep : Spd := fun ds S Q E => ∃ (a b n : Nat), ds = [.obj a, .int n] ∧ HS a b S ∧ 2 ≤ n ∧ n ≤ 60 ∧ ∀ (B : Bk) S', BkOk B → LaLo B → Hup a b S S' → Q (bkD B) S'
end K20
set_option Elab.async false
set_option linter.all false
set_option maxRecDepth 100000
set_option maxHeartbeats 2000000
set_option exponentiation.threshold 5000
namespace K20
open PySem PySem.Spec D3
structure Lw where
  starts : List Int
  la : Int
  lo : Int
def itemStep (u : Int) (s : Lw) : Itm → Lw
  | .ref n => { s with starts := addAt s.starts n u }
  | .wd x => if x = "la" then { s with la := s.la + u } else { s with lo := s.lo + u }
def verseStep (s : Lw) (p : Int × List Itm) : Lw := p.2.foldl (itemStep p.1) s
def rowStep (us : List Int) (r : List (List Itm)) (s : Lw) : Lw := (us.zip r).foldl verseStep s
def bookStep (B : Bk) (ts : List Int) (s : Lw) (k : Nat) : Lw := rowStep (usesL (B.getD k []).length (ts.getD k 0) (s.starts.getD k 0)) (B.getD k []) s
def bookK (B : Bk) (ts : List Int) (s0 : Int) (k : Nat) : Lw := (List.range k).foldl (bookStep B ts) ⟨startL B.length s0, 0, 0⟩
def lawTurns (B : Bk) (ts : List Int) (s : Lw) : List Int := (List.range B.length).map fun k => (ts.getD k 0 + s.starts.getD k 0) % ((B.getD k []).length : Int)
/-- what the law asks of the program, in plain numbers -/
structure Fit : Prop where
  words : ∀ (B : Bk) (ts : List Int) (s : Int), BkOk B → LaLo B → turnsOk B ts = true → 0 ≤ s → songWords B ts s none = (bookK B ts s B.length).la + (bookK B ts s B.length).lo
  turns : ∀ (B : Bk) (ts : List Int) (s : Int), BkOk B → LaLo B → turnsOk B ts = true → 0 ≤ s → songTurns B ts s = lawTurns B ts (bookK B ts s B.length)
  tOk : ∀ (B : Bk) (ts : List Int) (s : Int), BkOk B → LaLo B → turnsOk B ts = true → 0 ≤ s → turnsOk B (lawTurns B ts (bookK B ts s B.length)) = true
  nneg : ∀ (B : Bk) (ts : List Int) (s : Int), BkOk B → LaLo B → turnsOk B ts = true → 0 ≤ s → ∀ k j, k ≤ B.length → 0 ≤ (bookK B ts s k).starts.getD j 0
  cLa : ∀ (B : Bk) (ts : List Int) (s : Int), BkOk B → LaLo B → turnsOk B ts = true → 0 ≤ s → countQ (certK B "la" B.length) ts (lawTurns B ts (bookK B ts s B.length)) s = ((bookK B ts s B.length).la : Int)
  cLo : ∀ (B : Bk) (ts : List Int) (s : Int), BkOk B → LaLo B → turnsOk B ts = true → 0 ≤ s → countQ (certK B "lo" B.length) ts (lawTurns B ts (bookK B ts s B.length)) s = ((bookK B ts s B.length).lo : Int)
def dW (la lo : Int) : List (L2.Key × Dv) := [(.inr "la", .int la), (.inr "lo", .int lo)]
theorem dW_la {la lo : Int} : valD (dW la lo) (.inr "la") = some (.int la) := rfl
theorem dW_lo {la lo : Int} : valD (dW la lo) (.inr "lo") = some (.int lo) := rfl
theorem dW_pla {la lo z : Int} : putD (dW la lo) (.inr "la") (.int z) = dW z lo := rfl
theorem dW_plo {la lo z : Int} : putD (dW la lo) (.inr "lo") (.int z) = dW la z := rfl
theorem start_cons {n : Nat} {s : Int} (h : 1 ≤ n) : (startL n s).map Dv.int = .int s :: List.replicate (n - 1) (.int 0) := by
  obtain ⟨m, rfl⟩ : ∃ m, n = m + 1 := ⟨n - 1, by omega⟩
  unfold startL
  rw [List.replicate_succ, List.set_cons_zero, List.map_cons, List.map_replicate]; rfl
def stL (Sc : Store) (w : Lw) : Store := Sc ++ [.lst (w.starts.map Dv.int), .dk (dW w.la w.lo)]
theorem stL_clo {Sc : Store} {w : Lw} (h : StClo Sc) : StClo (stL Sc w) := by
  have h1 := stclo_one (m := .lst (w.starts.map Dv.int)) h cloL_ints
  have h2 := stclo_one (m := .dk (dW w.la w.lo)) h1 rfl
  unfold stL
  simpa using h2
theorem stL_len {Sc : Store} {w : Lw} : (stL Sc w).length = Sc.length + 2 := by unfold stL; rw [List.length_append]; rfl
theorem bookK_succ {B : Bk} {ts : List Int} {s : Int} {k : Nat} : bookK B ts s (k + 1) = bookStep B ts (bookK B ts s k) k := by unfold bookK; rw [List.range_succ, List.foldl_append]; rfl
theorem item_len (u : Int) (w : Lw) (x : Itm) : (itemStep u w x).starts.length = w.starts.length := by
  cases x with
  | ref n => exact addAt_len _ _ _
  | wd y => show (if y = "la" then _ else _ : Lw).starts.length = _; split <;> rfl
theorem items_len (u : Int) : ∀ (v : List Itm) (w : Lw), (v.foldl (itemStep u) w).starts.length = w.starts.length
  | [], _ => rfl
  | x :: v, w => by show (v.foldl (itemStep u) (itemStep u w x)).starts.length = _; rw [items_len u v, item_len]
theorem verses_len : ∀ (l : List (Int × List Itm)) (w : Lw), (l.foldl verseStep w).starts.length = w.starts.length
  | [], _ => rfl
  | p :: l, w => by show (l.foldl verseStep (verseStep w p)).starts.length = _; rw [verses_len l]; exact items_len _ _ _
theorem bookK_len {B : Bk} {ts : List Int} {s : Int} : ∀ k, (bookK B ts s k).starts.length = B.length
  | 0 => by unfold bookK startL; simp
  | k + 1 => by rw [bookK_succ]; show (rowStep _ _ _).starts.length = _; unfold rowStep; rw [verses_len, bookK_len k]
theorem item_la {u : Int} {w : Lw} : itemStep u w (.wd "la") = ⟨w.starts, w.la + u, w.lo⟩ := by
  show (if ("la" : Str) = "la" then ({ w with la := w.la + u } : Lw) else { w with lo := w.lo + u }) = _
  rw [if_pos rfl]
theorem item_lo {u : Int} {w : Lw} : itemStep u w (.wd "lo") = ⟨w.starts, w.la, w.lo + u⟩ := by
  show (if ("lo" : Str) = "la" then ({ w with la := w.la + u } : Lw) else { w with lo := w.lo + u }) = _
  rw [if_neg (by decide)]
theorem alike_ints (n : Nat) (l : List Int) (h : l.length < 100000) : alikeD (n + 1) (tsD l) = true := by
  show (decide ((l.map Dv.int).length < 100000) && (l.map Dv.int).all (alikeD n)) = true
  rw [List.length_map, decide_eq_true h, Bool.true_and, List.all_eq_true]
  intro d hd
  obtain ⟨z, _, rfl⟩ := List.mem_map.mp hd
  cases n <;> rfl
theorem alike_pair (z : Int) (l : List Int) (h : l.length < 100000) : alikeD 2 (.tup [.int z, tsD l]) = true := by
  show (decide ((2 : Nat) < 100000) && (true && (alikeD 1 (tsD l) && true))) = true
  rw [alike_ints 0 l h]; rfl
theorem enc_int (z : Int) : encQ ((z : Int) : Rat) = .tup [.int z, .int 1] := by
  unfold encQ
  rw [Rat.num_intCast, Rat.den_intCast]; rfl
theorem r_law (F : Fit) : ∀ ds S Qd Ed, spLaw 63 ds S Qd Ed → StClo S → t_law spMix spDeep spNext spUses (spAlike 2) spAdvanceSongs spMakeCert spCount (WEx S.length Ed) { nx := fun _ S' => Gc S.length Qd .non S', rt := Gc S.length Qd } (startD 16 ds) S := by
  rintro _ S Qd Ed ⟨x, ns, rfl, hx, hl, _, h⟩ hc
  unfold t_law
  refine seqI ?_
  simp only [sAsg, sNext, sBreak, sCont, sDrop, sRet, sRetN, sPar, sPar3, sAug, sNever, D3.sFld, D3.sFldAug, sAugS, gNm, gsNil, gsCons, gUnp, gSb, eVar, eC, eOp, eUn, eChain, eAnd, eOr, eNot, eIf, eTup, eLst, eArgs, eSl, eBM, aNil, aCons, cVal, cAnd, cOr, cNot, cYes, oNo, oSome, eFld, eMake, eMeth, eCall, eKNew, eKGet1, eKGet2, eDisp, tPairsD, dAdd, dSub, dMul, dDiv, dMod, dPow, dNeg, dCmpI, dIs, dIsNot, isNon, dEq, dNe, sEq, dIx, dSlice, dLen, dInt, b2i', dAbs, dMax, dMin, dList, dTuple, dSum, dAll, dAny, dOrd, dStrI, dIsi, tyOf, isB, isTy, String.reduceBEq, Bool.or_true, Bool.true_or, Bool.or_false, Bool.false_or, Bool.and_true, Bool.and_false, Bool.false_and, Bool.true_and, dAppend, dPop, dExtend, dSetL, dGetL, dAddA, dSubA, dMulA, dKGet, dKSet, seqOf, tyD, Tg.rd, setsD, wipeD, startD, List.map_cons, List.map_nil, List.length_cons, List.length_nil, List.replicate, List.cons_append, List.nil_append, List.getElem?_cons_zero, List.getElem?_cons_succ, List.set_cons_zero, List.set_cons_succ, Option.some.injEq, exists_eq_left', exists_eq_left, Dv.int.injEq, Dv.bl.injEq, Dv.str.injEq, Dv.tup.injEq, Dv.obj.injEq, Mo.dk.injEq, Mo.lst.injEq, Mo.ldk.injEq, Mo.ins.injEq, exists_eq', exists_eq, List.cons.injEq, and_true, true_and, true_or, or_true, eq_self, decide_true, decide_false, cast2, and_assoc, exists_and_left, exists_and_right, exists_const, exists_eq_right, exists_eq_right_right, Nat.reduceAdd, Nat.reduceSub, Nat.zero_add, List.length_append, st_get0, st_getk, st_set0, st_setk, st_getL0, st_getLk, getL_c0, getL_cs, line0, line1, line2, line3, flatten1, Int.toNat_natCast, Nat.one_mul, List.append_assoc, List.append_nil, Nat.reduceLeDiff, ite_true, ite_false, if_true, if_false, Bool.false_eq_true, Bool.not_true, Bool.not_false, Bool.not_eq_true, and_self, false_and, and_false]
  refine ⟨x, ns, 20, rfl, hx, hl, fun m => ?_⟩
  have hh : HS (S.length + 1) S.length (S ++ [.lst (ns.map Dv.int), .lst [.int m, .obj S.length, .int 0]]) := ⟨m, ns, 0, st_getk, st_get0, hl⟩
  have hc2 : StClo (S ++ [.lst (ns.map Dv.int), .lst [.int m, .obj S.length, .int 0]]) := by
    have h1 := stclo_one (m := .lst (ns.map Dv.int)) hc cloL_ints
    have h2 := stclo_one (m := .lst [.int m, .obj S.length, .int 0]) h1 (by
      show (true && (decide (S.length < _) && (true && true))) = true
      rw [decide_eq_true (by rw [List.length_append]; simp; omega)]; rfl)
    simpa using h2
  have hret : ∀ T, Gc S.length Qd (.bl true) T := fun T => .inl (h T)
  generalize hS0 : S ++ [.lst (ns.map Dv.int), .lst [.int m, .obj S.length, .int 0]] = S0 at *
  have hS0l : S0.length = S.length + 2 := by rw [← hS0, List.length_append]; rfl
  refine seqI ?_
  refine sFor_inv (S1 := S0) (jRg 2) (fun i σ S' => Hup (S.length + 1) S.length S0 S' ∧ ∃ o0 : Option Dv, σ = [o0, some (.obj (S.length + 1)), none, none, none, none, none, none, none, none, none, none, none, none, none, none]) (hw_rg1 (fun R hR => ?_) (by decide)) ⟨.refl hh, some x, rfl⟩ (fun _ _ _ _ _ => trivial) ?_ ?_
  · dsimp! only []
    exact hR
  · rintro i d σ S1 hd ⟨hu1, o0, rfl⟩ K hK
    obtain ⟨hi, rfl⟩ := jRg_get hd
    have hKK : ∀ σ (S' T : Store), Hup (S.length + 1) S.length S0 S' → σ.length = 16 → σ[1]? = some (some (.obj (S.length + 1))) → K σ (S' ++ T) := by
      intro σ S' T hu hl16 h1
      refine hK _ _ (.inr ⟨S0.length, [none, some (.obj (S.length + 1)), none, none, none, none, none, none, none, none, none, none, none, none, none, none], Nat.le_refl _, ?_, ?_, ?_, none, rfl⟩)
      · match σ, hl16 with
        | [_, b, _, _, _, _, _, _, _, _, _, _, _, _, _, _], _ =>
          have hb : b = some (.obj (S.length + 1)) := Option.some.inj h1
          subst hb
          simp [Fg, Dv.clo, hS0l]
      · rw [← hu.len, List.take_left]; exact stclo_hup hc2 hu
      · rw [← hu.len, List.take_left]; exact hu
    refine seqI ?_
    simp only [sAsg, sNext, sBreak, sCont, sDrop, sRet, sRetN, sPar, sPar3, sAug, sNever, D3.sFld, D3.sFldAug, sAugS, gNm, gsNil, gsCons, gUnp, gSb, eVar, eC, eOp, eUn, eChain, eAnd, eOr, eNot, eIf, eTup, eLst, eArgs, eSl, eBM, aNil, aCons, cVal, cAnd, cOr, cNot, cYes, oNo, oSome, eFld, eMake, eMeth, eCall, eKNew, eKGet1, eKGet2, eDisp, tPairsD, dAdd, dSub, dMul, dDiv, dMod, dPow, dNeg, dCmpI, dIs, dIsNot, isNon, dEq, dNe, sEq, dIx, dSlice, dLen, dInt, b2i', dAbs, dMax, dMin, dList, dTuple, dSum, dAll, dAny, dOrd, dStrI, dIsi, tyOf, isB, isTy, String.reduceBEq, Bool.or_true, Bool.true_or, Bool.or_false, Bool.false_or, Bool.and_true, Bool.and_false, Bool.false_and, Bool.true_and, dAppend, dPop, dExtend, dSetL, dGetL, dAddA, dSubA, dMulA, dKGet, dKSet, seqOf, tyD, Tg.rd, setsD, wipeD, startD, List.map_cons, List.map_nil, List.length_cons, List.length_nil, List.replicate, List.cons_append, List.nil_append, List.getElem?_cons_zero, List.getElem?_cons_succ, List.set_cons_zero, List.set_cons_succ, Option.some.injEq, exists_eq_left', exists_eq_left, Dv.int.injEq, Dv.bl.injEq, Dv.str.injEq, Dv.tup.injEq, Dv.obj.injEq, Mo.dk.injEq, Mo.lst.injEq, Mo.ldk.injEq, Mo.ins.injEq, exists_eq', exists_eq, List.cons.injEq, and_true, true_and, true_or, or_true, eq_self, decide_true, decide_false, cast2, and_assoc, exists_and_left, exists_and_right, exists_const, exists_eq_right, exists_eq_right_right, Nat.reduceAdd, Nat.reduceSub, Nat.zero_add, List.length_append, st_get0, st_getk, st_set0, st_setk, st_getL0, st_getLk, getL_c0, getL_cs, line0, line1, line2, line3, flatten1, Int.toNat_natCast, Nat.one_mul, List.append_assoc, List.append_nil, Nat.reduceLeDiff, ite_true, ite_false, if_true, if_false, Bool.false_eq_true, Bool.not_true, Bool.not_false, Bool.not_eq_true, and_self, false_and, and_false]
    refine ⟨S.length + 1, S.length, 59, rfl, hu1.hs, by decide, by decide, fun r S2 r0 r1 hu2 => ?_⟩
    simp only [sAsg, sNext, sBreak, sCont, sDrop, sRet, sRetN, sPar, sPar3, sAug, sNever, D3.sFld, D3.sFldAug, sAugS, gNm, gsNil, gsCons, gUnp, gSb, eVar, eC, eOp, eUn, eChain, eAnd, eOr, eNot, eIf, eTup, eLst, eArgs, eSl, eBM, aNil, aCons, cVal, cAnd, cOr, cNot, cYes, oNo, oSome, eFld, eMake, eMeth, eCall, eKNew, eKGet1, eKGet2, eDisp, tPairsD, dAdd, dSub, dMul, dDiv, dMod, dPow, dNeg, dCmpI, dIs, dIsNot, isNon, dEq, dNe, sEq, dIx, dSlice, dLen, dInt, b2i', dAbs, dMax, dMin, dList, dTuple, dSum, dAll, dAny, dOrd, dStrI, dIsi, tyOf, isB, isTy, String.reduceBEq, Bool.or_true, Bool.true_or, Bool.or_false, Bool.false_or, Bool.and_true, Bool.and_false, Bool.false_and, Bool.true_and, dAppend, dPop, dExtend, dSetL, dGetL, dAddA, dSubA, dMulA, dKGet, dKSet, seqOf, tyD, Tg.rd, setsD, wipeD, startD, List.map_cons, List.map_nil, List.length_cons, List.length_nil, List.replicate, List.cons_append, List.nil_append, List.getElem?_cons_zero, List.getElem?_cons_succ, List.set_cons_zero, List.set_cons_succ, Option.some.injEq, exists_eq_left', exists_eq_left, Dv.int.injEq, Dv.bl.injEq, Dv.str.injEq, Dv.tup.injEq, Dv.obj.injEq, Mo.dk.injEq, Mo.lst.injEq, Mo.ldk.injEq, Mo.ins.injEq, exists_eq', exists_eq, List.cons.injEq, and_true, true_and, true_or, or_true, eq_self, decide_true, decide_false, cast2, and_assoc, exists_and_left, exists_and_right, exists_const, exists_eq_right, exists_eq_right_right, Nat.reduceAdd, Nat.reduceSub, Nat.zero_add, List.length_append, st_get0, st_getk, st_set0, st_setk, st_getL0, st_getLk, getL_c0, getL_cs, line0, line1, line2, line3, flatten1, Int.toNat_natCast, Nat.one_mul, List.append_assoc, List.append_nil, Nat.reduceLeDiff, ite_true, ite_false, if_true, if_false, Bool.false_eq_true, Bool.not_true, Bool.not_false, Bool.not_eq_true, and_self, false_and, and_false]
    have hn : 2 + r = (((2 + r).toNat : Nat) : Int) := by omega
    refine ⟨S.length + 1, S.length, (2 + r).toNat, by rw [← hn], hu2.hs, by omega, by omega, fun B S3 hB hLL hu3 => ?_⟩
    have hu13 := hu1.trans (hu2.trans hu3)
    have hc3 := stclo_hup hc2 hu13
    have hsm := hB.le
    have hpos := hB.pos
    -- the turns
    refine seqI ?_
    simp only [sAsg, sNext, sBreak, sCont, sDrop, sRet, sRetN, sPar, sPar3, sAug, sNever, D3.sFld, D3.sFldAug, sAugS, gNm, gsNil, gsCons, gUnp, gSb, eVar, eC, eOp, eUn, eChain, eAnd, eOr, eNot, eIf, eTup, eLst, eArgs, eSl, eBM, aNil, aCons, cVal, cAnd, cOr, cNot, cYes, oNo, oSome, eFld, eMake, eMeth, eCall, eKNew, eKGet1, eKGet2, eDisp, tPairsD, dAdd, dSub, dMul, dDiv, dMod, dPow, dNeg, dCmpI, dIs, dIsNot, isNon, dEq, dNe, sEq, dIx, dSlice, dLen, dInt, b2i', dAbs, dMax, dMin, dSum, dAll, dAny, dOrd, dStrI, dIsi, tyOf, isB, isTy, String.reduceBEq, Bool.or_true, Bool.true_or, Bool.or_false, Bool.false_or, Bool.and_true, Bool.and_false, Bool.false_and, Bool.true_and, dAppend, dPop, dExtend, dSetL, dGetL, dAddA, dSubA, dMulA, dKGet, dKSet, seqOf, tyD, Tg.rd, setsD, wipeD, startD, List.map_cons, List.map_nil, List.length_cons, List.length_nil, List.replicate, List.cons_append, List.nil_append, List.getElem?_cons_zero, List.getElem?_cons_succ, List.set_cons_zero, List.set_cons_succ, Option.some.injEq, exists_eq_left', exists_eq_left, Dv.int.injEq, Dv.bl.injEq, Dv.str.injEq, Dv.tup.injEq, Dv.obj.injEq, Mo.dk.injEq, Mo.lst.injEq, Mo.ldk.injEq, Mo.ins.injEq, exists_eq', exists_eq, List.cons.injEq, and_true, true_and, true_or, or_true, eq_self, decide_true, decide_false, cast2, and_assoc, exists_and_left, exists_and_right, exists_const, exists_eq_right, exists_eq_right_right, Nat.reduceAdd, Nat.reduceSub, Nat.zero_add, List.length_append, st_get0, st_getk, st_set0, st_setk, st_getL0, st_getLk, getL_c0, getL_cs, line0, line1, line2, line3, flatten1, Int.toNat_natCast, Nat.one_mul, List.append_assoc, List.append_nil, Nat.reduceLeDiff, ite_true, ite_false, if_true, if_false, Bool.false_eq_true, Bool.not_true, Bool.not_false, Bool.not_eq_true, and_self, false_and, and_false]
    refine eLc_inv (S1 := S3) (jSeq (bkD B) (B.map rfD)) (fun i acc S' => ∃ ts : List Int, Hup (S.length + 1) S.length S3 S' ∧ acc = ts.map Dv.int ∧ ts.length = i ∧ ∀ (k : Nat) t r, ts[k]? = some t → B[k]? = some r → 0 ≤ t ∧ t < r.length) (hw_seq (fun R hR => ?_) rfl) ⟨[], .refl hu3.hs, rfl, rfl, fun k t r e => by simp at e⟩ ?_ ?_ ?_
    · dsimp! only []
      exact hR
    · rintro i acc S' hi' ⟨ts, hu, rfl, rfl, _⟩
      rw [jSeq_len] at hi'
      exact ⟨rfl, by rw [List.length_map]; exact small_line (by omega)⟩
    · rintro i' d acc S' hd ⟨ts, hu, rfl, rfl, hts⟩ K1 K0 hK1 hK0
      obtain ⟨r', hr', rfl⟩ := jSeq_get hd
      have hrow := hB.row hr'
      dsimp! only [rfD, List.length_map]
      refine ⟨S.length + 1, S.length, r'.length, rfl, hu.hs, by omega, by omega, fun t S'' t0 t1 hu' => hK1 _ _ (.inl ⟨ts ++ [t], hu.trans hu', by rw [List.map_append]; rfl, by rw [List.length_append]; rfl, fun k t' r'' e1 e2 => ?_⟩)⟩
      by_cases z : k < ts.length
      · rw [List.getElem?_append_left z] at e1
        exact hts k t' r'' e1 e2
      · have hk : k = ts.length := by have := at_lt e1; rw [List.length_append] at this; simp at this; omega
        subst hk
        rw [List.getElem?_append_right (Nat.le_refl _), Nat.sub_self] at e1
        cases e1
        rw [hr'] at e2
        cases e2
        exact ⟨t0, t1⟩
    rintro acc S4 ⟨ts, hu4, rfl, htl, hts⟩
    rw [jSeq_len] at htl
    have hT : turnsOk B ts = true := by
      unfold turnsOk
      simp only [Bool.and_eq_true, decide_eq_true_eq]
      refine ⟨htl, List.all_eq_true.mpr ?_⟩
      rintro ⟨t, r'⟩ hp
      obtain ⟨k, hk⟩ := List.getElem?_of_mem hp
      obtain ⟨k1, k2⟩ := List.getElem?_zip_eq_some.mp hk
      have := hts k t r' k1 k2
      simp [this.1, this.2]
    refine ⟨_, getL_at, ?_⟩
    have hu14 := hu13.trans hu4
    -- the songs
    refine seqI ?_
    simp only [sAsg, sNext, sBreak, sCont, sDrop, sRet, sRetN, sPar, sPar3, sAug, sNever, D3.sFld, D3.sFldAug, sAugS, gNm, gsNil, gsCons, gUnp, gSb, eVar, eC, eOp, eUn, eChain, eAnd, eOr, eNot, eIf, eTup, eLst, eArgs, eSl, eBM, aNil, aCons, cVal, cAnd, cOr, cNot, cYes, oNo, oSome, eFld, eMake, eMeth, eCall, eKNew, eKGet1, eKGet2, eDisp, tPairsD, dAdd, dSub, dMul, dDiv, dMod, dPow, dNeg, dCmpI, dIs, dIsNot, isNon, dEq, dNe, sEq, dIx, dSlice, dLen, dInt, b2i', dAbs, dMax, dMin, dSum, dAll, dAny, dOrd, dStrI, dIsi, tyOf, isB, isTy, String.reduceBEq, Bool.or_true, Bool.true_or, Bool.or_false, Bool.false_or, Bool.and_true, Bool.and_false, Bool.false_and, Bool.true_and, dAppend, dPop, dExtend, dSetL, dGetL, dAddA, dSubA, dMulA, dKGet, dKSet, seqOf, tyD, Tg.rd, setsD, wipeD, startD, List.map_cons, List.map_nil, List.length_cons, List.length_nil, List.replicate, List.cons_append, List.nil_append, List.getElem?_cons_zero, List.getElem?_cons_succ, List.set_cons_zero, List.set_cons_succ, Option.some.injEq, exists_eq_left', exists_eq_left, Dv.int.injEq, Dv.bl.injEq, Dv.str.injEq, Dv.tup.injEq, Dv.obj.injEq, Mo.dk.injEq, Mo.lst.injEq, Mo.ldk.injEq, Mo.ins.injEq, exists_eq', exists_eq, List.cons.injEq, and_true, true_and, true_or, or_true, eq_self, decide_true, decide_false, cast2, and_assoc, exists_and_left, exists_and_right, exists_const, exists_eq_right, exists_eq_right_right, Nat.reduceAdd, Nat.reduceSub, Nat.zero_add, List.length_append, st_get0, st_getk, st_set0, st_setk, st_getL0, st_getLk, getL_c0, getL_cs, line0, line1, line2, line3, flatten1, Int.toNat_natCast, Nat.one_mul, List.append_assoc, List.append_nil, Nat.reduceLeDiff, ite_true, ite_false, if_true, if_false, Bool.false_eq_true, Bool.not_true, Bool.not_false, Bool.not_eq_true, and_self, false_and, and_false]
    have hsA : HS (S.length + 1) S.length (S4 ++ [.lst (ts.map Dv.int)]) := hu4.hs.app
    refine ⟨S.length + 1, S.length, 100, rfl, hsA, by decide, by decide, fun s1 S5' s10 s11 hup => ?_⟩
    obtain ⟨S5, rfl, hu5⟩ := hup_app hu4.hs hup
    refine ⟨⟨by decide, by decide, by decide⟩, S.length + 1, S.length, 100, rfl, hu5.hs.app, by decide, by decide, fun s2 S6' s20 s21 hup => ?_⟩
    obtain ⟨S6, rfl, hu6⟩ := hup_app hu5.hs hup
    have p18 : (10 : Int) ^ ((18 : Int).toNat) = 1000000000000000000 := by decide
    simp only [sAsg, sNext, sBreak, sCont, sDrop, sRet, sRetN, sPar, sPar3, sAug, sNever, D3.sFld, D3.sFldAug, sAugS, gNm, gsNil, gsCons, gUnp, gSb, eVar, eC, eOp, eUn, eChain, eAnd, eOr, eNot, eIf, eTup, eLst, eArgs, eSl, eBM, aNil, aCons, cVal, cAnd, cOr, cNot, cYes, oNo, oSome, eFld, eMake, eMeth, eCall, eKNew, eKGet1, eKGet2, eDisp, tPairsD, dAdd, dSub, dMul, dDiv, dMod, dPow, dNeg, dCmpI, dIs, dIsNot, isNon, dEq, dNe, sEq, dIx, dSlice, dLen, dInt, b2i', dAbs, dMax, dMin, dSum, dAll, dAny, dOrd, dStrI, dIsi, tyOf, isB, isTy, String.reduceBEq, Bool.or_true, Bool.true_or, Bool.or_false, Bool.false_or, Bool.and_true, Bool.and_false, Bool.false_and, Bool.true_and, dAppend, dPop, dExtend, dSetL, dGetL, dAddA, dSubA, dMulA, dKGet, dKSet, seqOf, tyD, Tg.rd, setsD, wipeD, startD, List.map_cons, List.map_nil, List.length_cons, List.length_nil, List.replicate, List.cons_append, List.nil_append, List.getElem?_cons_zero, List.getElem?_cons_succ, List.set_cons_zero, List.set_cons_succ, Option.some.injEq, exists_eq_left', exists_eq_left, Dv.int.injEq, Dv.bl.injEq, Dv.str.injEq, Dv.tup.injEq, Dv.obj.injEq, Mo.dk.injEq, Mo.lst.injEq, Mo.ldk.injEq, Mo.ins.injEq, exists_eq', exists_eq, List.cons.injEq, and_true, true_and, true_or, or_true, eq_self, decide_true, decide_false, cast2, and_assoc, exists_and_left, exists_and_right, exists_const, exists_eq_right, exists_eq_right_right, Nat.reduceAdd, Nat.reduceSub, Nat.zero_add, List.length_append, st_get0, st_getk, st_set0, st_setk, st_getL0, st_getLk, getL_c0, getL_cs, line0, line1, line2, line3, flatten1, Int.toNat_natCast, Nat.one_mul, List.append_assoc, List.append_nil, Nat.reduceLeDiff, ite_true, ite_false, if_true, if_false, Bool.false_eq_true, Bool.not_true, Bool.not_false, Bool.not_eq_true, and_self, false_and, and_false, p18]
    refine ⟨S.length + 1, S.length, 2, rfl, hu6.hs.app, by decide, by decide, fun b S7' b0 b1 hup => ?_⟩
    obtain ⟨S7, rfl, hu7⟩ := hup_app hu6.hs hup
    have hu17 := hu14.trans (hu5.trans (hu6.trans hu7))
    have h67 : S6.length = S7.length := hu7.len.symm
    simp only [sAsg, sNext, sBreak, sCont, sDrop, sRet, sRetN, sPar, sPar3, sAug, sNever, D3.sFld, D3.sFldAug, sAugS, gNm, gsNil, gsCons, gUnp, gSb, eVar, eC, eOp, eUn, eChain, eAnd, eOr, eNot, eIf, eTup, eLst, eArgs, eSl, eBM, aNil, aCons, cVal, cAnd, cOr, cNot, cYes, oNo, oSome, eFld, eMake, eMeth, eCall, eKNew, eKGet1, eKGet2, eDisp, tPairsD, dAdd, dSub, dMul, dDiv, dMod, dPow, dNeg, dCmpI, dIs, dIsNot, isNon, dEq, dNe, sEq, dIx, dSlice, dLen, dInt, b2i', dAbs, dMax, dMin, dSum, dAll, dAny, dOrd, dStrI, dIsi, tyOf, isB, isTy, String.reduceBEq, Bool.or_true, Bool.true_or, Bool.or_false, Bool.false_or, Bool.and_true, Bool.and_false, Bool.false_and, Bool.true_and, dAppend, dPop, dExtend, dSetL, dGetL, dAddA, dSubA, dMulA, dKGet, dKSet, seqOf, tyD, Tg.rd, setsD, wipeD, startD, List.map_cons, List.map_nil, List.length_cons, List.length_nil, List.replicate, List.cons_append, List.nil_append, List.getElem?_cons_zero, List.getElem?_cons_succ, List.set_cons_zero, List.set_cons_succ, Option.some.injEq, exists_eq_left', exists_eq_left, Dv.int.injEq, Dv.bl.injEq, Dv.str.injEq, Dv.tup.injEq, Dv.obj.injEq, Mo.dk.injEq, Mo.lst.injEq, Mo.ldk.injEq, Mo.ins.injEq, exists_eq', exists_eq, List.cons.injEq, and_true, true_and, true_or, or_true, eq_self, decide_true, decide_false, cast2, and_assoc, exists_and_left, exists_and_right, exists_const, exists_eq_right, exists_eq_right_right, Nat.reduceAdd, Nat.reduceSub, Nat.zero_add, List.length_append, st_get0, st_getk, st_set0, st_setk, st_getL0, st_getLk, getL_c0, getL_cs, line0, line1, line2, line3, flatten1, Int.toNat_natCast, Nat.one_mul, List.append_assoc, List.append_nil, Nat.reduceLeDiff, ite_true, ite_false, if_true, if_false, Bool.false_eq_true, Bool.not_true, Bool.not_false, Bool.not_eq_true, and_self, false_and, and_false, h67]
    obtain ⟨s, hs, hs0, hs1⟩ : ∃ s : Int, L2.atI [Dv.int s1, .int (1000000000000000000 - s2)] b = some (.int s) ∧ 0 ≤ s ∧ s ≤ 1000000000000000000 := by
      have hb : b = 0 ∨ b = 1 := by omega
      rcases hb with rfl | rfl
      · exact ⟨s1, at0, by omega, by omega⟩
      · exact ⟨_, at1, by omega, by omega⟩
    refine ⟨_, hs, ?_⟩
    generalize hSb : S7 ++ Mo.lst (ts.map Dv.int) :: [Mo.lst [Dv.int s1, .int (1000000000000000000 - s2)]] = Sb at *
    refine seqI ?_
    simp only [sAsg, sNext, sBreak, sCont, sDrop, sRet, sRetN, sPar, sPar3, sAug, sNever, D3.sFld, D3.sFldAug, sAugS, gNm, gsNil, gsCons, gUnp, gSb, eVar, eC, eOp, eUn, eChain, eAnd, eOr, eNot, eIf, eTup, eLst, eArgs, eSl, eBM, aNil, aCons, cVal, cAnd, cOr, cNot, cYes, oNo, oSome, eFld, eMake, eMeth, eCall, eKNew, eKGet1, eKGet2, eDisp, tPairsD, dAdd, dSub, dMul, dDiv, dMod, dPow, dNeg, dCmpI, dIs, dIsNot, isNon, dEq, dNe, sEq, dIx, dSlice, dLen, dInt, b2i', dAbs, dMax, dMin, dSum, dAll, dAny, dOrd, dStrI, dIsi, tyOf, isB, isTy, String.reduceBEq, Bool.or_true, Bool.true_or, Bool.or_false, Bool.false_or, Bool.and_true, Bool.and_false, Bool.false_and, Bool.true_and, dAppend, dPop, dExtend, dSetL, dGetL, dAddA, dSubA, dMulA, dKGet, dKSet, seqOf, tyD, Tg.rd, setsD, wipeD, startD, List.map_cons, List.map_nil, List.length_cons, List.length_nil, List.replicate, List.cons_append, List.nil_append, List.getElem?_cons_zero, List.getElem?_cons_succ, List.set_cons_zero, List.set_cons_succ, Option.some.injEq, exists_eq_left', exists_eq_left, Dv.int.injEq, Dv.bl.injEq, Dv.str.injEq, Dv.tup.injEq, Dv.obj.injEq, Mo.dk.injEq, Mo.lst.injEq, Mo.ldk.injEq, Mo.ins.injEq, exists_eq', exists_eq, List.cons.injEq, and_true, true_and, true_or, or_true, eq_self, decide_true, decide_false, cast2, and_assoc, exists_and_left, exists_and_right, exists_const, exists_eq_right, exists_eq_right_right, Nat.reduceAdd, Nat.reduceSub, Nat.zero_add, List.length_append, st_get0, st_getk, st_set0, st_setk, st_getL0, st_getLk, getL_c0, getL_cs, line0, line1, line2, line3, flatten1, Int.toNat_natCast, Nat.one_mul, List.append_assoc, List.append_nil, Nat.reduceLeDiff, ite_true, ite_false, if_true, if_false, Bool.false_eq_true, Bool.not_true, Bool.not_false, Bool.not_eq_true, and_self, false_and, and_false, bkD, List.length_map]
    have hn1 : ((B.length : Int) - 1).toNat = B.length - 1 := by omega
    rw [hn1]
    refine ⟨by omega, by omega, Nat.le_of_lt (small_line (by omega)), by rw [List.length_replicate]; exact Nat.le_of_lt (small_line (by omega)), dW 0 0, rfl, by decide, ?_⟩
    have hmer : mergeD [] (dW 0 0) = dW 0 0 := rfl
    have hstore : Sb ++ [Mo.lst [Dv.int s], Mo.lst [Dv.int 0], Mo.lst (List.replicate (B.length - 1) (Dv.int 0)), Mo.lst (Dv.int s :: List.replicate (B.length - 1) (Dv.int 0)), Mo.dk (mergeD [] (dW 0 0))] = stL (Sb ++ [Mo.lst [Dv.int s], Mo.lst [Dv.int 0], Mo.lst (List.replicate (B.length - 1) (Dv.int 0))]) (bookK B ts s 0) := by
      unfold stL bookK
      rw [hmer]
      simp only [List.range_zero, List.foldl_nil]
      rw [start_cons hpos]
      simp
    rw [hstore]
    have hSc : ∃ G, Sb ++ [Mo.lst [Dv.int s], Mo.lst [Dv.int 0], Mo.lst (List.replicate (B.length - 1) (Dv.int 0))] = S7 ++ G := ⟨_, by rw [← hSb, List.append_assoc]⟩
    have hScl : (Sb ++ [Mo.lst [Dv.int s], Mo.lst [Dv.int 0], Mo.lst (List.replicate (B.length - 1) (Dv.int 0))]).length = Sb.length + 3 := by rw [List.length_append]; rfl
    have hScc : StClo (Sb ++ [Mo.lst [Dv.int s], Mo.lst [Dv.int 0], Mo.lst (List.replicate (B.length - 1) (Dv.int 0))]) := by
      have h0 : StClo Sb := by
        have h1 := stclo_one (m := .lst (ts.map Dv.int)) (stclo_hup hc2 hu17) cloL_ints
        have h2 := stclo_one (m := .lst [.int s1, .int (1000000000000000000 - s2)]) h1 rfl
        rw [← hSb]
        simpa using h2
      have h1 := stclo_one (m := .lst [.int s]) h0 rfl
      have h2 := stclo_one (m := .lst [.int 0]) h1 rfl
      have h3 := stclo_one (m := .lst (List.replicate (B.length - 1) (.int 0))) h2 (cloL_iff.mpr fun d hd => by rw [List.eq_of_mem_replicate hd]; rfl)
      simpa using h3
    have e4 : Sb.length + 4 = Sb.length + 3 + 1 := rfl
    rw [e4, ← hScl]
    generalize Sb ++ [Mo.lst [Dv.int s], Mo.lst [Dv.int 0], Mo.lst (List.replicate (B.length - 1) (Dv.int 0))] = Sc at *
    obtain ⟨G, hG⟩ := hSc
    -- the starts of every refrain
    refine seqI ?_
    refine sFor_inv (S1 := stL Sc (bookK B ts s 0)) (jRg B.length) (fun k σ S' => S' = stL Sc (bookK B ts s k) ∧ ∃ o0 : Option Dv, σ = [o0, some (.obj (S.length + 1)), some (.int i), some (bkD B), some (tsD ts), some (.int s), some (.obj Sc.length), some (.obj (Sc.length + 1)), none, none, none, none, none, none, none, none]) (hw_rg1 (fun R hR => ?_) (by omega)) ⟨rfl, o0, rfl⟩ (fun _ _ _ _ _ => trivial) ?_ ?_
    · dsimp! only [List.length_map]
      exact hR
    · rintro k d σ S' hd ⟨rfl, o0', rfl⟩ KK hKK'
      obtain ⟨hk, rfl⟩ := jRg_get hd
      obtain ⟨r', hr'⟩ : ∃ r', B[k]? = some r' := ⟨_, List.getElem?_eq_getElem hk⟩
      have hrow := hB.row hr'
      have hwl : (bookK B ts s k).starts.length = B.length := bookK_len k
      have hsn := F.nneg B ts s hB hLL hT hs0 k k (by omega)
      have hstep := bookK_succ (B := B) (ts := ts) (s := s) (k := k)
      unfold bookStep at hstep
      have hgd : B.getD k [] = r' := by rw [List.getD_eq_getElem?_getD, hr']; rfl
      rw [hgd] at hstep
      generalize hw : bookK B ts s k = w at *
      have hst : getL (stL Sc w) Sc.length = some (w.starts.map Dv.int) := by unfold stL; rw [st_getL0]; rfl
      have hsk : (w.starts.map Dv.int)[k]? = some (.int (w.starts.getD k 0)) := by rw [List.getElem?_map, List.getD_eq_getElem?_getD, List.getElem?_eq_getElem (by omega)]; rfl
      have htk : (ts.map Dv.int)[k]? = some (.int (ts.getD k 0)) := by rw [List.getElem?_map, List.getD_eq_getElem?_getD, List.getElem?_eq_getElem (by omega)]; rfl
      have hbk : (B.map rfD)[k]? = some (rfD r') := by rw [List.getElem?_map, hr']; rfl
      simp only [sAsg, sNext, sBreak, sCont, sDrop, sRet, sRetN, sPar, sPar3, sAug, sNever, D3.sFld, D3.sFldAug, sAugS, gNm, gsNil, gsCons, gUnp, gSb, eVar, eC, eOp, eUn, eChain, eAnd, eOr, eNot, eIf, eTup, eLst, eArgs, eSl, eBM, aNil, aCons, cVal, cAnd, cOr, cNot, cYes, oNo, oSome, eFld, eMake, eMeth, eCall, eKNew, eKGet1, eKGet2, eDisp, tPairsD, dAdd, dSub, dMul, dDiv, dMod, dPow, dNeg, dCmpI, dIs, dIsNot, isNon, dEq, dNe, sEq, dIx, dSlice, dLen, dInt, b2i', dAbs, dMax, dMin, dSum, dAll, dAny, dOrd, dStrI, dIsi, tyOf, isB, isTy, String.reduceBEq, Bool.or_true, Bool.true_or, Bool.or_false, Bool.false_or, Bool.and_true, Bool.and_false, Bool.false_and, Bool.true_and, dAppend, dPop, dExtend, dSetL, dGetL, dAddA, dSubA, dMulA, dKGet, dKSet, seqOf, tyD, Tg.rd, setsD, wipeD, startD, List.map_cons, List.map_nil, List.length_cons, List.length_nil, List.replicate, List.cons_append, List.nil_append, List.getElem?_cons_zero, List.getElem?_cons_succ, List.set_cons_zero, List.set_cons_succ, Option.some.injEq, exists_eq_left', exists_eq_left, Dv.int.injEq, Dv.bl.injEq, Dv.str.injEq, Dv.tup.injEq, Dv.obj.injEq, Mo.dk.injEq, Mo.lst.injEq, Mo.ldk.injEq, Mo.ins.injEq, exists_eq', exists_eq, List.cons.injEq, and_true, true_and, true_or, or_true, eq_self, decide_true, decide_false, cast2, and_assoc, exists_and_left, exists_and_right, exists_const, exists_eq_right, exists_eq_right_right, Nat.reduceAdd, Nat.reduceSub, Nat.zero_add, List.length_append, st_get0, st_getk, st_set0, st_setk, st_getL0, st_getLk, getL_c0, getL_cs, line0, line1, line2, line3, flatten1, Int.toNat_natCast, Nat.one_mul, List.append_assoc, List.append_nil, Nat.reduceLeDiff, ite_true, ite_false, if_true, if_false, Bool.false_eq_true, Bool.not_true, Bool.not_false, Bool.not_eq_true, and_self, false_and, and_false]
      refine seqI ?_
      simp only [sAsg, sNext, sBreak, sCont, sDrop, sRet, sRetN, sPar, sPar3, sAug, sNever, D3.sFld, D3.sFldAug, sAugS, gNm, gsNil, gsCons, gUnp, gSb, eVar, eC, eOp, eUn, eChain, eAnd, eOr, eNot, eIf, eTup, eLst, eArgs, eSl, eBM, aNil, aCons, cVal, cAnd, cOr, cNot, cYes, oNo, oSome, eFld, eMake, eMeth, eCall, eKNew, eKGet1, eKGet2, eDisp, tPairsD, dAdd, dSub, dMul, dDiv, dMod, dPow, dNeg, dCmpI, dIs, dIsNot, isNon, dEq, dNe, sEq, dIx, dSlice, dLen, dInt, b2i', dAbs, dMax, dMin, dSum, dAll, dAny, dOrd, dStrI, dIsi, tyOf, isB, isTy, String.reduceBEq, Bool.or_true, Bool.true_or, Bool.or_false, Bool.false_or, Bool.and_true, Bool.and_false, Bool.false_and, Bool.true_and, dAppend, dPop, dExtend, dSetL, dGetL, dAddA, dSubA, dMulA, dKGet, dKSet, seqOf, tyD, Tg.rd, setsD, wipeD, startD, List.map_cons, List.map_nil, List.length_cons, List.length_nil, List.replicate, List.cons_append, List.nil_append, List.getElem?_cons_zero, List.getElem?_cons_succ, List.set_cons_zero, List.set_cons_succ, Option.some.injEq, exists_eq_left', exists_eq_left, Dv.int.injEq, Dv.bl.injEq, Dv.str.injEq, Dv.tup.injEq, Dv.obj.injEq, Mo.dk.injEq, Mo.lst.injEq, Mo.ldk.injEq, Mo.ins.injEq, exists_eq', exists_eq, List.cons.injEq, and_true, true_and, true_or, or_true, eq_self, decide_true, decide_false, cast2, and_assoc, exists_and_left, exists_and_right, exists_const, exists_eq_right, exists_eq_right_right, Nat.reduceAdd, Nat.reduceSub, Nat.zero_add, List.length_append, st_get0, st_getk, st_set0, st_setk, st_getL0, st_getLk, getL_c0, getL_cs, line0, line1, line2, line3, flatten1, Int.toNat_natCast, Nat.one_mul, List.append_assoc, List.append_nil, Nat.reduceLeDiff, ite_true, ite_false, if_true, if_false, Bool.false_eq_true, Bool.not_true, Bool.not_false, Bool.not_eq_true, and_self, false_and, and_false, hst, atI_nat hsk, tsD, atI_nat htk, bkD, atI_nat hbk, rfD, List.length_map]
      refine ⟨_, _, r'.length, rfl, hsn, hrow.1, by omega, ?_⟩
      have hul : (usesL r'.length (ts.getD k 0) (w.starts.getD k 0)).length = r'.length := by unfold usesL; rw [List.length_map, List.length_range]
      generalize usesL r'.length (ts.getD k 0) (w.starts.getD k 0) = us at *
      simp only [sAsg, sNext, sBreak, sCont, sDrop, sRet, sRetN, sPar, sPar3, sAug, sNever, D3.sFld, D3.sFldAug, sAugS, gNm, gsNil, gsCons, gUnp, gSb, eVar, eC, eOp, eUn, eChain, eAnd, eOr, eNot, eIf, eTup, eLst, eArgs, eSl, eBM, aNil, aCons, cVal, cAnd, cOr, cNot, cYes, oNo, oSome, eFld, eMake, eMeth, eCall, eKNew, eKGet1, eKGet2, eDisp, tPairsD, dAdd, dSub, dMul, dDiv, dMod, dPow, dNeg, dCmpI, dIs, dIsNot, isNon, dEq, dNe, sEq, dIx, dSlice, dLen, dInt, b2i', dAbs, dMax, dMin, dSum, dAll, dAny, dOrd, dStrI, dIsi, tyOf, isB, isTy, String.reduceBEq, Bool.or_true, Bool.true_or, Bool.or_false, Bool.false_or, Bool.and_true, Bool.and_false, Bool.false_and, Bool.true_and, dAppend, dPop, dExtend, dSetL, dGetL, dAddA, dSubA, dMulA, dKGet, dKSet, seqOf, tyD, Tg.rd, setsD, wipeD, startD, List.map_cons, List.map_nil, List.length_cons, List.length_nil, List.replicate, List.cons_append, List.nil_append, List.getElem?_cons_zero, List.getElem?_cons_succ, List.set_cons_zero, List.set_cons_succ, Option.some.injEq, exists_eq_left', exists_eq_left, Dv.int.injEq, Dv.bl.injEq, Dv.str.injEq, Dv.tup.injEq, Dv.obj.injEq, Mo.dk.injEq, Mo.lst.injEq, Mo.ldk.injEq, Mo.ins.injEq, exists_eq', exists_eq, List.cons.injEq, and_true, true_and, true_or, or_true, eq_self, decide_true, decide_false, cast2, and_assoc, exists_and_left, exists_and_right, exists_const, exists_eq_right, exists_eq_right_right, Nat.reduceAdd, Nat.reduceSub, Nat.zero_add, List.length_append, st_get0, st_getk, st_set0, st_setk, st_getL0, st_getLk, getL_c0, getL_cs, line0, line1, line2, line3, flatten1, Int.toNat_natCast, Nat.one_mul, List.append_assoc, List.append_nil, Nat.reduceLeDiff, ite_true, ite_false, if_true, if_false, Bool.false_eq_true, Bool.not_true, Bool.not_false, Bool.not_eq_true, and_self, false_and, and_false]
      have hvlen : ∀ (l : List (Int × List Itm)), (l.foldl verseStep w).starts.length = B.length := fun l => by rw [verses_len]; exact hwl
      refine sFor_inv (S1 := stL Sc w ++ [.lst (us.map Dv.int)]) (jRg r'.length) (fun j σ S' => S' = stL Sc (((us.zip r').take j).foldl verseStep w) ++ [.lst (us.map Dv.int)] ∧ ∃ o10 o11 : Option Dv, σ = [o0', some (.obj (S.length + 1)), some (.int i), some (bkD B), some (tsD ts), some (.int s), some (.obj Sc.length), some (.obj (Sc.length + 1)), some (.int k), some (.obj (stL Sc w).length), o10, o11, none, none, none, none]) (hw_rg1 (fun R hR => ?_) (by omega)) ⟨rfl, none, none, rfl⟩ (fun _ _ _ _ _ => trivial) ?_ ?_
      · dsimp! only [bkD, atI_nat hbk, rfD, List.length_map]
        exact hR
      · rintro j d σ S' hd ⟨rfl, o10, o11, rfl⟩ K2 hK2
        obtain ⟨hj, rfl⟩ := jRg_get hd
        obtain ⟨v, hv⟩ : ∃ v, r'[j]? = some v := ⟨_, List.getElem?_eq_getElem hj⟩
        have hvr : v ∈ r' := List.mem_of_getElem? hv
        have hv6 := (hB.verse hr' hvr).2.1
        obtain ⟨u, hu⟩ : ∃ u, us[j]? = some u := ⟨_, List.getElem?_eq_getElem (by omega)⟩
        have hzip : (us.zip r').take (j + 1) = (us.zip r').take j ++ [(u, v)] := take_succ (List.getElem?_zip_eq_some.mpr ⟨hu, hv⟩)
        have hwjl := hvlen ((us.zip r').take j)
        generalize hwj : ((us.zip r').take j).foldl verseStep w = wj at *
        have hvk : (r'.map vsD)[j]? = some (vsD v) := by rw [List.getElem?_map, hv]; rfl
        simp only [sAsg, sNext, sBreak, sCont, sDrop, sRet, sRetN, sPar, sPar3, sAug, sNever, D3.sFld, D3.sFldAug, sAugS, gNm, gsNil, gsCons, gUnp, gSb, eVar, eC, eOp, eUn, eChain, eAnd, eOr, eNot, eIf, eTup, eLst, eArgs, eSl, eBM, aNil, aCons, cVal, cAnd, cOr, cNot, cYes, oNo, oSome, eFld, eMake, eMeth, eCall, eKNew, eKGet1, eKGet2, eDisp, tPairsD, dAdd, dSub, dMul, dDiv, dMod, dPow, dNeg, dCmpI, dIs, dIsNot, isNon, dEq, dNe, sEq, dIx, dSlice, dLen, dInt, b2i', dAbs, dMax, dMin, dSum, dAll, dAny, dOrd, dStrI, dIsi, tyOf, isB, isTy, String.reduceBEq, Bool.or_true, Bool.true_or, Bool.or_false, Bool.false_or, Bool.and_true, Bool.and_false, Bool.false_and, Bool.true_and, dAppend, dPop, dExtend, dSetL, dGetL, dAddA, dSubA, dMulA, dKGet, dKSet, seqOf, tyD, Tg.rd, setsD, wipeD, startD, List.map_cons, List.map_nil, List.length_cons, List.length_nil, List.replicate, List.cons_append, List.nil_append, List.getElem?_cons_zero, List.getElem?_cons_succ, List.set_cons_zero, List.set_cons_succ, Option.some.injEq, exists_eq_left', exists_eq_left, Dv.int.injEq, Dv.bl.injEq, Dv.str.injEq, Dv.tup.injEq, Dv.obj.injEq, Mo.dk.injEq, Mo.lst.injEq, Mo.ldk.injEq, Mo.ins.injEq, exists_eq', exists_eq, List.cons.injEq, and_true, true_and, true_or, or_true, eq_self, decide_true, decide_false, cast2, and_assoc, exists_and_left, exists_and_right, exists_const, exists_eq_right, exists_eq_right_right, Nat.reduceAdd, Nat.reduceSub, Nat.zero_add, List.length_append, st_get0, st_getk, st_set0, st_setk, st_getL0, st_getLk, getL_c0, getL_cs, line0, line1, line2, line3, flatten1, Int.toNat_natCast, Nat.one_mul, List.append_assoc, List.append_nil, Nat.reduceLeDiff, ite_true, ite_false, if_true, if_false, Bool.false_eq_true, Bool.not_true, Bool.not_false, Bool.not_eq_true, and_self, false_and, and_false]
        refine sFor_inv (S1 := stL Sc wj ++ [.lst (us.map Dv.int)]) (jSeq (vsD v) (v.map Itm.d)) (fun l σ S' => S' = stL Sc ((v.take l).foldl (itemStep u) wj) ++ [.lst (us.map Dv.int)] ∧ ∃ o11 : Option Dv, σ = [o0', some (.obj (S.length + 1)), some (.int i), some (bkD B), some (tsD ts), some (.int s), some (.obj Sc.length), some (.obj (Sc.length + 1)), some (.int k), some (.obj (stL Sc w).length), some (.int j), o11, none, none, none, none]) (hw_seq (fun R hR => ?_) rfl) ⟨rfl, o11, rfl⟩ (fun _ _ _ _ _ => rfl) ?_ ?_
        · dsimp! only [bkD, atI_nat hbk, rfD, atI_nat hvk]
          exact hR
        · rintro l d σ S' hd ⟨rfl, o11', rfl⟩ K3 hK3
          obtain ⟨y, hy, rfl⟩ := jSeq_get hd
          have hyv : y ∈ v := List.mem_of_getElem? hy
          have hnext : (v.take (l + 1)).foldl (itemStep u) wj = itemStep u ((v.take l).foldl (itemStep u) wj) y := by rw [take_succ hy, List.foldl_append]; rfl
          have hwll : ((v.take l).foldl (itemStep u) wj).starts.length = B.length := by rw [items_len]; exact hwjl
          generalize (v.take l).foldl (itemStep u) wj = w3 at *
          have g1 : ∀ T, getL (stL Sc w3 ++ T) Sc.length = some (w3.starts.map Dv.int) := fun T => getL_old (by unfold stL; rw [st_getL0]; rfl)
          have g2 : ∀ T, getK (stL Sc w3 ++ T) (Sc.length + 1) = some (dW w3.la w3.lo) := fun T => by
            unfold getK
            rw [get_old (show (stL Sc w3)[Sc.length + 1]? = some (.dk (dW w3.la w3.lo)) by unfold stL; rw [st_getk]; rfl)]
          have g2' : ∀ T, (stL Sc w3 ++ T)[Sc.length + 1]? = some (.dk (dW w3.la w3.lo)) := fun T => get_old (by unfold stL; rw [st_getk]; rfl)
          have g3 : getL (stL Sc w3 ++ [.lst (us.map Dv.int)]) (stL Sc w).length = some (us.map Dv.int) := by
            rw [stL_len, ← stL_len (Sc := Sc) (w := w3), st_getL0]; rfl
          have huk : (us.map Dv.int)[j]? = some (.int u) := by rw [List.getElem?_map, hu]; rfl
          have e1 : ∀ (la lo : Int), (stL Sc w3 ++ [Mo.lst (us.map Dv.int)]).set (Sc.length + 1) (.dk (dW la lo)) = stL Sc ⟨w3.starts, la, lo⟩ ++ [.lst (us.map Dv.int)] := fun la lo => by
            rw [List.set_append_left _ _ (by rw [stL_len]; omega)]
            unfold stL
            rw [st_setk]; rfl
          have e2 : ∀ (l : List Int), (stL Sc w3 ++ [Mo.lst (us.map Dv.int)]).set Sc.length (.lst (l.map Dv.int)) = stL Sc ⟨l, w3.la, w3.lo⟩ ++ [.lst (us.map Dv.int)] := fun l => by
            rw [List.set_append_left _ _ (by rw [stL_len]; omega)]
            unfold stL
            rw [st_set0]; rfl
          cases y with
          | wd z =>
            have hz := hLL r' (List.mem_of_getElem? hr') v hvr z hyv
            rcases hz with rfl | rfl
            · dsimp! only [Itm.d, g2, g2', g3, atI_nat huk, dKey, dW_la, dW_pla]
              refine ⟨by show 2 < sizeLine; decide, hK3 _ _ (.inl ⟨?_, some (.str "la"), rfl⟩)⟩
              rw [e1, hnext, item_la]
            · dsimp! only [Itm.d, g2, g2', g3, atI_nat huk, dKey, dW_lo, dW_plo]
              refine ⟨by show 2 < sizeLine; decide, hK3 _ _ (.inl ⟨?_, some (.str "lo"), rfl⟩)⟩
              rw [e1, hnext, item_lo]
          | ref n' =>
            have hn' := hB.within r' (List.mem_of_getElem? hr') v hvr n' hyv
            have hn2 : n' < w3.starts.length := by rw [hwll]; exact hn'.2
            dsimp! only [Itm.d, g1, g3, atI_nat huk, at_ints hn'.1 hn2, List.length_map, ix_int hn'.1 hn2, set_ints]
            refine hK3 _ _ (.inl ⟨?_, some (.int n'), rfl⟩)
            rw [e2, hnext]; rfl
        · rintro σ S' ⟨rfl, o11', rfl⟩
          rw [jSeq_len, List.take_length]
          refine hK2 _ _ (.inl ⟨?_, some (.int j), o11', rfl⟩)
          rw [hzip, List.foldl_append, hwj]; rfl
      · rintro σ S' ⟨rfl, o10, o11, rfl⟩
        rw [jRg_len]
        have e1 : (us.zip r').take r'.length = us.zip r' := List.take_of_length_le (by rw [List.length_zip]; omega)
        rw [e1]
        have hfinal : (us.zip r').foldl verseStep w = bookK B ts s (k + 1) := by rw [hstep]; rfl
        rw [hfinal]
        refine hKK' _ _ (.inr ⟨Sc.length + 2, [none, some (.obj (S.length + 1)), some (.int i), some (bkD B), some (tsD ts), some (.int s), some (.obj Sc.length), some (.obj (Sc.length + 1)), none, none, none, none, none, none, none, none], by rw [stL_len]; exact Nat.le_refl _, ?_, ?_, ?_, none, rfl⟩)
        · have hlt : S.length + 1 < Sc.length + 2 := by
            have h1 : S7.length = S0.length := hu17.len
            have h2 : S7.length ≤ Sc.length := by rw [hG, List.length_append]; omega
            omega
          simp [Fg, Dv.clo, bkD_clo, tsD_clo, hlt]
        · rw [← stL_len (w := bookK B ts s (k + 1)), List.take_left]
          exact stL_clo hScc
        · rw [← stL_len (w := bookK B ts s (k + 1)), List.take_left]
    · rintro σ S' ⟨rfl, o0', rfl⟩
      rw [jRg_len]
      have fw := F.words B ts s hB hLL hT hs0
      have ft := F.turns B ts s hB hLL hT hs0
      have fo := F.tOk B ts s hB hLL hT hs0
      have fa := F.cLa B ts s hB hLL hT hs0
      have fl := F.cLo B ts s hB hLL hT hs0
      have hwl : (bookK B ts s B.length).starts.length = B.length := bookK_len _
      have hfl : (lawTurns B ts (bookK B ts s B.length)).length = B.length := by unfold lawTurns; rw [List.length_map, List.length_range]
      have hfin : ∀ W : Lw, (List.range B.length).map (fun k : Nat => Dv.int ((ts.getD k 0 + W.starts.getD k 0) % ((B.getD k []).length : Int))) = (lawTurns B ts W).map Dv.int := fun W => by unfold lawTurns; rw [List.map_map]; rfl
      generalize hW : bookK B ts s B.length = W at *
      have hcl := stL_clo (w := W) hScc
      have hst : ∀ T, getL (stL Sc W ++ T) Sc.length = some (W.starts.map Dv.int) := fun T => getL_old (by unfold stL; rw [st_getL0]; rfl)
      have hst0 : getL (stL Sc W) Sc.length = some (W.starts.map Dv.int) := by unfold stL; rw [st_getL0]; rfl
      have hdk : ∀ T, getK (stL Sc W ++ T) (Sc.length + 1) = some (dW W.la W.lo) := fun T => by
        unfold getK
        rw [get_old (show (stL Sc W)[Sc.length + 1]? = some (.dk (dW W.la W.lo)) by unfold stL; rw [st_getk]; rfl)]
      simp only [sAsg, sNext, sBreak, sCont, sDrop, sRet, sRetN, sPar, sPar3, sAug, sNever, D3.sFld, D3.sFldAug, sAugS, gNm, gsNil, gsCons, gUnp, gSb, eVar, eC, eOp, eUn, eChain, eAnd, eOr, eNot, eIf, eTup, eLst, eArgs, eSl, eBM, aNil, aCons, cVal, cAnd, cOr, cNot, cYes, oNo, oSome, eFld, eMake, eMeth, eCall, eKNew, eKGet1, eKGet2, eDisp, tPairsD, dAdd, dSub, dMul, dDiv, dMod, dPow, dNeg, dCmpI, dIs, dIsNot, isNon, dEq, dNe, sEq, dIx, dSlice, dLen, dInt, b2i', dAbs, dMax, dMin, dSum, dAll, dAny, dOrd, dStrI, dIsi, tyOf, isB, isTy, String.reduceBEq, Bool.or_true, Bool.true_or, Bool.or_false, Bool.false_or, Bool.and_true, Bool.and_false, Bool.false_and, Bool.true_and, dAppend, dPop, dExtend, dSetL, dGetL, dAddA, dSubA, dMulA, dKGet, dKSet, seqOf, tyD, Tg.rd, setsD, wipeD, startD, List.map_cons, List.map_nil, List.length_cons, List.length_nil, List.replicate, List.cons_append, List.nil_append, List.getElem?_cons_zero, List.getElem?_cons_succ, List.set_cons_zero, List.set_cons_succ, Option.some.injEq, exists_eq_left', exists_eq_left, Dv.int.injEq, Dv.bl.injEq, Dv.str.injEq, Dv.tup.injEq, Dv.obj.injEq, Mo.dk.injEq, Mo.lst.injEq, Mo.ldk.injEq, Mo.ins.injEq, exists_eq', exists_eq, List.cons.injEq, and_true, true_and, true_or, or_true, eq_self, decide_true, decide_false, cast2, and_assoc, exists_and_left, exists_and_right, exists_const, exists_eq_right, exists_eq_right_right, Nat.reduceAdd, Nat.reduceSub, Nat.zero_add, List.length_append, st_get0, st_getk, st_set0, st_setk, st_getL0, st_getLk, getL_c0, getL_cs, line0, line1, line2, line3, flatten1, Int.toNat_natCast, Nat.one_mul, List.append_assoc, List.append_nil, Nat.reduceLeDiff, ite_true, ite_false, if_true, if_false, Bool.false_eq_true, Bool.not_true, Bool.not_false, Bool.not_eq_true, and_self, false_and, and_false]
      refine seqI ?_
      simp only [sAsg, sNext, sBreak, sCont, sDrop, sRet, sRetN, sPar, sPar3, sAug, sNever, D3.sFld, D3.sFldAug, sAugS, gNm, gsNil, gsCons, gUnp, gSb, eVar, eC, eOp, eUn, eChain, eAnd, eOr, eNot, eIf, eTup, eLst, eArgs, eSl, eBM, aNil, aCons, cVal, cAnd, cOr, cNot, cYes, oNo, oSome, eFld, eMake, eMeth, eCall, eKNew, eKGet1, eKGet2, eDisp, tPairsD, dAdd, dSub, dMul, dDiv, dMod, dPow, dNeg, dCmpI, dIs, dIsNot, isNon, dEq, dNe, sEq, dIx, dSlice, dLen, dInt, b2i', dAbs, dMax, dMin, dSum, dAll, dAny, dOrd, dStrI, dIsi, tyOf, isB, isTy, String.reduceBEq, Bool.or_true, Bool.true_or, Bool.or_false, Bool.false_or, Bool.and_true, Bool.and_false, Bool.false_and, Bool.true_and, dAppend, dPop, dExtend, dSetL, dGetL, dAddA, dSubA, dMulA, dKGet, dKSet, seqOf, tyD, Tg.rd, setsD, wipeD, startD, List.map_cons, List.map_nil, List.length_cons, List.length_nil, List.replicate, List.cons_append, List.nil_append, List.getElem?_cons_zero, List.getElem?_cons_succ, List.set_cons_zero, List.set_cons_succ, Option.some.injEq, exists_eq_left', exists_eq_left, Dv.int.injEq, Dv.bl.injEq, Dv.str.injEq, Dv.tup.injEq, Dv.obj.injEq, Mo.dk.injEq, Mo.lst.injEq, Mo.ldk.injEq, Mo.ins.injEq, exists_eq', exists_eq, List.cons.injEq, and_true, true_and, true_or, or_true, eq_self, decide_true, decide_false, cast2, and_assoc, exists_and_left, exists_and_right, exists_const, exists_eq_right, exists_eq_right_right, Nat.reduceAdd, Nat.reduceSub, Nat.zero_add, List.length_append, st_get0, st_getk, st_set0, st_setk, st_getL0, st_getLk, getL_c0, getL_cs, line0, line1, line2, line3, flatten1, Int.toNat_natCast, Nat.one_mul, List.append_assoc, List.append_nil, Nat.reduceLeDiff, ite_true, ite_false, if_true, if_false, Bool.false_eq_true, Bool.not_true, Bool.not_false, Bool.not_eq_true, and_self, false_and, and_false]
      refine eLc_map (S1 := stL Sc W) (jRg B.length) (List.range B.length) (fun k : Nat => .int (0 + k)) (fun k : Nat => .int ((ts.getD k 0 + W.starts.getD k 0) % ((B.getD k []).length : Int))) (hw_rg1 (fun R hR => ?_) (by omega)) rfl trivial (by rw [List.length_range]; omega) hcl (fun _ _ => rfl) ?_ ?_
      · dsimp! only [bkD, List.length_map]
        exact hR
      · intro k hk K1 K0 hK1
        rw [List.mem_range] at hk
        obtain ⟨r', hr'⟩ : ∃ r', B[k]? = some r' := ⟨_, List.getElem?_eq_getElem hk⟩
        have hrow := hB.row hr'
        have hgd : B.getD k [] = r' := by rw [List.getD_eq_getElem?_getD, hr']; rfl
        have hsk : (W.starts.map Dv.int)[k]? = some (.int (W.starts.getD k 0)) := by rw [List.getElem?_map, List.getD_eq_getElem?_getD, List.getElem?_eq_getElem (by omega)]; rfl
        have htk : (ts.map Dv.int)[k]? = some (.int (ts.getD k 0)) := by rw [List.getElem?_map, List.getD_eq_getElem?_getD, List.getElem?_eq_getElem (by omega)]; rfl
        have hbk : (B.map rfD)[k]? = some (rfD r') := by rw [List.getElem?_map, hr']; rfl
        have hrp : (0 : Int) < r'.length := by omega
        rw [hgd] at hK1
        dsimp! only [Int.zero_add, bkD, tsD, hst0, atI_nat hsk, atI_nat htk, atI_nat hbk, rfD, List.length_map, hrp]
        exact app_nil hK1
      · refine ⟨_, getL_at, ?_⟩
        rw [hfin]
        have hts : Dv.tup ((lawTurns B ts W).map Dv.int) = tsD (lawTurns B ts W) := rfl
        rw [hts]
        generalize lawTurns B ts W = fs at *
        generalize hG2 : [Mo.lst (fs.map Dv.int)] = G2 at *
        -- words and turns
        refine seqI (ifI ?_)
        simp only [sAsg, sNext, sBreak, sCont, sDrop, sRet, sRetN, sPar, sPar3, sAug, sNever, D3.sFld, D3.sFldAug, sAugS, gNm, gsNil, gsCons, gUnp, gSb, eVar, eC, eOp, eUn, eChain, eAnd, eOr, eNot, eIf, eTup, eLst, eArgs, eSl, eBM, aNil, aCons, cVal, cAnd, cOr, cNot, cYes, oNo, oSome, eFld, eMake, eMeth, eCall, eKNew, eKGet1, eKGet2, eDisp, tPairsD, dAdd, dSub, dMul, dDiv, dMod, dPow, dNeg, dCmpI, dIs, dIsNot, isNon, dEq, dNe, sEq, dIx, dSlice, dLen, dInt, b2i', dAbs, dMax, dMin, dSum, dAll, dAny, dOrd, dStrI, dIsi, tyOf, isB, isTy, String.reduceBEq, Bool.or_true, Bool.true_or, Bool.or_false, Bool.false_or, Bool.and_true, Bool.and_false, Bool.false_and, Bool.true_and, dAppend, dPop, dExtend, dSetL, dGetL, dAddA, dSubA, dMulA, dKGet, dKSet, seqOf, tyD, Tg.rd, setsD, wipeD, startD, List.map_cons, List.map_nil, List.length_cons, List.length_nil, List.replicate, List.cons_append, List.nil_append, List.getElem?_cons_zero, List.getElem?_cons_succ, List.set_cons_zero, List.set_cons_succ, Option.some.injEq, exists_eq_left', exists_eq_left, Dv.int.injEq, Dv.bl.injEq, Dv.str.injEq, Dv.tup.injEq, Dv.obj.injEq, Mo.dk.injEq, Mo.lst.injEq, Mo.ldk.injEq, Mo.ins.injEq, exists_eq', exists_eq, List.cons.injEq, and_true, true_and, true_or, or_true, eq_self, decide_true, decide_false, cast2, and_assoc, exists_and_left, exists_and_right, exists_const, exists_eq_right, exists_eq_right_right, Nat.reduceAdd, Nat.reduceSub, Nat.zero_add, List.length_append, st_get0, st_getk, st_set0, st_setk, st_getL0, st_getLk, getL_c0, getL_cs, line0, line1, line2, line3, flatten1, Int.toNat_natCast, Nat.one_mul, List.append_assoc, List.append_nil, Nat.reduceLeDiff, ite_true, ite_false, if_true, if_false, Bool.false_eq_true, Bool.not_true, Bool.not_false, Bool.not_eq_true, and_self, false_and, and_false]
        refine ⟨B, ts, s, rfl, hB, hT, hs0, hs1, ?_⟩
        rw [fw, ft]
        simp only [sAsg, sNext, sBreak, sCont, sDrop, sRet, sRetN, sPar, sPar3, sAug, sNever, D3.sFld, D3.sFldAug, sAugS, gNm, gsNil, gsCons, gUnp, gSb, eVar, eC, eOp, eUn, eChain, eAnd, eOr, eNot, eIf, eTup, eLst, eArgs, eSl, eBM, aNil, aCons, cVal, cAnd, cOr, cNot, cYes, oNo, oSome, eFld, eMake, eMeth, eCall, eKNew, eKGet1, eKGet2, eDisp, tPairsD, dAdd, dSub, dMul, dDiv, dMod, dPow, dNeg, dCmpI, dIs, dIsNot, isNon, dEq, dNe, sEq, dIx, dSlice, dLen, dInt, b2i', dAbs, dMax, dMin, dSum, dAll, dAny, dOrd, dStrI, dIsi, tyOf, isB, isTy, String.reduceBEq, Bool.or_true, Bool.true_or, Bool.or_false, Bool.false_or, Bool.and_true, Bool.and_false, Bool.false_and, Bool.true_and, dAppend, dPop, dExtend, dSetL, dGetL, dAddA, dSubA, dMulA, dKGet, dKSet, seqOf, tyD, Tg.rd, setsD, wipeD, startD, List.map_cons, List.map_nil, List.length_cons, List.length_nil, List.replicate, List.cons_append, List.nil_append, List.getElem?_cons_zero, List.getElem?_cons_succ, List.set_cons_zero, List.set_cons_succ, Option.some.injEq, exists_eq_left', exists_eq_left, Dv.int.injEq, Dv.bl.injEq, Dv.str.injEq, Dv.tup.injEq, Dv.obj.injEq, Mo.dk.injEq, Mo.lst.injEq, Mo.ldk.injEq, Mo.ins.injEq, exists_eq', exists_eq, List.cons.injEq, and_true, true_and, true_or, or_true, eq_self, decide_true, decide_false, cast2, and_assoc, exists_and_left, exists_and_right, exists_const, exists_eq_right, exists_eq_right_right, Nat.reduceAdd, Nat.reduceSub, Nat.zero_add, List.length_append, st_get0, st_getk, st_set0, st_setk, st_getL0, st_getLk, getL_c0, getL_cs, line0, line1, line2, line3, flatten1, Int.toNat_natCast, Nat.one_mul, List.append_assoc, List.append_nil, Nat.reduceLeDiff, ite_true, ite_false, if_true, if_false, Bool.false_eq_true, Bool.not_true, Bool.not_false, Bool.not_eq_true, and_self, false_and, and_false, hdk, dKey, dW_la, dW_lo]
        refine ⟨_, rfl, alike_pair _ _ (by omega), ?_⟩
        simp only [sAsg, sNext, sBreak, sCont, sDrop, sRet, sRetN, sPar, sPar3, sAug, sNever, D3.sFld, D3.sFldAug, sAugS, gNm, gsNil, gsCons, gUnp, gSb, eVar, eC, eOp, eUn, eChain, eAnd, eOr, eNot, eIf, eTup, eLst, eArgs, eSl, eBM, aNil, aCons, cVal, cAnd, cOr, cNot, cYes, oNo, oSome, eFld, eMake, eMeth, eCall, eKNew, eKGet1, eKGet2, eDisp, tPairsD, dAdd, dSub, dMul, dDiv, dMod, dPow, dNeg, dCmpI, dIs, dIsNot, isNon, dEq, dNe, sEq, dIx, dSlice, dLen, dInt, b2i', dAbs, dMax, dMin, dSum, dAll, dAny, dOrd, dStrI, dIsi, tyOf, isB, isTy, String.reduceBEq, Bool.or_true, Bool.true_or, Bool.or_false, Bool.false_or, Bool.and_true, Bool.and_false, Bool.false_and, Bool.true_and, dAppend, dPop, dExtend, dSetL, dGetL, dAddA, dSubA, dMulA, dKGet, dKSet, seqOf, tyD, Tg.rd, setsD, wipeD, startD, List.map_cons, List.map_nil, List.length_cons, List.length_nil, List.replicate, List.cons_append, List.nil_append, List.getElem?_cons_zero, List.getElem?_cons_succ, List.set_cons_zero, List.set_cons_succ, Option.some.injEq, exists_eq_left', exists_eq_left, Dv.int.injEq, Dv.bl.injEq, Dv.str.injEq, Dv.tup.injEq, Dv.obj.injEq, Mo.dk.injEq, Mo.lst.injEq, Mo.ldk.injEq, Mo.ins.injEq, exists_eq', exists_eq, List.cons.injEq, and_true, true_and, true_or, or_true, eq_self, decide_true, decide_false, cast2, and_assoc, exists_and_left, exists_and_right, exists_const, exists_eq_right, exists_eq_right_right, Nat.reduceAdd, Nat.reduceSub, Nat.zero_add, List.length_append, st_get0, st_getk, st_set0, st_setk, st_getL0, st_getLk, getL_c0, getL_cs, line0, line1, line2, line3, flatten1, Int.toNat_natCast, Nat.one_mul, List.append_assoc, List.append_nil, Nat.reduceLeDiff, ite_true, ite_false, if_true, if_false, Bool.false_eq_true, Bool.not_true, Bool.not_false, Bool.not_eq_true, and_self, false_and, and_false]
        refine sFor_inv (S1 := stL Sc W ++ G2) (jSeq (.tup [.str "la", .str "lo"]) ([("la" : Str), "lo"].map Dv.str)) (fun j σ S' => S' = stL Sc W ++ G2 ∧ ∃ o13 o14 : Option Dv, σ = [o0', some (.obj (S.length + 1)), some (.int i), some (bkD B), some (tsD ts), some (.int s), some (.obj Sc.length), some (.obj (Sc.length + 1)), none, none, none, none, some (tsD fs), o13, o14, none]) (hw_seq (fun R hR => ?_) rfl) ⟨rfl, none, none, rfl⟩ (fun _ _ _ _ _ => rfl) ?_ ?_
        · dsimp! only []
          exact hR
        · rintro j d σ S' hd ⟨rfl, o13, o14, rfl⟩ K2 hK2
          obtain ⟨y, hy, rfl⟩ := jSeq_get hd
          have hyy : y = "la" ∨ y = "lo" := by
            have := List.mem_of_getElem? hy
            simpa using this
          rcases hyy with rfl | rfl
          · simp only [sAsg, sNext, sBreak, sCont, sDrop, sRet, sRetN, sPar, sPar3, sAug, sNever, D3.sFld, D3.sFldAug, sAugS, gNm, gsNil, gsCons, gUnp, gSb, eVar, eC, eOp, eUn, eChain, eAnd, eOr, eNot, eIf, eTup, eLst, eArgs, eSl, eBM, aNil, aCons, cVal, cAnd, cOr, cNot, cYes, oNo, oSome, eFld, eMake, eMeth, eCall, eKNew, eKGet1, eKGet2, eDisp, tPairsD, dAdd, dSub, dMul, dDiv, dMod, dPow, dNeg, dCmpI, dIs, dIsNot, isNon, dEq, dNe, sEq, dIx, dSlice, dLen, dInt, b2i', dAbs, dMax, dMin, dSum, dAll, dAny, dOrd, dStrI, dIsi, tyOf, isB, isTy, String.reduceBEq, Bool.or_true, Bool.true_or, Bool.or_false, Bool.false_or, Bool.and_true, Bool.and_false, Bool.false_and, Bool.true_and, dAppend, dPop, dExtend, dSetL, dGetL, dAddA, dSubA, dMulA, dKGet, dKSet, seqOf, tyD, Tg.rd, setsD, wipeD, startD, List.map_cons, List.map_nil, List.length_cons, List.length_nil, List.replicate, List.cons_append, List.nil_append, List.getElem?_cons_zero, List.getElem?_cons_succ, List.set_cons_zero, List.set_cons_succ, Option.some.injEq, exists_eq_left', exists_eq_left, Dv.int.injEq, Dv.bl.injEq, Dv.str.injEq, Dv.tup.injEq, Dv.obj.injEq, Mo.dk.injEq, Mo.lst.injEq, Mo.ldk.injEq, Mo.ins.injEq, exists_eq', exists_eq, List.cons.injEq, and_true, true_and, true_or, or_true, eq_self, decide_true, decide_false, cast2, and_assoc, exists_and_left, exists_and_right, exists_const, exists_eq_right, exists_eq_right_right, Nat.reduceAdd, Nat.reduceSub, Nat.zero_add, List.length_append, st_get0, st_getk, st_set0, st_setk, st_getL0, st_getLk, getL_c0, getL_cs, line0, line1, line2, line3, flatten1, Int.toNat_natCast, Nat.one_mul, List.append_assoc, List.append_nil, Nat.reduceLeDiff, ite_true, ite_false, if_true, if_false, Bool.false_eq_true, Bool.not_true, Bool.not_false, Bool.not_eq_true, and_self, false_and, and_false]
            refine seqI ?_
            simp only [sAsg, sNext, sBreak, sCont, sDrop, sRet, sRetN, sPar, sPar3, sAug, sNever, D3.sFld, D3.sFldAug, sAugS, gNm, gsNil, gsCons, gUnp, gSb, eVar, eC, eOp, eUn, eChain, eAnd, eOr, eNot, eIf, eTup, eLst, eArgs, eSl, eBM, aNil, aCons, cVal, cAnd, cOr, cNot, cYes, oNo, oSome, eFld, eMake, eMeth, eCall, eKNew, eKGet1, eKGet2, eDisp, tPairsD, dAdd, dSub, dMul, dDiv, dMod, dPow, dNeg, dCmpI, dIs, dIsNot, isNon, dEq, dNe, sEq, dIx, dSlice, dLen, dInt, b2i', dAbs, dMax, dMin, dSum, dAll, dAny, dOrd, dStrI, dIsi, tyOf, isB, isTy, String.reduceBEq, Bool.or_true, Bool.true_or, Bool.or_false, Bool.false_or, Bool.and_true, Bool.and_false, Bool.false_and, Bool.true_and, dAppend, dPop, dExtend, dSetL, dGetL, dAddA, dSubA, dMulA, dKGet, dKSet, seqOf, tyD, Tg.rd, setsD, wipeD, startD, List.map_cons, List.map_nil, List.length_cons, List.length_nil, List.replicate, List.cons_append, List.nil_append, List.getElem?_cons_zero, List.getElem?_cons_succ, List.set_cons_zero, List.set_cons_succ, Option.some.injEq, exists_eq_left', exists_eq_left, Dv.int.injEq, Dv.bl.injEq, Dv.str.injEq, Dv.tup.injEq, Dv.obj.injEq, Mo.dk.injEq, Mo.lst.injEq, Mo.ldk.injEq, Mo.ins.injEq, exists_eq', exists_eq, List.cons.injEq, and_true, true_and, true_or, or_true, eq_self, decide_true, decide_false, cast2, and_assoc, exists_and_left, exists_and_right, exists_const, exists_eq_right, exists_eq_right_right, Nat.reduceAdd, Nat.reduceSub, Nat.zero_add, List.length_append, st_get0, st_getk, st_set0, st_setk, st_getL0, st_getLk, getL_c0, getL_cs, line0, line1, line2, line3, flatten1, Int.toNat_natCast, Nat.one_mul, List.append_assoc, List.append_nil, Nat.reduceLeDiff, ite_true, ite_false, if_true, if_false, Bool.false_eq_true, Bool.not_true, Bool.not_false, Bool.not_eq_true, and_self, false_and, and_false]
            refine ⟨B, "la", rfl, hB, ?_⟩
            simp only [sAsg, sNext, sBreak, sCont, sDrop, sRet, sRetN, sPar, sPar3, sAug, sNever, D3.sFld, D3.sFldAug, sAugS, gNm, gsNil, gsCons, gUnp, gSb, eVar, eC, eOp, eUn, eChain, eAnd, eOr, eNot, eIf, eTup, eLst, eArgs, eSl, eBM, aNil, aCons, cVal, cAnd, cOr, cNot, cYes, oNo, oSome, eFld, eMake, eMeth, eCall, eKNew, eKGet1, eKGet2, eDisp, tPairsD, dAdd, dSub, dMul, dDiv, dMod, dPow, dNeg, dCmpI, dIs, dIsNot, isNon, dEq, dNe, sEq, dIx, dSlice, dLen, dInt, b2i', dAbs, dMax, dMin, dSum, dAll, dAny, dOrd, dStrI, dIsi, tyOf, isB, isTy, String.reduceBEq, Bool.or_true, Bool.true_or, Bool.or_false, Bool.false_or, Bool.and_true, Bool.and_false, Bool.false_and, Bool.true_and, dAppend, dPop, dExtend, dSetL, dGetL, dAddA, dSubA, dMulA, dKGet, dKSet, seqOf, tyD, Tg.rd, setsD, wipeD, startD, List.map_cons, List.map_nil, List.length_cons, List.length_nil, List.replicate, List.cons_append, List.nil_append, List.getElem?_cons_zero, List.getElem?_cons_succ, List.set_cons_zero, List.set_cons_succ, Option.some.injEq, exists_eq_left', exists_eq_left, Dv.int.injEq, Dv.bl.injEq, Dv.str.injEq, Dv.tup.injEq, Dv.obj.injEq, Mo.dk.injEq, Mo.lst.injEq, Mo.ldk.injEq, Mo.ins.injEq, exists_eq', exists_eq, List.cons.injEq, and_true, true_and, true_or, or_true, eq_self, decide_true, decide_false, cast2, and_assoc, exists_and_left, exists_and_right, exists_const, exists_eq_right, exists_eq_right_right, Nat.reduceAdd, Nat.reduceSub, Nat.zero_add, List.length_append, st_get0, st_getk, st_set0, st_setk, st_getL0, st_getLk, getL_c0, getL_cs, line0, line1, line2, line3, flatten1, Int.toNat_natCast, Nat.one_mul, List.append_assoc, List.append_nil, Nat.reduceLeDiff, ite_true, ite_false, if_true, if_false, Bool.false_eq_true, Bool.not_true, Bool.not_false, Bool.not_eq_true, and_self, false_and, and_false]
            refine ifI ?_
            simp only [sAsg, sNext, sBreak, sCont, sDrop, sRet, sRetN, sPar, sPar3, sAug, sNever, D3.sFld, D3.sFldAug, sAugS, gNm, gsNil, gsCons, gUnp, gSb, eVar, eC, eOp, eUn, eChain, eAnd, eOr, eNot, eIf, eTup, eLst, eArgs, eSl, eBM, aNil, aCons, cVal, cAnd, cOr, cNot, cYes, oNo, oSome, eFld, eMake, eMeth, eCall, eKNew, eKGet1, eKGet2, eDisp, tPairsD, dAdd, dSub, dMul, dDiv, dMod, dPow, dNeg, dCmpI, dIs, dIsNot, isNon, dEq, dNe, sEq, dIx, dSlice, dLen, dInt, b2i', dAbs, dMax, dMin, dSum, dAll, dAny, dOrd, dStrI, dIsi, tyOf, isB, isTy, String.reduceBEq, Bool.or_true, Bool.true_or, Bool.or_false, Bool.false_or, Bool.and_true, Bool.and_false, Bool.false_and, Bool.true_and, dAppend, dPop, dExtend, dSetL, dGetL, dAddA, dSubA, dMulA, dKGet, dKSet, seqOf, tyD, Tg.rd, setsD, wipeD, startD, List.map_cons, List.map_nil, List.length_cons, List.length_nil, List.replicate, List.cons_append, List.nil_append, List.getElem?_cons_zero, List.getElem?_cons_succ, List.set_cons_zero, List.set_cons_succ, Option.some.injEq, exists_eq_left', exists_eq_left, Dv.int.injEq, Dv.bl.injEq, Dv.str.injEq, Dv.tup.injEq, Dv.obj.injEq, Mo.dk.injEq, Mo.lst.injEq, Mo.ldk.injEq, Mo.ins.injEq, exists_eq', exists_eq, List.cons.injEq, and_true, true_and, true_or, or_true, eq_self, decide_true, decide_false, cast2, and_assoc, exists_and_left, exists_and_right, exists_const, exists_eq_right, exists_eq_right_right, Nat.reduceAdd, Nat.reduceSub, Nat.zero_add, List.length_append, st_get0, st_getk, st_set0, st_setk, st_getL0, st_getLk, getL_c0, getL_cs, line0, line1, line2, line3, flatten1, Int.toNat_natCast, Nat.one_mul, List.append_assoc, List.append_nil, Nat.reduceLeDiff, ite_true, ite_false, if_true, if_false, Bool.false_eq_true, Bool.not_true, Bool.not_false, Bool.not_eq_true, and_self, false_and, and_false]
            refine ⟨B, "la", _, ts, fs, s, rfl, hB, cert_full hB "la", hT, fo, hs0, hs1, ?_⟩
            rw [fa, enc_int]
            simp only [sAsg, sNext, sBreak, sCont, sDrop, sRet, sRetN, sPar, sPar3, sAug, sNever, D3.sFld, D3.sFldAug, sAugS, gNm, gsNil, gsCons, gUnp, gSb, eVar, eC, eOp, eUn, eChain, eAnd, eOr, eNot, eIf, eTup, eLst, eArgs, eSl, eBM, aNil, aCons, cVal, cAnd, cOr, cNot, cYes, oNo, oSome, eFld, eMake, eMeth, eCall, eKNew, eKGet1, eKGet2, eDisp, tPairsD, dAdd, dSub, dMul, dDiv, dMod, dPow, dNeg, dCmpI, dIs, dIsNot, isNon, dEq, dNe, sEq, dIx, dSlice, dLen, dInt, b2i', dAbs, dMax, dMin, dSum, dAll, dAny, dOrd, dStrI, dIsi, tyOf, isB, isTy, String.reduceBEq, Bool.or_true, Bool.true_or, Bool.or_false, Bool.false_or, Bool.and_true, Bool.and_false, Bool.false_and, Bool.true_and, dAppend, dPop, dExtend, dSetL, dGetL, dAddA, dSubA, dMulA, dKGet, dKSet, seqOf, tyD, Tg.rd, setsD, wipeD, startD, List.map_cons, List.map_nil, List.length_cons, List.length_nil, List.replicate, List.cons_append, List.nil_append, List.getElem?_cons_zero, List.getElem?_cons_succ, List.set_cons_zero, List.set_cons_succ, Option.some.injEq, exists_eq_left', exists_eq_left, Dv.int.injEq, Dv.bl.injEq, Dv.str.injEq, Dv.tup.injEq, Dv.obj.injEq, Mo.dk.injEq, Mo.lst.injEq, Mo.ldk.injEq, Mo.ins.injEq, exists_eq', exists_eq, List.cons.injEq, and_true, true_and, true_or, or_true, eq_self, decide_true, decide_false, cast2, and_assoc, exists_and_left, exists_and_right, exists_const, exists_eq_right, exists_eq_right_right, Nat.reduceAdd, Nat.reduceSub, Nat.zero_add, List.length_append, st_get0, st_getk, st_set0, st_setk, st_getL0, st_getLk, getL_c0, getL_cs, line0, line1, line2, line3, flatten1, Int.toNat_natCast, Nat.one_mul, List.append_assoc, List.append_nil, Nat.reduceLeDiff, ite_true, ite_false, if_true, if_false, Bool.false_eq_true, Bool.not_true, Bool.not_false, Bool.not_eq_true, and_self, false_and, and_false, hdk, dKey, dW_la]
            refine ⟨_, rfl, rfl, ?_⟩
            simp only [sAsg, sNext, sBreak, sCont, sDrop, sRet, sRetN, sPar, sPar3, sAug, sNever, D3.sFld, D3.sFldAug, sAugS, gNm, gsNil, gsCons, gUnp, gSb, eVar, eC, eOp, eUn, eChain, eAnd, eOr, eNot, eIf, eTup, eLst, eArgs, eSl, eBM, aNil, aCons, cVal, cAnd, cOr, cNot, cYes, oNo, oSome, eFld, eMake, eMeth, eCall, eKNew, eKGet1, eKGet2, eDisp, tPairsD, dAdd, dSub, dMul, dDiv, dMod, dPow, dNeg, dCmpI, dIs, dIsNot, isNon, dEq, dNe, sEq, dIx, dSlice, dLen, dInt, b2i', dAbs, dMax, dMin, dSum, dAll, dAny, dOrd, dStrI, dIsi, tyOf, isB, isTy, String.reduceBEq, Bool.or_true, Bool.true_or, Bool.or_false, Bool.false_or, Bool.and_true, Bool.and_false, Bool.false_and, Bool.true_and, dAppend, dPop, dExtend, dSetL, dGetL, dAddA, dSubA, dMulA, dKGet, dKSet, seqOf, tyD, Tg.rd, setsD, wipeD, startD, List.map_cons, List.map_nil, List.length_cons, List.length_nil, List.replicate, List.cons_append, List.nil_append, List.getElem?_cons_zero, List.getElem?_cons_succ, List.set_cons_zero, List.set_cons_succ, Option.some.injEq, exists_eq_left', exists_eq_left, Dv.int.injEq, Dv.bl.injEq, Dv.str.injEq, Dv.tup.injEq, Dv.obj.injEq, Mo.dk.injEq, Mo.lst.injEq, Mo.ldk.injEq, Mo.ins.injEq, exists_eq', exists_eq, List.cons.injEq, and_true, true_and, true_or, or_true, eq_self, decide_true, decide_false, cast2, and_assoc, exists_and_left, exists_and_right, exists_const, exists_eq_right, exists_eq_right_right, Nat.reduceAdd, Nat.reduceSub, Nat.zero_add, List.length_append, st_get0, st_getk, st_set0, st_setk, st_getL0, st_getLk, getL_c0, getL_cs, line0, line1, line2, line3, flatten1, Int.toNat_natCast, Nat.one_mul, List.append_assoc, List.append_nil, Nat.reduceLeDiff, ite_true, ite_false, if_true, if_false, Bool.false_eq_true, Bool.not_true, Bool.not_false, Bool.not_eq_true, and_self, false_and, and_false]
            exact hK2 _ _ (.inl ⟨rfl, _, _, rfl⟩)
          · simp only [sAsg, sNext, sBreak, sCont, sDrop, sRet, sRetN, sPar, sPar3, sAug, sNever, D3.sFld, D3.sFldAug, sAugS, gNm, gsNil, gsCons, gUnp, gSb, eVar, eC, eOp, eUn, eChain, eAnd, eOr, eNot, eIf, eTup, eLst, eArgs, eSl, eBM, aNil, aCons, cVal, cAnd, cOr, cNot, cYes, oNo, oSome, eFld, eMake, eMeth, eCall, eKNew, eKGet1, eKGet2, eDisp, tPairsD, dAdd, dSub, dMul, dDiv, dMod, dPow, dNeg, dCmpI, dIs, dIsNot, isNon, dEq, dNe, sEq, dIx, dSlice, dLen, dInt, b2i', dAbs, dMax, dMin, dSum, dAll, dAny, dOrd, dStrI, dIsi, tyOf, isB, isTy, String.reduceBEq, Bool.or_true, Bool.true_or, Bool.or_false, Bool.false_or, Bool.and_true, Bool.and_false, Bool.false_and, Bool.true_and, dAppend, dPop, dExtend, dSetL, dGetL, dAddA, dSubA, dMulA, dKGet, dKSet, seqOf, tyD, Tg.rd, setsD, wipeD, startD, List.map_cons, List.map_nil, List.length_cons, List.length_nil, List.replicate, List.cons_append, List.nil_append, List.getElem?_cons_zero, List.getElem?_cons_succ, List.set_cons_zero, List.set_cons_succ, Option.some.injEq, exists_eq_left', exists_eq_left, Dv.int.injEq, Dv.bl.injEq, Dv.str.injEq, Dv.tup.injEq, Dv.obj.injEq, Mo.dk.injEq, Mo.lst.injEq, Mo.ldk.injEq, Mo.ins.injEq, exists_eq', exists_eq, List.cons.injEq, and_true, true_and, true_or, or_true, eq_self, decide_true, decide_false, cast2, and_assoc, exists_and_left, exists_and_right, exists_const, exists_eq_right, exists_eq_right_right, Nat.reduceAdd, Nat.reduceSub, Nat.zero_add, List.length_append, st_get0, st_getk, st_set0, st_setk, st_getL0, st_getLk, getL_c0, getL_cs, line0, line1, line2, line3, flatten1, Int.toNat_natCast, Nat.one_mul, List.append_assoc, List.append_nil, Nat.reduceLeDiff, ite_true, ite_false, if_true, if_false, Bool.false_eq_true, Bool.not_true, Bool.not_false, Bool.not_eq_true, and_self, false_and, and_false]
            refine seqI ?_
            simp only [sAsg, sNext, sBreak, sCont, sDrop, sRet, sRetN, sPar, sPar3, sAug, sNever, D3.sFld, D3.sFldAug, sAugS, gNm, gsNil, gsCons, gUnp, gSb, eVar, eC, eOp, eUn, eChain, eAnd, eOr, eNot, eIf, eTup, eLst, eArgs, eSl, eBM, aNil, aCons, cVal, cAnd, cOr, cNot, cYes, oNo, oSome, eFld, eMake, eMeth, eCall, eKNew, eKGet1, eKGet2, eDisp, tPairsD, dAdd, dSub, dMul, dDiv, dMod, dPow, dNeg, dCmpI, dIs, dIsNot, isNon, dEq, dNe, sEq, dIx, dSlice, dLen, dInt, b2i', dAbs, dMax, dMin, dSum, dAll, dAny, dOrd, dStrI, dIsi, tyOf, isB, isTy, String.reduceBEq, Bool.or_true, Bool.true_or, Bool.or_false, Bool.false_or, Bool.and_true, Bool.and_false, Bool.false_and, Bool.true_and, dAppend, dPop, dExtend, dSetL, dGetL, dAddA, dSubA, dMulA, dKGet, dKSet, seqOf, tyD, Tg.rd, setsD, wipeD, startD, List.map_cons, List.map_nil, List.length_cons, List.length_nil, List.replicate, List.cons_append, List.nil_append, List.getElem?_cons_zero, List.getElem?_cons_succ, List.set_cons_zero, List.set_cons_succ, Option.some.injEq, exists_eq_left', exists_eq_left, Dv.int.injEq, Dv.bl.injEq, Dv.str.injEq, Dv.tup.injEq, Dv.obj.injEq, Mo.dk.injEq, Mo.lst.injEq, Mo.ldk.injEq, Mo.ins.injEq, exists_eq', exists_eq, List.cons.injEq, and_true, true_and, true_or, or_true, eq_self, decide_true, decide_false, cast2, and_assoc, exists_and_left, exists_and_right, exists_const, exists_eq_right, exists_eq_right_right, Nat.reduceAdd, Nat.reduceSub, Nat.zero_add, List.length_append, st_get0, st_getk, st_set0, st_setk, st_getL0, st_getLk, getL_c0, getL_cs, line0, line1, line2, line3, flatten1, Int.toNat_natCast, Nat.one_mul, List.append_assoc, List.append_nil, Nat.reduceLeDiff, ite_true, ite_false, if_true, if_false, Bool.false_eq_true, Bool.not_true, Bool.not_false, Bool.not_eq_true, and_self, false_and, and_false]
            refine ⟨B, "lo", rfl, hB, ?_⟩
            simp only [sAsg, sNext, sBreak, sCont, sDrop, sRet, sRetN, sPar, sPar3, sAug, sNever, D3.sFld, D3.sFldAug, sAugS, gNm, gsNil, gsCons, gUnp, gSb, eVar, eC, eOp, eUn, eChain, eAnd, eOr, eNot, eIf, eTup, eLst, eArgs, eSl, eBM, aNil, aCons, cVal, cAnd, cOr, cNot, cYes, oNo, oSome, eFld, eMake, eMeth, eCall, eKNew, eKGet1, eKGet2, eDisp, tPairsD, dAdd, dSub, dMul, dDiv, dMod, dPow, dNeg, dCmpI, dIs, dIsNot, isNon, dEq, dNe, sEq, dIx, dSlice, dLen, dInt, b2i', dAbs, dMax, dMin, dSum, dAll, dAny, dOrd, dStrI, dIsi, tyOf, isB, isTy, String.reduceBEq, Bool.or_true, Bool.true_or, Bool.or_false, Bool.false_or, Bool.and_true, Bool.and_false, Bool.false_and, Bool.true_and, dAppend, dPop, dExtend, dSetL, dGetL, dAddA, dSubA, dMulA, dKGet, dKSet, seqOf, tyD, Tg.rd, setsD, wipeD, startD, List.map_cons, List.map_nil, List.length_cons, List.length_nil, List.replicate, List.cons_append, List.nil_append, List.getElem?_cons_zero, List.getElem?_cons_succ, List.set_cons_zero, List.set_cons_succ, Option.some.injEq, exists_eq_left', exists_eq_left, Dv.int.injEq, Dv.bl.injEq, Dv.str.injEq, Dv.tup.injEq, Dv.obj.injEq, Mo.dk.injEq, Mo.lst.injEq, Mo.ldk.injEq, Mo.ins.injEq, exists_eq', exists_eq, List.cons.injEq, and_true, true_and, true_or, or_true, eq_self, decide_true, decide_false, cast2, and_assoc, exists_and_left, exists_and_right, exists_const, exists_eq_right, exists_eq_right_right, Nat.reduceAdd, Nat.reduceSub, Nat.zero_add, List.length_append, st_get0, st_getk, st_set0, st_setk, st_getL0, st_getLk, getL_c0, getL_cs, line0, line1, line2, line3, flatten1, Int.toNat_natCast, Nat.one_mul, List.append_assoc, List.append_nil, Nat.reduceLeDiff, ite_true, ite_false, if_true, if_false, Bool.false_eq_true, Bool.not_true, Bool.not_false, Bool.not_eq_true, and_self, false_and, and_false]
            refine ifI ?_
            simp only [sAsg, sNext, sBreak, sCont, sDrop, sRet, sRetN, sPar, sPar3, sAug, sNever, D3.sFld, D3.sFldAug, sAugS, gNm, gsNil, gsCons, gUnp, gSb, eVar, eC, eOp, eUn, eChain, eAnd, eOr, eNot, eIf, eTup, eLst, eArgs, eSl, eBM, aNil, aCons, cVal, cAnd, cOr, cNot, cYes, oNo, oSome, eFld, eMake, eMeth, eCall, eKNew, eKGet1, eKGet2, eDisp, tPairsD, dAdd, dSub, dMul, dDiv, dMod, dPow, dNeg, dCmpI, dIs, dIsNot, isNon, dEq, dNe, sEq, dIx, dSlice, dLen, dInt, b2i', dAbs, dMax, dMin, dSum, dAll, dAny, dOrd, dStrI, dIsi, tyOf, isB, isTy, String.reduceBEq, Bool.or_true, Bool.true_or, Bool.or_false, Bool.false_or, Bool.and_true, Bool.and_false, Bool.false_and, Bool.true_and, dAppend, dPop, dExtend, dSetL, dGetL, dAddA, dSubA, dMulA, dKGet, dKSet, seqOf, tyD, Tg.rd, setsD, wipeD, startD, List.map_cons, List.map_nil, List.length_cons, List.length_nil, List.replicate, List.cons_append, List.nil_append, List.getElem?_cons_zero, List.getElem?_cons_succ, List.set_cons_zero, List.set_cons_succ, Option.some.injEq, exists_eq_left', exists_eq_left, Dv.int.injEq, Dv.bl.injEq, Dv.str.injEq, Dv.tup.injEq, Dv.obj.injEq, Mo.dk.injEq, Mo.lst.injEq, Mo.ldk.injEq, Mo.ins.injEq, exists_eq', exists_eq, List.cons.injEq, and_true, true_and, true_or, or_true, eq_self, decide_true, decide_false, cast2, and_assoc, exists_and_left, exists_and_right, exists_const, exists_eq_right, exists_eq_right_right, Nat.reduceAdd, Nat.reduceSub, Nat.zero_add, List.length_append, st_get0, st_getk, st_set0, st_setk, st_getL0, st_getLk, getL_c0, getL_cs, line0, line1, line2, line3, flatten1, Int.toNat_natCast, Nat.one_mul, List.append_assoc, List.append_nil, Nat.reduceLeDiff, ite_true, ite_false, if_true, if_false, Bool.false_eq_true, Bool.not_true, Bool.not_false, Bool.not_eq_true, and_self, false_and, and_false]
            refine ⟨B, "lo", _, ts, fs, s, rfl, hB, cert_full hB "lo", hT, fo, hs0, hs1, ?_⟩
            rw [fl, enc_int]
            simp only [sAsg, sNext, sBreak, sCont, sDrop, sRet, sRetN, sPar, sPar3, sAug, sNever, D3.sFld, D3.sFldAug, sAugS, gNm, gsNil, gsCons, gUnp, gSb, eVar, eC, eOp, eUn, eChain, eAnd, eOr, eNot, eIf, eTup, eLst, eArgs, eSl, eBM, aNil, aCons, cVal, cAnd, cOr, cNot, cYes, oNo, oSome, eFld, eMake, eMeth, eCall, eKNew, eKGet1, eKGet2, eDisp, tPairsD, dAdd, dSub, dMul, dDiv, dMod, dPow, dNeg, dCmpI, dIs, dIsNot, isNon, dEq, dNe, sEq, dIx, dSlice, dLen, dInt, b2i', dAbs, dMax, dMin, dSum, dAll, dAny, dOrd, dStrI, dIsi, tyOf, isB, isTy, String.reduceBEq, Bool.or_true, Bool.true_or, Bool.or_false, Bool.false_or, Bool.and_true, Bool.and_false, Bool.false_and, Bool.true_and, dAppend, dPop, dExtend, dSetL, dGetL, dAddA, dSubA, dMulA, dKGet, dKSet, seqOf, tyD, Tg.rd, setsD, wipeD, startD, List.map_cons, List.map_nil, List.length_cons, List.length_nil, List.replicate, List.cons_append, List.nil_append, List.getElem?_cons_zero, List.getElem?_cons_succ, List.set_cons_zero, List.set_cons_succ, Option.some.injEq, exists_eq_left', exists_eq_left, Dv.int.injEq, Dv.bl.injEq, Dv.str.injEq, Dv.tup.injEq, Dv.obj.injEq, Mo.dk.injEq, Mo.lst.injEq, Mo.ldk.injEq, Mo.ins.injEq, exists_eq', exists_eq, List.cons.injEq, and_true, true_and, true_or, or_true, eq_self, decide_true, decide_false, cast2, and_assoc, exists_and_left, exists_and_right, exists_const, exists_eq_right, exists_eq_right_right, Nat.reduceAdd, Nat.reduceSub, Nat.zero_add, List.length_append, st_get0, st_getk, st_set0, st_setk, st_getL0, st_getLk, getL_c0, getL_cs, line0, line1, line2, line3, flatten1, Int.toNat_natCast, Nat.one_mul, List.append_assoc, List.append_nil, Nat.reduceLeDiff, ite_true, ite_false, if_true, if_false, Bool.false_eq_true, Bool.not_true, Bool.not_false, Bool.not_eq_true, and_self, false_and, and_false, hdk, dKey, dW_lo]
            refine ⟨_, rfl, rfl, ?_⟩
            simp only [sAsg, sNext, sBreak, sCont, sDrop, sRet, sRetN, sPar, sPar3, sAug, sNever, D3.sFld, D3.sFldAug, sAugS, gNm, gsNil, gsCons, gUnp, gSb, eVar, eC, eOp, eUn, eChain, eAnd, eOr, eNot, eIf, eTup, eLst, eArgs, eSl, eBM, aNil, aCons, cVal, cAnd, cOr, cNot, cYes, oNo, oSome, eFld, eMake, eMeth, eCall, eKNew, eKGet1, eKGet2, eDisp, tPairsD, dAdd, dSub, dMul, dDiv, dMod, dPow, dNeg, dCmpI, dIs, dIsNot, isNon, dEq, dNe, sEq, dIx, dSlice, dLen, dInt, b2i', dAbs, dMax, dMin, dSum, dAll, dAny, dOrd, dStrI, dIsi, tyOf, isB, isTy, String.reduceBEq, Bool.or_true, Bool.true_or, Bool.or_false, Bool.false_or, Bool.and_true, Bool.and_false, Bool.false_and, Bool.true_and, dAppend, dPop, dExtend, dSetL, dGetL, dAddA, dSubA, dMulA, dKGet, dKSet, seqOf, tyD, Tg.rd, setsD, wipeD, startD, List.map_cons, List.map_nil, List.length_cons, List.length_nil, List.replicate, List.cons_append, List.nil_append, List.getElem?_cons_zero, List.getElem?_cons_succ, List.set_cons_zero, List.set_cons_succ, Option.some.injEq, exists_eq_left', exists_eq_left, Dv.int.injEq, Dv.bl.injEq, Dv.str.injEq, Dv.tup.injEq, Dv.obj.injEq, Mo.dk.injEq, Mo.lst.injEq, Mo.ldk.injEq, Mo.ins.injEq, exists_eq', exists_eq, List.cons.injEq, and_true, true_and, true_or, or_true, eq_self, decide_true, decide_false, cast2, and_assoc, exists_and_left, exists_and_right, exists_const, exists_eq_right, exists_eq_right_right, Nat.reduceAdd, Nat.reduceSub, Nat.zero_add, List.length_append, st_get0, st_getk, st_set0, st_setk, st_getL0, st_getLk, getL_c0, getL_cs, line0, line1, line2, line3, flatten1, Int.toNat_natCast, Nat.one_mul, List.append_assoc, List.append_nil, Nat.reduceLeDiff, ite_true, ite_false, if_true, if_false, Bool.false_eq_true, Bool.not_true, Bool.not_false, Bool.not_eq_true, and_self, false_and, and_false]
            exact hK2 _ _ (.inl ⟨rfl, _, _, rfl⟩)
        · rintro σ S' ⟨rfl, o13, o14, rfl⟩
          have e : stL Sc W ++ G2 = S7 ++ (G ++ ([.lst (W.starts.map Dv.int), .dk (dW W.la W.lo)] ++ G2)) := by
            unfold stL
            rw [hG]
            simp only [List.append_assoc]
          rw [e]
          exact hKK _ _ _ hu17 rfl rfl
  · rintro σ S' ⟨hu, o0, rfl⟩
    dsimp! only []
    exact hret _
end K20
set_option Elab.async false
set_option linter.all false
set_option maxRecDepth 100000
set_option maxHeartbeats 2000000
set_option exponentiation.threshold 5000
namespace K20
open PySem PySem.Spec D3
theorem addAt_get {l : List Int} {n d : Int} (j : Nat) : (addAt l n d)[j]? = l[j]?.map fun x => if j = n.toNat then x + d else x := by
  unfold addAt
  by_cases e : j = n.toNat
  · subst e
    by_cases h : n.toNat < l.length
    · rw [List.getElem?_set_self h, List.getD_eq_getElem?_getD, List.getElem?_eq_getElem h]; simp
    · rw [List.getElem?_eq_none (by rw [List.length_set]; omega), List.getElem?_eq_none (by omega)]; rfl
  · rw [List.getElem?_set_ne (fun z => e z.symm)]
    cases l[j]? <;> simp [e]
end K20
set_option Elab.async false
set_option linter.all false
set_option maxRecDepth 100000
set_option maxHeartbeats 2000000
set_option exponentiation.threshold 5000
namespace K20
open PySem PySem.Spec D3
end K20
set_option Elab.async false
set_option linter.all false
set_option maxRecDepth 100000
set_option maxHeartbeats 2000000
set_option exponentiation.threshold 5000
namespace K20
open PySem PySem.Spec D3
end K20
set_option Elab.async false
set_option linter.all false
set_option maxRecDepth 100000
set_option maxHeartbeats 2000000
set_option exponentiation.threshold 5000
namespace K20
open PySem PySem.Spec D3
end K20
set_option Elab.async false
set_option linter.all false
set_option maxRecDepth 100000
set_option maxHeartbeats 2000000
set_option exponentiation.threshold 5000
namespace K20
open PySem PySem.Spec D3
end K20
set_option Elab.async false
set_option linter.all false
set_option maxRecDepth 100000
set_option maxHeartbeats 2000000
set_option exponentiation.threshold 5000
namespace K11
open PySem PySem.Spec D3 K20
theorem item_wd {u : Int} {w : Lw} {y : Str} : (itemStep u w (.wd y)).starts = w.starts := by
  show (if y = "la" then _ else _ : Lw).starts = _
  split <;> rfl
end K11
set_option Elab.async false
set_option linter.all false
set_option maxRecDepth 100000
set_option maxHeartbeats 2000000
set_option exponentiation.threshold 5000
namespace K11
open PySem PySem.Spec D3 K20
theorem RowsAt.app {S T : Store} {u : Nat} {rows : List (List Int)} (h : RowsAt S u rows) : RowsAt (S ++ T) u rows := by
  obtain ⟨as, h1, h2, h3⟩ := h
  exact ⟨as, getL_old h1, h2, fun k row a e1 e2 => getL_old (h3 k row a e1 e2)⟩
end K11
set_option Elab.async false
set_option linter.all false
set_option maxRecDepth 100000
set_option maxHeartbeats 2000000
set_option exponentiation.threshold 5000
namespace K11
open PySem PySem.Spec D3 K20
theorem stclo_app {S : Store} (hc : StClo S) : ∀ (L : Store), (∀ m ∈ L, ∀ n, m.clo n = true) → StClo (S ++ L)
  | [], _ => by simpa using hc
  | m :: L, h => by
    have h1 := stclo_one (m := m) hc (h m List.mem_cons_self _)
    have h2 := stclo_app h1 L fun x hx => h x (List.mem_cons_of_mem _ hx)
    simpa using h2
theorem wk_drop2 {n0 : Nat} {S T : Store} {σ σ' : Sl} {R : Sl → Store → Prop} (hn : n0 ≤ S.length) (h : R σ' S) (f : Fg S.length σ σ') (hc : StClo S) : Wk n0 R σ (S ++ T) :=
  .inr ⟨S.length, σ', hn, f, by rw [List.take_left]; exact hc, by rw [List.take_left]; exact h⟩
def five : List Str := ["la", "lu", "lo", "a", "zzzzzzzz"]
theorem five_ok : ∀ y ∈ five, wordOk y = true := by decide +kernel
theorem five_len : ∀ y ∈ five, Str.length y ≤ 100000 := by decide +kernel
def Five (B : Bk) : Prop := ∀ r ∈ B, ∀ v ∈ r, ∀ y, Itm.wd y ∈ v → y ∈ five
def It5 (n i : Int) (x : Itm) : Prop := (∃ y ∈ five, x = .wd y) ∨ ∃ m, x = .ref m ∧ i < m ∧ m < n
def Vs5 (n i : Int) (v : List Itm) : Prop := (1 ≤ v.length ∧ v.length ≤ 6) ∧ ∀ x ∈ v, It5 n i x
def Row5 (n i : Int) (r : List (List Itm)) : Prop := (1 ≤ r.length ∧ r.length ≤ 4) ∧ ∀ v ∈ r, Vs5 n i v
theorem row5_first {n i : Int} {r : List (List Itm)} (h : Row5 n i r) : firstBad n i r = .non := by
  unfold firstBad
  rw [if_pos h.1]
  have : r.findIdx? (fun v => !verseOk n i v) = none := by
    rw [List.findIdx?_eq_none_iff]
    intro v hv
    obtain ⟨h1, h2⟩ := h.2 v hv
    have : verseOk n i v = true := by
      unfold verseOk
      simp only [Bool.and_eq_true, decide_eq_true_eq]
      refine ⟨h1, List.all_eq_true.mpr fun x hx => ?_⟩
      rcases h2 x hx with ⟨y, hy, rfl⟩ | ⟨m, rfl, h3, h4⟩
      · exact five_ok y hy
      · unfold itemOk; simp [h3, h4]
    rw [this]; rfl
  rw [this]
theorem bkOk5 {B : Bk} (h1 : 1 ≤ B.length) (h2 : B.length ≤ 60) (h : ∀ (k : Nat) r, B[k]? = some r → Row5 B.length k r) : BkOk B ∧ Five B := by
  have hrow : ∀ r ∈ B, ∃ k : Nat, Row5 B.length k r := fun r hr => by
    obtain ⟨k, hk⟩ := List.getElem?_of_mem hr
    exact ⟨k, h k r hk⟩
  refine ⟨⟨⟨by omega, fun r hr => ?_⟩, h1, h2, fun k r hr => row5_first (h k r hr)⟩, fun r hr v hv y hy => ?_⟩
  · obtain ⟨k, hk⟩ := hrow r hr
    refine ⟨by have := hk.1.2; omega, fun v hv => ?_⟩
    obtain ⟨a1, a2⟩ := hk.2 v hv
    refine ⟨by omega, fun x hx => ?_⟩
    rcases a2 x hx with ⟨y, hy, rfl⟩ | ⟨m, rfl, _⟩
    · exact five_len y hy
    · exact trivial
  · obtain ⟨k, hk⟩ := hrow r hr
    rcases (hk.2 v hv).2 _ hy with ⟨z, hz, e⟩ | ⟨m, e, _⟩
    · cases e; exact hz
    · cases e
def W6 : Mo := .lst [.str "la", .str "lu", .str "lo", .str "a", .str "zzzzzzzz", .str "la"]
def L4 : Mo := .lst [.int 1, .int 2, .int 2, .int 3, .int 4]
def L6 : Mo := .lst [.int 1, .int 2, .int 2, .int 3, .int 6]
theorem clo_rows (rows : Bk) (n : Nat) : (Mo.lst (rows.map rfD)).clo n = true := cloL_map fun r _ => rfD_clo r _
theorem clo_vs (vs : List (List Itm)) (n : Nat) : (Mo.lst (vs.map vsD)).clo n = true := cloL_map fun r _ => vsD_clo r _
theorem clo_its (v : List Itm) (n : Nat) : (Mo.lst (v.map Itm.d)).clo n = true := cloL_map fun r _ => r.clo _
theorem clo_W6 (n : Nat) : W6.clo n = true := rfl
theorem clo_L4 (n : Nat) : L4.clo n = true := rfl
theorem clo_L6 (n : Nat) : L6.clo n = true := rfl
theorem at_L4 {r : Int} (h0 : 0 ≤ r) (h1 : r < 5) : ∃ n : Nat, L2.atI [Dv.int 1, .int 2, .int 2, .int 3, .int 4] r = some (.int n) ∧ 1 ≤ n ∧ n ≤ 4 := by
  have : r = 0 ∨ r = 1 ∨ r = 2 ∨ r = 3 ∨ r = 4 := by omega
  rcases this with rfl | rfl | rfl | rfl | rfl
  · exact ⟨1, rfl, by decide, by decide⟩
  · exact ⟨2, rfl, by decide, by decide⟩
  · exact ⟨2, rfl, by decide, by decide⟩
  · exact ⟨3, rfl, by decide, by decide⟩
  · exact ⟨4, rfl, by decide, by decide⟩
theorem at_L6 {r : Int} (h0 : 0 ≤ r) (h1 : r < 5) : ∃ n : Nat, L2.atI [Dv.int 1, .int 2, .int 2, .int 3, .int 6] r = some (.int n) ∧ 1 ≤ n ∧ n ≤ 6 := by
  have : r = 0 ∨ r = 1 ∨ r = 2 ∨ r = 3 ∨ r = 4 := by omega
  rcases this with rfl | rfl | rfl | rfl | rfl
  · exact ⟨1, rfl, by decide, by decide⟩
  · exact ⟨2, rfl, by decide, by decide⟩
  · exact ⟨2, rfl, by decide, by decide⟩
  · exact ⟨3, rfl, by decide, by decide⟩
  · exact ⟨6, rfl, by decide, by decide⟩
theorem at_W6 {r : Int} (h0 : 0 ≤ r) (h1 : r < 6) : ∃ y ∈ five, L2.atI [Dv.str "la", .str "lu", .str "lo", .str "a", .str "zzzzzzzz", .str "la"] r = some (.str y) := by
  have : r = 0 ∨ r = 1 ∨ r = 2 ∨ r = 3 ∨ r = 4 ∨ r = 5 := by omega
  rcases this with rfl | rfl | rfl | rfl | rfl | rfl
  · exact ⟨"la", by decide, rfl⟩
  · exact ⟨"lu", by decide, rfl⟩
  · exact ⟨"lo", by decide, rfl⟩
  · exact ⟨"a", by decide, rfl⟩
  · exact ⟨"zzzzzzzz", by decide, rfl⟩
  · exact ⟨"la", by decide, rfl⟩
theorem at_two {x : Dv} {y : Dv} {r : Int} (h0 : 0 ≤ r) (h1 : r < 2) : L2.atI [x, y] r = some (if r = 0 then x else y) := by
  have : r = 0 ∨ r = 1 := by omega
  rcases this with rfl | rfl <;> rfl
theorem getLk {S0 T : Store} {n k : Nat} (h : S0.length = n) : getL (S0 ++ T) (n + k) = getL T k := by rw [← h, st_getLk]
theorem getk {S0 T : Store} {n k : Nat} (h : S0.length = n) : (S0 ++ T)[n + k]? = T[k]? := by rw [← h, st_getk]
theorem setk {S0 T : Store} {n k : Nat} {m : Mo} (h : S0.length = n) : (S0 ++ T).set (n + k) m = S0 ++ T.set k m := by rw [← h, st_setk]
theorem getL0 {S0 T : Store} {n : Nat} (h : S0.length = n) : getL (S0 ++ T) n = getL T 0 := by rw [← h, st_getL0]
theorem get0 {S0 T : Store} {n : Nat} (h : S0.length = n) : (S0 ++ T)[n]? = T[0]? := by rw [← h, st_get0]
theorem set0 {S0 T : Store} {n : Nat} {m : Mo} (h : S0.length = n) : (S0 ++ T).set n m = S0 ++ T.set 0 m := by rw [← h, st_set0]
theorem line5 : (5 ≤ sizeLine) = True := eq_true (by decide)
theorem line6 : (6 ≤ sizeLine) = True := eq_true (by decide)
def spBook : Spd := fun ds S Q E => ∃ (a b : Nat) (most : Int), ds = [.obj a, .int most] ∧ Bx a b S ∧ 1 ≤ most ∧ most ≤ 60 ∧ ∀ (B : Bk) S', BkOk B → Five B → (B.length : Int) ≤ most → Bup a b S S' → Q (bkD B) S'
theorem r_book : ∀ ds S Qd Ed, spBook ds S Qd Ed → StClo S → t_Lbook spTake (WEx S.length Ed) { nx := fun _ S' => Gc S.length Qd .non S', rt := Gc S.length Qd } (startD 12 ds) S := by
  rintro _ S Qd Ed ⟨a, b, most, rfl, hh, hm1, hm2, h⟩ hc
  obtain ⟨la, lb⟩ := hh.lt
  unfold t_Lbook
  refine seqI ?_
  simp! only [line5, line6]
  refine ⟨a, b, most, rfl, hh, by omega, by omega, fun r S1 r0 r1 hu1 => ?_⟩
  obtain ⟨n, hn⟩ : ∃ n : Nat, 1 + r = (n : Int) := ⟨(1 + r).toNat, by omega⟩
  have hn1 : 1 ≤ n := by omega
  have hn2 : (n : Int) ≤ most := by omega
  have hS1 : S1.length = S.length := hu1.len
  simp! only [line5, line6, hn]
  refine seqI ?_
  simp! only [line5, line6]
  rw [hS1]
  refine seqI ?_
  refine sFor_inv (S1 := S1 ++ [.lst [], W6]) (jRg n) (fun k σ S' => ∃ (S2 : Store) (rows : Bk), Bup a b S S2 ∧ S' = S2 ++ [.lst (rows.map rfD), W6] ∧ rows.length = k ∧ (∀ (i : Nat) r, rows[i]? = some r → Row5 n i r) ∧
    σ = [some (.obj a), some (.int most), some (.int n), some (.obj S.length), some (.obj (S.length + 1)), none, none, none, none, none, none, none]) (hw_rg1 (fun R hR => ?_) (by omega)) ⟨S1, [], hu1, rfl, rfl, fun i r e => by simp at e, rfl⟩ (fun _ _ _ _ _ => trivial) ?_ ?_
  · dsimp! only [line5, line6]
    exact hR
  · rintro k d σ S' hd ⟨S2, rows, hu2, rfl, hrl, hrows, rfl⟩ K hK
    obtain ⟨hk, rfl⟩ := jRg_get hd
    have hS2 := hu2.len
    simp! only [hS2]
    refine seqI ?_
    simp! only [hS2]
    refine seqI ?_
    refine sFor_rg (fun n' S' => 1 ≤ n' ∧ n' ≤ 4 ∧ ∃ S3, Bup a b S S3 ∧ S' = S3 ++ [.lst (rows.map rfD), W6, .lst [], L4]) (fun R hR => ?_) (fun n' S' h => by omega) ?_
    · dsimp! only [line5, hS2]
      refine ⟨a, b, 5, rfl, hu2.bx.app, by decide, by decide, fun r S' h0 h1 hup => ?_⟩
      obtain ⟨S3, rfl, hu3⟩ := bup_app hu2.bx hup
      obtain ⟨n', hn', h4⟩ := at_L4 h0 h1
      exact ⟨_, (getLk (k := 3) (hu3.len.trans hS2)).trans rfl, _, hn', hR _ _ ⟨h4.1, h4.2, S3, hu2.trans hu3, rfl⟩⟩
    · rintro n' S' ⟨hn'1, hn'2, S3, hu3, rfl⟩
      have hS3 := hu3.len
      refine for_ex (jRg n') (fun j σ S' => ∃ (S4 : Store) (vs : List (List Itm)), Bup a b S S4 ∧ S' = S4 ++ [.lst (rows.map rfD), W6, .lst (vs.map vsD), L4] ∧ vs.length = j ∧ (∀ v ∈ vs, Vs5 n k v) ∧
        σ = [some (.obj a), some (.int most), some (.int n), some (.obj S.length), some (.obj (S.length + 1)), some (.int k), some (.obj (S.length + 2)), none, none, none, none, none]) ⟨S3, [], hu3, rfl, rfl, fun v hv => (nomatch hv), rfl⟩ (fun _ _ _ _ _ => trivial) ?_ ?_
      · rintro j d σ S' hd ⟨S4, vs, hu4, rfl, hvl, hvs, rfl⟩ K2 hK2
        obtain ⟨hj, rfl⟩ := jRg_get hd
        have hS4 := hu4.len
        simp! only [hS4]
        refine seqI ?_
        simp! only [hS4]
        refine seqI ?_
        refine sFor_rg (fun n'' S' => 1 ≤ n'' ∧ n'' ≤ 6 ∧ ∃ S5, Bup a b S S5 ∧ S' = S5 ++ [.lst (rows.map rfD), W6, .lst (vs.map vsD), L4, .lst [], L6]) (fun R hR => ?_) (fun n' S' h => by omega) ?_
        · dsimp! only [line5, hS4]
          refine ⟨a, b, 5, rfl, hu4.bx.app, by decide, by decide, fun r S' h0 h1 hup => ?_⟩
          obtain ⟨S5, rfl, hu5⟩ := bup_app hu4.bx hup
          obtain ⟨n'', hn'', h6⟩ := at_L6 h0 h1
          exact ⟨_, (getLk (k := 5) (hu5.len.trans hS4)).trans rfl, _, hn'', hR _ _ ⟨h6.1, h6.2, S5, hu4.trans hu5, rfl⟩⟩
        · rintro n'' S' ⟨hn''1, hn''2, S5, hu5, rfl⟩
          have hS5 := hu5.len
          refine for_ex (jRg n'') (fun l σ S' => ∃ (S6 : Store) (its : List Itm), Bup a b S S6 ∧ S' = S6 ++ [.lst (rows.map rfD), W6, .lst (vs.map vsD), L4, .lst (its.map Itm.d), L6] ∧ its.length = l ∧ (∀ x ∈ its, It5 n k x) ∧
            σ = [some (.obj a), some (.int most), some (.int n), some (.obj S.length), some (.obj (S.length + 1)), some (.int k), some (.obj (S.length + 2)), some (.int j), some (.obj (S.length + 4)), none, none, none]) ⟨S5, [], hu5, rfl, rfl, fun v hv => (nomatch hv), rfl⟩ (fun _ _ _ _ _ => trivial) ?_ ?_
          · rintro l d σ S' hd ⟨S6, its, hu6, rfl, hil, his, rfl⟩ K3 hK3
            obtain ⟨hl, rfl⟩ := jRg_get hd
            have hS6 := hu6.len
            simp! only [hS6]
            refine seqI ?_
            simp! only [hS6]
            refine seqI ?_
            simp! only [hS6]
            obtain ⟨lat, hlat⟩ : ∃ lat : Int, lat = (n : Int) - k - 1 := ⟨_, rfl⟩
            rw [← hlat]
            have hlat0 : 0 ≤ lat := by omega
            refine ⟨a, b, _, rfl, hu6.bx.app, by split <;> omega, by split <;> omega, fun q1 S' q10 q11 hup => ?_⟩
            obtain ⟨S7, rfl, hu7⟩ := bup_app hu6.bx hup
            have hS7 : S7.length = S.length := hu7.len.trans hS6
            simp! only [hS7]
            refine ⟨a, b, 2, rfl, hu7.bx.app, by decide, by decide, fun q2 S' q20 q21 hup => ?_⟩
            obtain ⟨S8, rfl, hu8⟩ := bup_app hu7.bx hup
            have hS8 : S8.length = S.length := hu8.len.trans hS7
            obtain ⟨st, hst, hst1⟩ : ∃ st : Int, L2.atI [Dv.int (1 + q1), .int 1] q2 = some (.int st) ∧ (0 < lat → 1 ≤ st ∧ st ≤ lat) := by
              rw [at_two q20 q21]
              by_cases z : q2 = 0
              · refine ⟨1 + q1, by rw [if_pos z], fun h => ?_⟩
                split at q11 <;> omega
              · exact ⟨1, by rw [if_neg z], fun h => by omega⟩
            simp! only [hS8]
            have fin : ∀ (S9 : Store) (x : Itm), Bup a b S S9 → It5 n k x → K3 [some (.obj a), some (.int most), some (.int n), some (.obj S.length), some (.obj (S.length + 1)), some (.int k), some (.obj (S.length + 2)), some (.int j), some (.obj (S.length + 4)), some (.int l), some (.int lat), some (.int st)]
                (S9 ++ [.lst (rows.map rfD), W6, .lst (vs.map vsD), L4, .lst (its.map Itm.d ++ [x.d]), L6, .lst [.int (1 + q1), .int 1]]) := fun S9 x hu9 hx => hK3 _ _ (by
              have e : S9 ++ [Mo.lst (rows.map rfD), W6, .lst (vs.map vsD), L4, .lst (its.map Itm.d ++ [x.d]), L6, .lst [.int (1 + q1), .int 1]] = (S9 ++ [.lst (rows.map rfD), W6, .lst (vs.map vsD), L4, .lst ((its ++ [x]).map Itm.d), L6]) ++ [.lst [.int (1 + q1), .int 1]] := by simp
              rw [e]
              refine wk_drop2 (σ' := [some (.obj a), some (.int most), some (.int n), some (.obj S.length), some (.obj (S.length + 1)), some (.int k), some (.obj (S.length + 2)), some (.int j), some (.obj (S.length + 4)), none, none, none]) ?_ ⟨S9, its ++ [x], hu9, rfl, by rw [List.length_append, hil]; rfl, fun y hy => ?_, rfl⟩ ?_ ?_
              · rw [List.length_append, List.length_append, hS5, hu9.len]; exact Nat.le_refl _
              · rcases List.mem_append.mp hy with z | z
                · exact his y z
                · rw [List.mem_singleton.mp z]; exact hx
              · simp only [Fg, Dv.clo, List.length_append, hu9.len]
                simp
                omega
              · refine stclo_app (stclo_bup hc hu9) _ fun m hm n => ?_
                simp only [List.mem_cons, List.not_mem_nil, or_false] at hm
                rcases hm with rfl | rfl | rfl | rfl | rfl | rfl
                · exact clo_rows _ _
                · exact clo_W6 _
                · exact clo_vs _ _
                · exact clo_L4 _
                · exact clo_its _ _
                · exact clo_L6 _)
            have hu68 := hu6.trans (hu7.trans hu8)
            have hitl : (its.map Itm.d).length < sizeLine := by rw [List.length_map]; exact small_line (by omega)
            refine ⟨_, (getLk (k := 6) hS8).trans rfl, _, hst, .inl ⟨_, (getk (k := 4) hS8).trans rfl⟩, ?_⟩
            by_cases hl0 : 0 < lat
            · simp! only [hl0]
              refine ⟨a, b, 3, rfl, hu8.bx.app, by decide, by decide, fun q3 S' q30 q31 hup => ?_⟩
              obtain ⟨S9, rfl, hu9⟩ := bup_app hu8.bx hup
              have hS9 : S9.length = S.length := hu9.len.trans hS8
              by_cases hq : 0 < q3
              · simp! only [hq]
                refine ⟨_, (getLk (k := 4) hS9).trans rfl, hitl, ?_⟩
                rw [setk hS9]
                exact fin S9 (.ref ((k : Int) + st)) (hu68.trans hu9) (.inr ⟨_, rfl, by have := hst1 hl0; omega, by have := hst1 hl0; omega⟩)
              · simp! only [hq]
                refine ⟨a, b, 6, rfl, hu9.bx.app, by decide, by decide, fun q6 S' q60 q61 hup => ?_⟩
                obtain ⟨S10, rfl, hu10⟩ := bup_app hu9.bx hup
                have hS10 : S10.length = S.length := hu10.len.trans hS9
                obtain ⟨y, hy5, hy⟩ := at_W6 q60 q61
                refine ⟨_, (getLk (k := 1) hS10).trans rfl, _, hy, _, (getLk (k := 4) hS10).trans rfl, hitl, ?_⟩
                rw [setk hS10]
                exact fin S10 (.wd y) (hu68.trans (hu9.trans hu10)) (.inl ⟨y, hy5, rfl⟩)
            · simp! only [hl0]
              refine ⟨a, b, 6, rfl, hu8.bx.app, by decide, by decide, fun q6 S' q60 q61 hup => ?_⟩
              obtain ⟨S10, rfl, hu10⟩ := bup_app hu8.bx hup
              have hS10 : S10.length = S.length := hu10.len.trans hS8
              obtain ⟨y, hy5, hy⟩ := at_W6 q60 q61
              refine ⟨_, (getLk (k := 1) hS10).trans rfl, _, hy, _, (getLk (k := 4) hS10).trans rfl, hitl, ?_⟩
              rw [setk hS10]
              exact fin S10 (.wd y) (hu68.trans hu10) (.inl ⟨y, hy5, rfl⟩)
          · rintro σ S' ⟨S6, its, hu6, rfl, hil, his, rfl⟩
            rw [jRg_len] at hil
            have hS6 := hu6.len
            dsimp! only [getLk hS6, getk hS6, setk hS6, List.length_map]
            have e : S6 ++ [Mo.lst (rows.map rfD), W6, .lst (vs.map vsD ++ [.tup (its.map Itm.d)]), L4, .lst (its.map Itm.d), L6] = (S6 ++ [.lst (rows.map rfD), W6, .lst ((vs ++ [its]).map vsD), L4]) ++ [.lst (its.map Itm.d), L6] := by simp [vsD]
            refine ⟨small_line (by omega), hK2 _ _ ?_⟩
            rw [e]
            refine wk_drop2 (σ' := [some (.obj a), some (.int most), some (.int n), some (.obj S.length), some (.obj (S.length + 1)), some (.int k), some (.obj (S.length + 2)), none, none, none, none, none]) ?_ ⟨S6, vs ++ [its], hu6, rfl, by rw [List.length_append, hvl]; rfl, fun v hv => ?_, rfl⟩ ?_ ?_
            · rw [List.length_append, List.length_append, hS3, hS6]; exact Nat.le_refl _
            · rcases List.mem_append.mp hv with z | z
              · exact hvs v z
              · rw [List.mem_singleton.mp z]; exact ⟨⟨by omega, by omega⟩, his⟩
            · simp only [Fg, Dv.clo, List.length_append, hS6]
              simp
              omega
            · refine stclo_app (stclo_bup hc hu6) _ fun m hm n => ?_
              simp only [List.mem_cons, List.not_mem_nil, or_false] at hm
              rcases hm with rfl | rfl | rfl | rfl
              · exact clo_rows _ _
              · exact clo_W6 _
              · exact clo_vs _ _
              · exact clo_L4 _
      · rintro σ S' ⟨S4, vs, hu4, rfl, hvl, hvs, rfl⟩
        rw [jRg_len] at hvl
        have hS4 := hu4.len
        dsimp! only [getLk hS4, getk hS4, setk hS4, get0 hS4, getL0 hS4, set0 hS4, List.length_map]
        have e : S4 ++ [Mo.lst (rows.map rfD ++ [.tup (vs.map vsD)]), W6, .lst (vs.map vsD), L4] = (S4 ++ [.lst ((rows ++ [vs]).map rfD), W6]) ++ [.lst (vs.map vsD), L4] := by simp [rfD]
        refine ⟨small_line (by omega), hK _ _ ?_⟩
        rw [e]
        refine wk_drop2 (σ' := [some (.obj a), some (.int most), some (.int n), some (.obj S.length), some (.obj (S.length + 1)), none, none, none, none, none, none, none]) ?_ ⟨S4, rows ++ [vs], hu4, rfl, by rw [List.length_append, hrl]; rfl, fun i r e => ?_, rfl⟩ ?_ ?_
        · rw [List.length_append, List.length_append, hS1, hS4]; exact Nat.le_refl _
        · by_cases z : i < k
          · rw [List.getElem?_append_left (by omega)] at e
            exact hrows i r e
          · have hi : i = k := by have := at_lt e; rw [List.length_append, hrl] at this; simp at this; omega
            subst hi
            rw [List.getElem?_append_right (by omega), hrl, Nat.sub_self] at e
            cases e
            exact ⟨⟨by omega, by omega⟩, hvs⟩
        · simp only [Fg, Dv.clo, List.length_append, hS4]
          simp
          omega
        · refine stclo_app (stclo_bup hc hu4) _ fun m hm n => ?_
          simp only [List.mem_cons, List.not_mem_nil, or_false] at hm
          rcases hm with rfl | rfl
          · exact clo_rows _ _
          · exact clo_W6 _
  · rintro σ S' ⟨S2, rows, hu2, rfl, hrl, hrows, rfl⟩
    rw [jRg_len] at hrl
    have hS2 := hu2.len
    dsimp! only [getL0 hS2]
    obtain ⟨hB, hF⟩ := bkOk5 (B := rows) (by omega) (by omega) (fun k r e => by rw [hrl]; exact hrows k r e)
    exact gc_bup hc hu2 (bkD_clo rows _) (h rows S2 hB hF (by omega) hu2)
end K11
set_option Elab.async false
set_option linter.all false
set_option maxRecDepth 100000
set_option maxHeartbeats 2000000
set_option exponentiation.threshold 5000
namespace K03
open PySem PySem.Spec D3 K20 K11
def cntR (n : Nat) (v : List Itm) : Int := (v.map fun x => if x = .ref (n : Int) then 1 else 0).sum
theorem cntR_cons {n : Nat} {x : Itm} {v : List Itm} : cntR n (x :: v) = (if x = .ref (n : Int) then 1 else 0) + cntR n v := by unfold cntR; rw [List.map_cons, List.sum_cons]
theorem item_st {u : Int} {N n : Nat} {w : Lw} {x : Itm} (hl : w.starts.length = N) (hn : n < N) (hx : ∀ m, x = .ref m → 0 ≤ m) : (itemStep u w x).starts.getD n 0 = w.starts.getD n 0 + u * (if x = .ref (n : Int) then 1 else 0) := by
  cases x with
  | wd y =>
    rw [item_wd, if_neg (by intro z; cases z)]; omega
  | ref m =>
    have hm := hx m rfl
    show (addAt w.starts m u).getD n 0 = _
    rw [List.getD_eq_getElem?_getD, List.getD_eq_getElem?_getD, addAt_get, List.getElem?_eq_getElem (by omega)]
    by_cases c : n = m.toNat
    · have e : Itm.ref m = Itm.ref (n : Int) := by congr 1; omega
      rw [if_pos e]
      simp [c]
    · have e : ¬ Itm.ref m = Itm.ref (n : Int) := fun z => by cases z; exact c (by omega)
      rw [if_neg e]
      simp [c]
theorem verse_st {u : Int} {N n : Nat} (hn : n < N) : ∀ (v : List Itm) (w : Lw), w.starts.length = N → (∀ m, Itm.ref m ∈ v → 0 ≤ m) → (v.foldl (itemStep u) w).starts.getD n 0 = w.starts.getD n 0 + u * cntR n v
  | [], w, _, _ => by
    show _ = _ + u * 0
    rw [Int.mul_zero, Int.add_zero]; rfl
  | x :: v, w, hl, hv => by
    rw [List.foldl_cons, verse_st hn v _ (by rw [item_len]; exact hl) fun m h => hv m (List.mem_cons_of_mem _ h), item_st hl hn fun m h => hv m (by rw [h]; exact List.mem_cons_self), cntR_cons, Int.mul_add]
    omega
theorem verses_st {N n : Nat} (hn : n < N) : ∀ (l : List (Int × List Itm)) (w : Lw), w.starts.length = N → (∀ p ∈ l, ∀ m, Itm.ref m ∈ p.2 → 0 ≤ m) → (l.foldl verseStep w).starts.getD n 0 = w.starts.getD n 0 + (l.map fun p => p.1 * cntR n p.2).sum
  | [], w, _, _ => by simp
  | p :: l, w, hl, hv => by
    have e : verseStep w p = p.2.foldl (itemStep p.1) w := rfl
    rw [List.foldl_cons, verses_st hn l _ (by rw [e, items_len]; exact hl) fun q hq => hv q (List.mem_cons_of_mem _ hq), e, verse_st hn p.2 w hl (hv p List.mem_cons_self), List.map_cons, List.sum_cons]
    omega
/-- starts that are still to come, and all starts -/
abbrev pn (B : Bk) (T l : List Int) (k n : Nat) : Int := (pendK B T l k).getD n 0
def zsum (us : List Int) (r : List (List Itm)) (f : List Itm → Int) : Int := ((us.zip r).map fun p => p.1 * f p.2).sum
end K03
set_option Elab.async false
set_option linter.all false
set_option maxRecDepth 100000
set_option maxHeartbeats 2000000
set_option exponentiation.threshold 5000
namespace K03
open PySem PySem.Spec D3 K20 K11
/-- a valid turn of each refrain -/
def TOk (B : Bk) (T : List Int) : Prop := T.length = B.length ∧ ∀ j r, B[j]? = some r → 0 ≤ T.getD j 0 ∧ T.getD j 0 < r.length
theorem TOk.of {B : Bk} {T : List Int} (h : turnsOk B T = true) : TOk B T := by
  have hl := turnsOk_len h
  refine ⟨hl, fun j r hr => ?_⟩
  have hj := at_lt hr
  have htk : T[j]? = some (T.getD j 0) := by rw [List.getD_eq_getElem?_getD, List.getElem?_eq_getElem (by omega)]; rfl
  exact turnsOk_at h hr htk
def nxt (B : Bk) (T : List Int) (r : Nat) : List Int := T.set r ((T.getD r 0 + 1) % ((B.getD r []).length : Int))
theorem nxt_ne {B : Bk} {T : List Int} {r j : Nat} (h : j ≠ r) : (nxt B T r).getD j 0 = T.getD j 0 := by
  unfold nxt
  rw [List.getD_eq_getElem?_getD, List.getElem?_set_ne (fun z => h z.symm), ← List.getD_eq_getElem?_getD]
theorem nxt_eq {B : Bk} {T : List Int} {r : Nat} (h : r < T.length) : (nxt B T r).getD r 0 = (T.getD r 0 + 1) % ((B.getD r []).length : Int) := by
  unfold nxt
  rw [List.getD_eq_getElem?_getD, List.getElem?_set_self h]; rfl
theorem nxt_ok {B : Bk} (hB : BkOk B) {T : List Int} (h : TOk B T) {r : Nat} (hr : r < B.length) : TOk B (nxt B T r) := by
  refine ⟨by unfold nxt; rw [List.length_set]; exact h.1, fun j x hx => ?_⟩
  by_cases e : j = r
  · subst e
    have hgd : B.getD j [] = x := by rw [List.getD_eq_getElem?_getD, hx]; rfl
    rw [nxt_eq (by rw [h.1]; exact hr), hgd]
    have := (hB.row hx).1
    exact ⟨Int.emod_nonneg _ (by omega), Int.emod_lt_of_pos _ (by omega)⟩
  · rw [nxt_ne e]; exact h.2 j x hx
/-- the turns after all starts, and the words -/
def fT (B : Bk) (T l : List Int) : List Int := (List.range B.length).map fun j => (T.getD j 0 + pn B T l j j) % ((B.getD j []).length : Int)
def wordsV (v : List Itm) : Int := ((v.filter (counts none)).length : Int)
def wA (B : Bk) (T l : List Int) : Int := ((List.range B.length).map fun j => zsum (usesL (B.getD j []).length (T.getD j 0) (pn B T l j j)) (B.getD j []) wordsV).sum
end K03
set_option Elab.async false
set_option linter.all false
set_option maxRecDepth 100000
set_option maxHeartbeats 2000000
set_option exponentiation.threshold 5000
namespace K03
open PySem PySem.Spec D3 K20 K11
abbrev En := Nat × Nat × Nat
abbrev Ps := List Int × List En
def vOf (B : Bk) (x : En) : List Itm := (B.getD x.1 []).getD x.2.1 []
def itAt (B : Bk) (x : En) : Itm := (vOf B x).getD x.2.2 (.wd "")
def mStart (B : Bk) (s : Ps) (r : Nat) : Ps := (nxt B s.1 r, (r, (s.1.getD r 0).toNat, 0) :: s.2)
def fin (B : Bk) : List En → List En
  | [] => []
  | x :: st => if x.2.2 + 1 = (vOf B x).length then fin B st else (x.1, x.2.1, x.2.2 + 1) :: st
def mDesc (B : Bk) : Nat → Ps → Ps
  | 0, s => s
  | f + 1, (T, []) => (T, [])
  | f + 1, (T, x :: st) => match itAt B x with
    | .ref n => mDesc B f (mStart B (T, x :: st) n.toNat)
    | .wd _ => (T, x :: st)
def mBeg (B : Bk) (s : Ps) : Ps := match s.2 with
  | [] => mStart B s 0
  | _ :: _ => s
def mTop (B : Bk) (s : Ps) : Ps := mDesc B 60 (mBeg B s)
def mNext (B : Bk) (s : Ps) : Ps := ((mTop B s).1, fin B (mTop B s).2)
def it (B : Bk) : Nat → Ps → Ps
  | 0, s => s
  | n + 1, s => it B n (mNext B s)
theorem it_add {B : Bk} : ∀ (a b : Nat) (s : Ps), it B (a + b) s = it B b (it B a s)
  | 0, b, s => by rw [Nat.zero_add]; rfl
  | a + 1, b, s => by
    have e : a + 1 + b = (a + b) + 1 := by omega
    rw [e]
    exact it_add a b (mNext B s)
/-- an entry within the book -/
structure EOk (B : Bk) (x : En) : Prop where
  r : x.1 < B.length
  v : x.2.1 < (B.getD x.1 []).length
  i : x.2.2 < (vOf B x).length
theorem EOk.mem {B : Bk} {x : En} (h : EOk B x) : B[x.1]? = some (B.getD x.1 []) ∧ vOf B x ∈ B.getD x.1 [] ∧ itAt B x ∈ vOf B x := by
  refine ⟨?_, ?_, ?_⟩
  · rw [List.getD_eq_getElem?_getD, List.getElem?_eq_getElem h.r]; rfl
  · unfold vOf
    rw [List.getD_eq_getElem?_getD (l := B.getD x.1 []), List.getElem?_eq_getElem h.v]
    exact List.getElem_mem _
  · unfold itAt
    rw [List.getD_eq_getElem?_getD, List.getElem?_eq_getElem h.i]
    exact List.getElem_mem _
theorem EOk.ref {B : Bk} (hB : BkOk B) {x : En} (h : EOk B x) {n : Int} (hn : itAt B x = .ref n) : x.1 < n.toNat ∧ n.toNat < B.length ∧ ((n.toNat : Nat) : Int) = n := by
  obtain ⟨a, b, c⟩ := h.mem
  rw [hn] at c
  have := hB.ref a b c
  omega
theorem start_ok {B : Bk} (hB : BkOk B) {T : List Int} (hT : TOk B T) {r : Nat} (hr : r < B.length) : EOk B (r, (T.getD r 0).toNat, 0) := by
  obtain ⟨x, hx⟩ : ∃ x, B[r]? = some x := ⟨_, List.getElem?_eq_getElem hr⟩
  have hgd : B.getD r [] = x := by rw [List.getD_eq_getElem?_getD, hx]; rfl
  obtain ⟨t0, t1⟩ := hT.2 r x hx
  have hv : (T.getD r 0).toNat < x.length := by omega
  refine ⟨hr, by show _ < (B.getD r []).length; rw [hgd]; exact hv, ?_⟩
  show 0 < ((B.getD r []).getD (T.getD r 0).toNat []).length
  rw [hgd]
  have hm : x.getD (T.getD r 0).toNat [] ∈ x := by rw [List.getD_eq_getElem?_getD, List.getElem?_eq_getElem hv]; exact List.getElem_mem _
  exact (hB.verse hx hm).1
def Cal (B : Bk) (w : List Itm) (l l' : List Int) : Prop := l'.length = B.length ∧ ∀ n, n < B.length → l'.getD n 0 = l.getD n 0 + cntR n w
def Run (B : Bk) (T : List Int) (w : List Itm) (m : Nat) (T2 : List Int) : Prop := ∀ l l', l.length = B.length → Cal B w l l' → fT B T l' = fT B T2 l ∧ wA B T l' = wA B T2 l + m
def Call (B : Bk) (T : List Int) (r : Nat) (n : Nat) (T2 : List Int) : Prop := ∀ l l', l.length = B.length → l'.length = B.length → (∀ j, j < B.length → l'.getD j 0 = l.getD j 0 + if j = r then 1 else 0) → fT B T l' = fT B T2 l ∧ wA B T l' = wA B T2 l + n
theorem getD_ext {l l' : List Int} (h : l.length = l'.length) (g : ∀ n, n < l.length → l.getD n 0 = l'.getD n 0) : l = l' := by
  refine List.ext_getElem? fun i => ?_
  by_cases hi : i < l.length
  · have := g i hi
    rw [List.getD_eq_getElem?_getD, List.getD_eq_getElem?_getD, List.getElem?_eq_getElem hi, List.getElem?_eq_getElem (by omega)] at this
    rw [List.getElem?_eq_getElem hi, List.getElem?_eq_getElem (by omega)]
    simpa using this
  · rw [List.getElem?_eq_none (by omega), List.getElem?_eq_none (by omega)]
/-- one more call among the pending ones -/
theorem mk_list (N : Nat) (f : Nat → Int) : ∃ l : List Int, l.length = N ∧ ∀ n, n < N → l.getD n 0 = f n := by
  refine ⟨(List.range N).map f, by rw [List.length_map, List.length_range], fun n hn => ?_⟩
  rw [List.getD_eq_getElem?_getD, List.getElem?_map, List.getElem?_range hn]; rfl
theorem Run.nil {B : Bk} {T : List Int} : Run B T [] 0 T := fun l l' h1 ⟨h2, h3⟩ => by
  have : l' = l := getD_ext (by omega) fun n hn => by
    rw [h3 n (by omega)]
    show _ + 0 = _
    omega
  rw [this]
  exact ⟨rfl, by simp⟩
theorem Run.wd {B : Bk} {T T2 : List Int} {w : List Itm} {m : Nat} {y : Str} (h : Run B T w m T2) : Run B T (.wd y :: w) m T2 := fun l l' h1 ⟨h2, h3⟩ => h l l' h1 ⟨h2, fun n hn => by
  rw [h3 n hn, cntR_cons, if_neg (by intro z; cases z)]; omega⟩
theorem Run.ref {B : Bk} {T T1 T2 : List Int} {w : List Itm} {k m : Nat} {n : Int} (hn : ((n.toNat : Nat) : Int) = n) (h0 : Call B T n.toNat k T1) (h : Run B T1 w m T2) : Run B T (.ref n :: w) (k + m) T2 := fun l l' h1 ⟨h2, h3⟩ => by
  obtain ⟨q, hq, hq2⟩ := mk_list B.length fun j => l.getD j 0 + cntR j w
  obtain ⟨a, b⟩ := h0 q l' hq h2 fun j hj => by
    rw [h3 j hj, hq2 j hj, cntR_cons]
    by_cases c : j = n.toNat
    · rw [if_pos c, if_pos (by congr 1; omega)]; omega
    · rw [if_neg c, if_neg (fun z => by cases z; exact c (by omega))]; omega
  obtain ⟨c, d⟩ := h l q h1 ⟨hq, hq2⟩
  rw [a, b, c, d]
  exact ⟨rfl, by omega⟩
def pos (B : Bk) (r v i : Nat) (st : List En) : List En := if i = (vOf B (r, v, i)).length then fin B st else (r, v, i) :: st
end K03
set_option Elab.async false
set_option linter.all false
set_option maxRecDepth 100000
set_option maxHeartbeats 2000000
set_option exponentiation.threshold 5000
namespace K03
open PySem PySem.Spec D3 K20 K11
/-- the stack: the innermost entry first -/
def Chn (B : Bk) : List En → Prop
  | [] => True
  | [x] => x.1 = 0
  | x :: y :: st => itAt B y = .ref (x.1 : Int) ∧ Chn B (y :: st)
structure SOk (B : Bk) (s : Ps) : Prop where
  t : TOk B s.1
  e : ∀ x ∈ s.2, EOk B x
  c : Chn B s.2
  n : ∀ x ∈ s.2, s.1.getD x.1 0 = ((x.2.1 : Int) + 1) % ((B.getD x.1 []).length : Int)
theorem SOk.nil {B : Bk} {T : List Int} (h : TOk B T) : SOk B (T, []) := ⟨h, fun x hx => (by cases hx), trivial, fun x hx => (by cases hx)⟩
theorem SOk.depth {B : Bk} (hB : BkOk B) : ∀ {st : List En}, (∀ x ∈ st, EOk B x) → Chn B st → ∀ x ∈ st.head?, st.length ≤ x.1 + 1 ∧ ∀ y ∈ st.tail, y.1 < x.1
  | [], _, _, x, h => by cases h
  | [x], _, _, z, h => by
    cases h
    exact ⟨by simp, fun y hy => by cases hy⟩
  | x :: y :: st, he, ⟨h1, h2⟩, z, h => by
    cases h
    obtain ⟨a, b⟩ := SOk.depth hB (fun z hz => he z (List.mem_cons_of_mem _ hz)) h2 y rfl
    have := (he y (List.mem_cons_of_mem _ List.mem_cons_self)).ref hB h1
    have hxy : y.1 < x.1 := by omega
    refine ⟨by rw [List.length_cons]; omega, fun w hw => ?_⟩
    rcases List.mem_cons.mp hw with e | e
    · rw [e]; exact hxy
    · have := b w e; omega
theorem SOk.start {B : Bk} (hB : BkOk B) {T : List Int} {st : List En} (h : SOk B (T, st)) {r : Nat} (hr : (st = [] ∧ r = 0) ∨ ∃ x st', st = x :: st' ∧ itAt B x = .ref (r : Int)) : SOk B (mStart B (T, st) r) := by
  have hpos := hB.pos
  have hrl : r < B.length := by
    rcases hr with ⟨_, rfl⟩ | ⟨x, st', rfl, hx⟩
    · exact hpos
    · have := (h.e x List.mem_cons_self).ref hB hx
      simpa using this.2.1
  have hlt : ∀ y ∈ st, y.1 < r := by
    rcases hr with ⟨rfl, _⟩ | ⟨x, st', rfl, hx⟩
    · intro y hy; cases hy
    · have h1 := (h.e x List.mem_cons_self).ref hB hx
      have h2 := (SOk.depth hB h.e h.c x rfl).2
      intro y hy
      rcases List.mem_cons.mp hy with e | e
      · rw [e]; omega
      · have := h2 y e; omega
  obtain ⟨x, hx⟩ : ∃ x, B[r]? = some x := ⟨_, List.getElem?_eq_getElem hrl⟩
  have hgd : B.getD r [] = x := by rw [List.getD_eq_getElem?_getD, hx]; rfl
  obtain ⟨t0, t1⟩ := h.t.2 r x hx
  refine ⟨nxt_ok hB h.t hrl, fun y hy => ?_, ?_, fun y hy => ?_⟩
  · rcases List.mem_cons.mp hy with e | e
    · rw [e]; exact start_ok hB h.t hrl
    · exact h.e y e
  · rcases hr with ⟨rfl, rfl⟩ | ⟨x, st', rfl, hx⟩
    · exact rfl
    · exact ⟨hx, h.c⟩
  · show (nxt B T r).getD y.1 0 = _
    rcases List.mem_cons.mp hy with e | e
    · rw [e]
      show (nxt B T r).getD r 0 = (((T.getD r 0).toNat : Nat) + 1 : Int) % ((B.getD r []).length : Int)
      have : TOk B T := h.t
      rw [nxt_eq (by rw [this.1]; exact hrl), Int.toNat_of_nonneg t0]
    · have := hlt y e
      rw [nxt_ne (by omega)]
      exact h.n y e
theorem SOk.fin {B : Bk} {T : List Int} : ∀ {st : List En}, SOk B (T, st) → SOk B (T, fin B st)
  | [], h => h
  | x :: st, h => by
    have hc : Chn B st := by
      cases st with
      | nil => trivial
      | cons y st => exact h.c.2
    unfold K03.fin
    split
    · exact SOk.fin ⟨h.t, fun y hy => h.e y (List.mem_cons_of_mem _ hy), hc, fun y hy => h.n y (List.mem_cons_of_mem _ hy)⟩
    · rename_i hne
      have hx := h.e x List.mem_cons_self
      refine ⟨h.t, fun y hy => ?_, ?_, fun y hy => ?_⟩
      · rcases List.mem_cons.mp hy with e | e
        · rw [e]
          refine ⟨hx.r, hx.v, ?_⟩
          have h1 := hx.i
          show x.2.2 + 1 < (vOf B x).length
          omega
        · exact h.e y (List.mem_cons_of_mem _ e)
      · cases st with
        | nil => exact h.c
        | cons y st => exact ⟨h.c.1, h.c.2⟩
      · rcases List.mem_cons.mp hy with e | e
        · rw [e]; exact h.n x List.mem_cons_self
        · exact h.n y (List.mem_cons_of_mem _ e)
theorem SOk.desc {B : Bk} (hB : BkOk B) : ∀ (f : Nat) (T : List Int) (st : List En), SOk B (T, st) → SOk B (mDesc B f (T, st))
  | 0, T, st, h => h
  | f + 1, T, [], h => h
  | f + 1, T, x :: st, h => by
    show SOk B (match itAt B x with
      | .ref n => mDesc B f (mStart B (T, x :: st) n.toNat)
      | .wd _ => (T, x :: st))
    cases hi : itAt B x with
    | wd y => exact h
    | ref n =>
      have hn := (h.e x List.mem_cons_self).ref hB hi
      exact SOk.desc hB f _ _ (h.start hB (.inr ⟨x, st, rfl, by rw [hi, hn.2.2]⟩))
theorem SOk.beg {B : Bk} (hB : BkOk B) {s : Ps} (h : SOk B s) : SOk B (mBeg B s) := by
  obtain ⟨T, st⟩ := s
  cases st with
  | nil => exact h.start hB (.inl ⟨rfl, rfl⟩)
  | cons x st => exact h
theorem SOk.top {B : Bk} (hB : BkOk B) {s : Ps} (h : SOk B s) : SOk B (mTop B s) := by
  obtain ⟨T, st⟩ := s
  exact SOk.desc hB _ _ _ (h.beg hB)
theorem SOk.next {B : Bk} (hB : BkOk B) {s : Ps} (h : SOk B s) : SOk B (mNext B s) := (h.top hB).fin
theorem SOk.it {B : Bk} (hB : BkOk B) : ∀ (n : Nat) {s : Ps}, SOk B s → SOk B (K03.it B n s)
  | 0, _, h => h
  | n + 1, _, h => SOk.it hB n (h.next hB)
/-- between two words, no entry is at its first item -/
def Rest (st : List En) : Prop := ∀ x ∈ st.head?, x.2.2 ≠ 0
/-- the top of a state is at a word -/
theorem desc_word {B : Bk} (hB : BkOk B) : ∀ (f : Nat) (T : List Int) (x : En) (st : List En), SOk B (T, x :: st) → B.length - x.1 ≤ f → ∃ T' y st' w, mDesc B f (T, x :: st) = (T', y :: st') ∧ itAt B y = .wd w
  | 0, T, x, st, h, hf => by have := (h.e x List.mem_cons_self).r; omega
  | f + 1, T, x, st, h, hf => by
    have e : mDesc B (f + 1) (T, x :: st) = (match itAt B x with
      | .ref n => mDesc B f (mStart B (T, x :: st) n.toNat)
      | .wd _ => (T, x :: st)) := rfl
    rw [e]
    cases hi : itAt B x with
    | wd y => exact ⟨T, x, st, y, rfl, hi⟩
    | ref n =>
      have hn := (h.e x List.mem_cons_self).ref hB hi
      exact desc_word hB f _ _ _ (h.start hB (.inr ⟨x, st, rfl, by rw [hi, hn.2.2]⟩)) (by show B.length - n.toNat ≤ f; omega)
theorem top_word {B : Bk} (hB : BkOk B) {s : Ps} (h : SOk B s) : ∃ T' y st' w, mTop B s = (T', y :: st') ∧ itAt B y = .wd w := by
  have h60 := hB.le
  have hb := h.beg hB
  unfold mTop
  obtain ⟨T, st⟩ := s
  cases st with
  | nil => exact desc_word hB 60 _ _ _ hb (by show B.length - 0 ≤ 60; omega)
  | cons x st => exact desc_word hB 60 _ _ _ hb (by omega)
end K03
set_option Elab.async false
set_option linter.all false
set_option maxRecDepth 100000
set_option maxHeartbeats 2000000
set_option exponentiation.threshold 5000
namespace K03
open PySem PySem.Spec D3 K20 K11
structure Frm (F : List Nat) (S S' : Store) : Prop where
  len : S.length ≤ S'.length
  get : ∀ i, i < S.length → i ∉ F → S'[i]? = S[i]?
theorem Frm.refl (F : List Nat) (S : Store) : Frm F S S := ⟨Nat.le_refl _, fun _ _ _ => rfl⟩
theorem Frm.at {F : List Nat} {S S' : Store} (h : Frm F S S') {i : Nat} {m : Mo} (hi : S[i]? = some m) (hn : i ∉ F) : S'[i]? = some m := by rw [h.get i (at_lt hi) hn, hi]
theorem Frm.trans {F F1 : List Nat} {S S1 S2 : Store} (h : Frm F S S1) (h1 : Frm F1 S1 S2) (hs : ∀ i ∈ F1, i ∈ F ∨ S.length ≤ i) : Frm F S S2 := by
  refine ⟨Nat.le_trans h.len h1.len, fun i hi hn => ?_⟩
  rw [h1.get i (Nat.lt_of_lt_of_le hi h.len) (fun z => by rcases hs i z with w | w; exact hn w; omega), h.get i hi hn]
theorem Frm.mono {F F1 : List Nat} {S S1 : Store} (h : Frm F S S1) (hs : ∀ i ∈ F, i ∈ F1) : Frm F1 S S1 := ⟨h.len, fun i hi hn => h.get i hi fun z => hn (hs i z)⟩
theorem Frm.set {F : List Nat} {S : Store} {i : Nat} {m : Mo} (h : i ∈ F) : Frm F S (S.set i m) := ⟨by rw [List.length_set]; exact Nat.le_refl _, fun j hj hn => List.getElem?_set_ne (fun z => hn (by rw [← z]; exact h))⟩
theorem Frm.app {F : List Nat} {S T : Store} : Frm F S (S ++ T) := ⟨by rw [List.length_append]; omega, fun j hj _ => List.getElem?_append_left hj⟩
theorem Frm.then {F : List Nat} {S S1 S2 : Store} (h : Frm F S S1) (h1 : Frm F S1 S2) : Frm F S S2 := h.trans h1 fun _ z => .inl z
def enD (x : En) : List Dv := [.int x.1, .int x.2.1, .int x.2.2]
def Ent (S : Store) : List Nat → List En → Prop
  | [], [] => True
  | a :: as, x :: st => S[a]? = some (.lst (enD x)) ∧ Ent S as st
  | _, _ => False
theorem Ent.frm {F : List Nat} {S S' : Store} (h : Frm F S S') : ∀ {as : List Nat} {st : List En}, Ent S as st → (∀ a ∈ as, a ∉ F) → Ent S' as st
  | [], [], _, _ => trivial
  | a :: as, x :: st, ⟨h1, h2⟩, hn => ⟨h.at h1 (hn a List.mem_cons_self), Ent.frm h h2 fun b hb => hn b (List.mem_cons_of_mem _ hb)⟩
  | [], _ :: _, h, _ => h.elim
  | _ :: _, [], h, _ => h.elim
theorem Ent.len {S : Store} : ∀ {as : List Nat} {st : List En}, Ent S as st → as.length = st.length
  | [], [], _ => rfl
  | _ :: as, _ :: st, ⟨_, h⟩ => by rw [List.length_cons, List.length_cons, h.len]
  | [], _ :: _, h => h.elim
  | _ :: _, [], h => h.elim
theorem Ent.mem {S : Store} : ∀ {as : List Nat} {st : List En}, Ent S as st → ∀ a ∈ as, a < S.length
  | [], [], _, a, h => by cases h
  | a :: as, x :: st, ⟨h1, h2⟩, b, hb => by
    rcases List.mem_cons.mp hb with e | e
    · rw [e]; exact at_lt h1
    · exact h2.mem b e
  | [], _ :: _, h, _, _ => h.elim
  | _ :: _, [], h, _, _ => h.elim
def pfF (B : Bk) (t e : Nat) : List (Str × Dv) := [("book", bkD B), ("turns", .obj t), ("entries", .obj e)]
structure Pm (C : Addr) (S : Store) (p t e : Nat) (as : List Nat) (B : Bk) (s : Ps) : Prop where
  hi : S[p]? = some (.ins C (pfF B t e))
  ht : S[t]? = some (.lst (s.1.map Dv.int))
  he : S[e]? = some (.lst (as.reverse.map Dv.obj))
  ha : Ent S as s.2
  nd : (p :: t :: e :: as).Nodup
/-- the performance has gone on -/
structure Mv (C : Addr) (S : Store) (p t e : Nat) (as : List Nat) (B : Bk) (S' : Store) (as' : List Nat) (s' : Ps) : Prop where
  m : Pm C S' p t e as' B s'
  f : Frm (t :: e :: as) S S'
  s : ∀ a ∈ as', a ∈ as ∨ S.length ≤ a
theorem Mv.refl {C : Addr} {S : Store} {p t e : Nat} {as : List Nat} {B : Bk} {s : Ps} (h : Pm C S p t e as B s) : Mv C S p t e as B S as s := ⟨h, .refl _ _, fun _ h => .inl h⟩
theorem Mv.trans {C : Addr} {S S1 S2 : Store} {p t e : Nat} {as as1 as2 : List Nat} {B : Bk} {s1 s2 : Ps} (h : Mv C S p t e as B S1 as1 s1) (h' : Mv C S1 p t e as1 B S2 as2 s2) : Mv C S p t e as B S2 as2 s2 := by
  refine ⟨h'.m, h.f.trans h'.f fun i hi => ?_, fun a ha => ?_⟩
  · rcases List.mem_cons.mp hi with z | z
    · exact .inl (z ▸ List.mem_cons_self)
    · rcases List.mem_cons.mp z with z | z
      · exact .inl (z ▸ List.mem_cons_of_mem _ List.mem_cons_self)
      · rcases h.s i z with w | w
        · exact .inl (List.mem_cons_of_mem _ (List.mem_cons_of_mem _ w))
        · exact .inr w
  · have hl := h.f.len
    rcases h'.s a ha with z | z
    · exact h.s a z
    · exact .inr (by omega)
theorem Pm.ne {C : Addr} {S : Store} {p t e : Nat} {as : List Nat} {B : Bk} {s : Ps} (h : Pm C S p t e as B s) : p ≠ t ∧ p ≠ e ∧ p ∉ as ∧ t ≠ e ∧ t ∉ as ∧ e ∉ as ∧ as.Nodup := by
  have := h.nd
  simp only [List.nodup_cons, List.mem_cons, not_or] at this
  exact ⟨this.1.1, this.1.2.1, this.1.2.2, this.2.1.1, this.2.1.2, this.2.2.1, this.2.2.2⟩
theorem Pm.lt {C : Addr} {S : Store} {p t e : Nat} {as : List Nat} {B : Bk} {s : Ps} (h : Pm C S p t e as B s) : p < S.length ∧ t < S.length ∧ e < S.length ∧ ∀ a ∈ as, a < S.length := ⟨at_lt h.hi, at_lt h.ht, at_lt h.he, h.ha.mem⟩
/-- it lies beside what changes -/
theorem Pm.frm {C : Addr} {S S' : Store} {p t e : Nat} {as : List Nat} {B : Bk} {s : Ps} (h : Pm C S p t e as B s) {F : List Nat} (f : Frm F S S') (hn : ∀ i ∈ p :: t :: e :: as, i ∉ F) : Pm C S' p t e as B s :=
  ⟨f.at h.hi (hn p (by simp)), f.at h.ht (hn t (by simp)), f.at h.he (hn e (by simp)), h.ha.frm f fun a ha => hn a (by simp [ha]), h.nd⟩
end K03
set_option Elab.async false
set_option linter.all false
set_option maxRecDepth 100000
set_option maxHeartbeats 2000000
set_option exponentiation.threshold 5000
namespace K03
open PySem PySem.Spec D3 K20 K11
theorem Ent.app {S : Store} : ∀ {as bs : List Nat} {st su : List En}, Ent S as st → Ent S bs su → Ent S (as ++ bs) (st ++ su)
  | [], _, [], _, _, h => h
  | a :: as, bs, x :: st, su, ⟨h1, h2⟩, h => ⟨h1, Ent.app h2 h⟩
  | [], _, _ :: _, _, h, _ => h.elim
  | _ :: _, _, [], _, h, _ => h.elim
def pathD (st : List En) : Dv := .tup (st.reverse.map fun x => .tup (enD x))
def stD (s : Ps) : Dv := .tup [tsD s.1, pathD s.2]
end K03
set_option Elab.async false
set_option linter.all false
set_option maxRecDepth 100000
set_option maxHeartbeats 2000000
set_option exponentiation.threshold 5000
namespace K03
open PySem PySem.Spec D3 K20 K11
def up1 (x : En) : En := (x.1, x.2.1, x.2.2 + 1)
def bump : List En → List En
  | [] => []
  | x :: st => up1 x :: st
/-- an entry that may be finished -/
structure EW (B : Bk) (x : En) : Prop where
  r : x.1 < B.length
  v : x.2.1 < (B.getD x.1 []).length
theorem EOk.w {B : Bk} {x : En} (h : EOk B x) : EW B x := ⟨h.r, h.v⟩
theorem EW.up {B : Bk} {x : En} (h : EW B x) : EW B (up1 x) := ⟨h.r, h.v⟩
theorem mv_app {C : Addr} {S U : Store} {p t e : Nat} {as : List Nat} {B : Bk} {s : Ps} (h : Pm C S p t e as B s) : Mv C S p t e as B (S ++ U) as s := ⟨h.frm (F := []) Frm.app (fun _ _ z => by cases z), Frm.app, fun _ h => .inl h⟩
end K03
set_option Elab.async false
set_option linter.all false
set_option maxRecDepth 100000
set_option maxHeartbeats 2000000
set_option exponentiation.threshold 5000
namespace K03
open PySem PySem.Spec D3 K20 K11
theorem sIf_gen {t : TTd} {A : TSd} {D : EndsD} {σ : Sl} {S : Store} (P : Sl → Store → Prop) (h : ∀ K : Sl → Store → Prop, (∀ σ' S', P σ' S' → K σ' S') → sIf t A sNext { D with nx := K } σ S) (q : ∀ σ' S', P σ' S' → D.nx σ' S') : sIf t A sNext D σ S := h D.nx q
theorem SOk.short {B : Bk} (hB : BkOk B) {s : Ps} (h : SOk B s) : s.2.length ≤ 60 := by
  obtain ⟨T, st⟩ := s
  cases st with
  | nil => exact Nat.zero_le _
  | cons x st =>
    have h1 : (x :: st).length ≤ x.1 + 1 := (SOk.depth hB h.e h.c x rfl).1
    have h2 : x.1 < B.length := (h.e x List.mem_cons_self).r
    have h3 := hB.le
    show (x :: st).length ≤ 60
    omega
def outD (B : Bk) (s : Ps) : Dv := match (mTop B s).2 with
  | [] => .non
  | y :: st => .tup [(itAt B y).d, pathD (y :: st)]
end K03
set_option Elab.async false
set_option linter.all false
set_option maxRecDepth 100000
set_option maxHeartbeats 2000000
set_option exponentiation.threshold 5000
namespace K03
open PySem PySem.Spec D3 K20 K11
theorem TOk.ok {B : Bk} {T : List Int} (h : TOk B T) : turnsOk B T = true := by
  unfold turnsOk
  simp only [Bool.and_eq_true, decide_eq_true_eq]
  refine ⟨h.1, List.all_eq_true.mpr ?_⟩
  rintro ⟨t, r⟩ hp
  obtain ⟨k, hk⟩ := List.getElem?_of_mem hp
  obtain ⟨k1, k2⟩ := List.getElem?_zip_eq_some.mp hk
  have k1 : T[k]? = some t := k1
  have k2 : B[k]? = some r := k2
  have := h.2 k r k2
  rw [List.getD_eq_getElem?_getD, k1] at this
  have h0 : 0 ≤ t ∧ t < r.length := this
  show (decide (0 ≤ t) && decide (t < (r.length : Int))) = true
  rw [decide_eq_true h0.1, decide_eq_true h0.2]; rfl
end K03
set_option Elab.async false
set_option linter.all false
set_option maxRecDepth 100000
set_option maxHeartbeats 2000000
set_option exponentiation.threshold 5000
namespace K03
open PySem PySem.Spec D3 K20 K11
def RowsF (S : Store) (n u : Nat) (rows : List (List Int)) : Prop := ∃ as : List Nat, getL S u = some (as.map Dv.obj) ∧ as.length = rows.length ∧ n ≤ u ∧ (∀ a ∈ as, n ≤ a) ∧ ∀ (k : Nat) row a, rows[k]? = some row → as[k]? = some a → getL S a = some (row.map Dv.int)
end K03
set_option Elab.async false
set_option linter.all false
set_option maxRecDepth 100000
set_option maxHeartbeats 2000000
set_option exponentiation.threshold 5000
namespace K07
open PySem PySem.Spec D3 K20 K11 K03
abbrev Vk := Nat × Nat
def sumU (n : Nat) (f : Nat → Int) : Int := ((List.range n).map f).sum
def uK (B : Bk) (T l : List Int) (j u : Nat) : Int := useOf ((B.getD j []).length : Int) (T.getD j 0) (pn B T l j j) (u : Int)
def uF (B : Bk) (T l : List Int) (F : Nat → Nat → Int) : Int := sumU B.length fun j => sumU (B.getD j []).length fun u => uK B T l j u * F j u
def sF (L : List Vk) (F : Nat → Nat → Int) : Int := (L.map fun p => F p.1 p.2).sum
theorem sF_nil {F : Nat → Nat → Int} : sF [] F = 0 := rfl
theorem sF_app {L M : List Vk} {F : Nat → Nat → Int} : sF (L ++ M) F = sF L F + sF M F := by unfold sF; rw [List.map_append, List.sum_append]
def RunF (B : Bk) (T : List Int) (w : List Itm) (L : List Vk) (T2 : List Int) : Prop := ∀ F l l', l.length = B.length → Cal B w l l' → uF B T l' F = uF B T2 l F + sF L F
def CallF (B : Bk) (T : List Int) (r : Nat) (L : List Vk) (T2 : List Int) : Prop := ∀ F l l', l.length = B.length → l'.length = B.length → (∀ j, j < B.length → l'.getD j 0 = l.getD j 0 + if j = r then 1 else 0) → uF B T l' F = uF B T2 l F + sF L F
theorem RunF.nil {B : Bk} {T : List Int} : RunF B T [] [] T := fun F l l' h1 ⟨h2, h3⟩ => by
  have e : l' = l := getD_ext (by omega) fun n hn => by
    rw [h3 n (by omega)]
    show _ + 0 = _
    rw [Int.add_zero]
  rw [e, sF_nil, Int.add_zero]
theorem RunF.wd {B : Bk} {T T2 : List Int} {w : List Itm} {L : List Vk} {y : Str} (h : RunF B T w L T2) : RunF B T (.wd y :: w) L T2 := fun F l l' h1 ⟨h2, h3⟩ => h F l l' h1 ⟨h2, fun n hn => by
  rw [h3 n hn, cntR_cons, if_neg (by intro z; cases z), Int.zero_add]⟩
theorem RunF.ref {B : Bk} {T T1 T2 : List Int} {w : List Itm} {L M : List Vk} {n : Int} (hn : ((n.toNat : Nat) : Int) = n) (h0 : CallF B T n.toNat L T1) (h : RunF B T1 w M T2) : RunF B T (.ref n :: w) (L ++ M) T2 := fun F l l' h1 ⟨h2, h3⟩ => by
  obtain ⟨q, hq, hq2⟩ := mk_list B.length fun j => l.getD j 0 + cntR j w
  have a := h0 F q l' hq h2 fun j hj => by
    rw [hq2 j hj, h3 j hj, cntR_cons]
    by_cases c : j = n.toNat
    · rw [if_pos c, if_pos (by rw [c, hn])]; omega
    · rw [if_neg c, if_neg (fun z => by cases z; exact c (by omega))]; omega
  have b := h F l q h1 ⟨hq, hq2⟩
  rw [a, b, sF_app]; omega
end K07
set_option Elab.async false
set_option linter.all false
set_option maxRecDepth 100000
set_option maxHeartbeats 2000000
set_option exponentiation.threshold 5000
namespace K07
open PySem PySem.Spec D3 K20 K11 K03
def one (o : Option Str) (x : Itm) : Int := if counts o x = true then 1 else 0
end K07
set_option Elab.async false
set_option linter.all false
set_option maxRecDepth 100000
set_option maxHeartbeats 2000000
set_option exponentiation.threshold 5000
namespace K11
open PySem PySem.Spec D3 K20
end K11
set_option Elab.async false
set_option linter.all false
set_option maxRecDepth 100000
set_option maxHeartbeats 2000000
set_option exponentiation.threshold 5000
namespace K03
open PySem PySem.Spec D3 K20 K11
/-- its lists lie where nothing is written -/
theorem RowsF.frm {S S' : Store} {n u : Nat} {rows : List (List Int)} {F : List Nat} (h : RowsF S n u rows) (f : Frm F S S') (hn : ∀ i ∈ F, i < n ∨ S.length ≤ i) : RowsAt S' u rows := by
  obtain ⟨as, h1, h2, h3, h4, h5⟩ := h
  have key : ∀ {i : Nat} {xs : List Dv}, getL S i = some xs → n ≤ i → getL S' i = some xs := fun {i xs} hi hni => by
    have h6 := getL_iff.mp hi
    exact getL_iff.mpr (f.at h6 fun z => by rcases hn i z with w | w; omega; have := at_lt h6; omega)
  refine ⟨as, key h1 h3, h2, fun k row a e1 e2 => key (h5 k row a e1 e2) (h4 a (List.mem_of_getElem? e2))⟩
theorem RowsF.at {S : Store} {n u : Nat} {rows : List (List Int)} (h : RowsF S n u rows) : RowsAt S u rows := h.frm (.refl [] S) fun _ z => by cases z
end K03
set_option Elab.async false
set_option linter.all false
set_option maxRecDepth 100000
set_option maxHeartbeats 2000000
set_option exponentiation.threshold 5000
namespace K03
open PySem PySem.Spec D3 K20 K11
def scF (p c l u : Nat) (n : Int) (w : Nat) : List (Str × Dv) := [("performance", .obj p), ("counter", .obj c), ("lengths", .obj l), ("usage", .obj u), ("passed", .int n), ("weights", .obj w), ("target", .non), ("word", .non)]
structure Imm (CC : Addr) (S : Store) (c l u w : Nat) (us : List Nat) (B : Bk) : Prop where
  hc : ∃ x, S[c]? = some (.ins CC (cntF B x)) ∧ CallsAt S x B
  hl : RowsAt S l (wtsOf B none)
  hw : RowsAt S w (wtsOf B none)
  hu : getL S u = some (us.map Dv.obj)
structure Sc (CS CP CC : Addr) (S : Store) (q p t e : Nat) (as : List Nat) (c l u w : Nat) (us : List Nat) (B : Bk) (s : Ps) : Prop where
  hq : ∃ n : Int, S[q]? = some (.ins CS (scF p c l u n w))
  pm : Pm CP S p t e as B s
  im : ∃ (S0 : Store) (M0 : List Nat), (∀ S', Frm M0 S0 S' → Imm CC S' c l u w us B) ∧ Frm M0 S0 S ∧ ∀ i ∈ q :: p :: t :: e :: (as ++ us), i ∈ M0 ∨ S0.length ≤ i
  ul : us.length = B.length
  ur : ∀ (k : Nat) a r, us[k]? = some a → B[k]? = some r → ∃ row : List Int, S[a]? = some (.lst (row.map Dv.int)) ∧ row.length = r.length
  nd : (q :: p :: t :: e :: (as ++ us)).Nodup
end K03
set_option Elab.async false
set_option linter.all false
set_option maxRecDepth 100000
set_option maxHeartbeats 2000000
set_option exponentiation.threshold 5000
namespace K03
open PySem PySem.Spec D3 K20 K11
structure SMv (CS CP CC : Addr) (S : Store) (q p t e : Nat) (as : List Nat) (c l u w : Nat) (us : List Nat) (B : Bk) (S' : Store) (t' : Nat) (as' : List Nat) (s' : Ps) : Prop where
  sc : Sc CS CP CC S' q p t' e as' c l u w us B s'
  f : Frm (q :: p :: t :: e :: (as ++ us)) S S'
  s : ∀ i ∈ t' :: as', i ∈ t :: as ∨ S.length ≤ i
section
variable {CS CP CC : Addr} {S S' : Store} {q p t e : Nat} {as : List Nat} {c l u w : Nat} {us : List Nat} {B : Bk} {s s' : Ps}
theorem Sc.lt (h : Sc CS CP CC S q p t e as c l u w us B s) : ∀ i ∈ q :: p :: t :: e :: (as ++ us), i < S.length := by
  obtain ⟨a1, a2, a3, a4⟩ := h.pm.lt
  obtain ⟨n, hq⟩ := h.hq
  intro i hi
  simp only [List.mem_cons, List.mem_append] at hi
  rcases hi with z | z | z | z | z | z
  · rw [z]; exact at_lt hq
  · rw [z]; exact a1
  · rw [z]; exact a2
  · rw [z]; exact a3
  · exact a4 i z
  · obtain ⟨k, hk⟩ := List.getElem?_of_mem z
    obtain ⟨r, hr⟩ : ∃ r, B[k]? = some r := ⟨_, List.getElem?_eq_getElem (by rw [← h.ul]; exact at_lt hk)⟩
    obtain ⟨row, h1, _⟩ := h.ur k i r hk hr
    exact at_lt h1
theorem SMv.refl (h : Sc CS CP CC S q p t e as c l u w us B s) : SMv CS CP CC S q p t e as c l u w us B S t as s := ⟨h, .refl _ _, fun _ z => .inl z⟩
theorem SMv.old {t' : Nat} {as' : List Nat} (h : SMv CS CP CC S q p t e as c l u w us B S' t' as' s') : ∀ i ∈ q :: p :: t' :: e :: (as' ++ us), i ∈ q :: p :: t :: e :: (as ++ us) ∨ S.length ≤ i := fun i hi => by
  have h1 := h.s i
  simp only [List.mem_cons, List.mem_append] at hi h1 ⊢
  rcases hi with z | z | z | z | z | z
  · exact .inl (.inl z)
  · exact .inl (.inr (.inl z))
  · rcases h1 (.inl z) with (y | y) | y
    · exact .inl (.inr (.inr (.inl y)))
    · exact .inl (.inr (.inr (.inr (.inr (.inl y)))))
    · exact .inr y
  · exact .inl (.inr (.inr (.inr (.inl z))))
  · rcases h1 (.inr z) with (y | y) | y
    · exact .inl (.inr (.inr (.inl y)))
    · exact .inl (.inr (.inr (.inr (.inr (.inl y)))))
    · exact .inr y
  · exact .inl (.inr (.inr (.inr (.inr (.inr z)))))
theorem SMv.trans {S2 : Store} {t1 t2 : Nat} {as1 as2 : List Nat} {s2 : Ps} (h : SMv CS CP CC S q p t e as c l u w us B S' t1 as1 s') (h' : SMv CS CP CC S' q p t1 e as1 c l u w us B S2 t2 as2 s2) : SMv CS CP CC S q p t e as c l u w us B S2 t2 as2 s2 := by
  refine ⟨h'.sc, h.f.trans h'.f h.old, fun i hi => ?_⟩
  have hl := h.f.len
  rcases h'.s i hi with z | z
  · exact h.s i z
  · exact .inr (by omega)
/-- new lists, the same scanner -/
theorem Sc.upd {t' : Nat} {as' : List Nat} (h : Sc CS CP CC S q p t e as c l u w us B s) (hq : ∃ n : Int, S'[q]? = some (.ins CS (scF p c l u n w))) (pm : Pm CP S' p t' e as' B s') (f : Frm (q :: p :: t :: e :: (as ++ us)) S S')
    (hs : ∀ i ∈ t' :: as', i ∈ t :: as ∨ S.length ≤ i) (ur : ∀ (k : Nat) a r, us[k]? = some a → B[k]? = some r → ∃ row : List Int, S'[a]? = some (.lst (row.map Dv.int)) ∧ row.length = r.length) : SMv CS CP CC S q p t e as c l u w us B S' t' as' s' := by
  have hlt := h.lt
  have nd := h.nd
  have hold : ∀ i ∈ p :: t' :: e :: as', i ∈ p :: t :: e :: as ∨ S.length ≤ i := fun i hi => by
    have h1 := hs i
    simp only [List.mem_cons] at hi h1 ⊢
    rcases hi with z | z | z | z
    · exact .inl (.inl z)
    · rcases h1 (.inl z) with (y | y) | y
      · exact .inl (.inr (.inl y))
      · exact .inl (.inr (.inr (.inr y)))
      · exact .inr y
    · exact .inl (.inr (.inr (.inl z)))
    · rcases h1 (.inr z) with (y | y) | y
      · exact .inl (.inr (.inl y))
      · exact .inl (.inr (.inr (.inr y)))
      · exact .inr y
  have e1 : ∀ t as, p :: t :: e :: (as ++ us) = (p :: t :: e :: as) ++ us := fun _ _ => rfl
  rw [e1, List.nodup_cons, List.mem_append, not_or, List.nodup_append] at nd
  obtain ⟨⟨m1, m2⟩, m3, m4, m5⟩ := nd
  refine ⟨⟨hq, pm, ?_, h.ul, ur, ?_⟩, f, hs⟩
  · obtain ⟨S0, M0, h1, h2, h3⟩ := h.im
    refine ⟨S0, M0, h1, h2.trans f h3, fun i hi => ?_⟩
    have hl := h2.len
    rw [e1] at hi
    have hi : i = q ∨ i ∈ p :: t' :: e :: as' ∨ i ∈ us := by
      rcases List.mem_cons.mp hi with z | z
      · exact .inl z
      · exact .inr (List.mem_append.mp z)
    have h4 : ∀ j ∈ p :: t :: e :: as, j ∈ M0 ∨ S0.length ≤ j := fun j hj => h3 j (List.mem_cons_of_mem _ (by rw [e1]; exact List.mem_append_left _ hj))
    rcases hi with z | z | z
    · exact h3 i (by rw [z]; exact List.mem_cons_self)
    · rcases hold i z with y | y
      · exact h4 i y
      · exact .inr (by omega)
    · exact h3 i (List.mem_cons_of_mem _ (by rw [e1]; exact List.mem_append_right _ z))
  · rw [e1, List.nodup_cons, List.mem_append, not_or, List.nodup_append]
    refine ⟨⟨fun z => ?_, m2⟩, pm.nd, m4, fun a ha b hb z => ?_⟩
    · rcases hold q z with y | y
      · exact m1 y
      · have := hlt q List.mem_cons_self; omega
    · rcases hold a ha with y | y
      · exact m5 a y b hb z
      · have := hlt b (List.mem_cons_of_mem _ (by rw [e1]; exact List.mem_append_right _ hb)); omega
theorem Sc.mv {as' : List Nat} (h : Sc CS CP CC S q p t e as c l u w us B s) (m : Mv CP S p t e as B S' as' s') : SMv CS CP CC S q p t e as c l u w us B S' t as' s' := by
  have nd := h.nd
  simp only [List.nodup_cons, List.mem_cons, List.mem_append, not_or, List.nodup_append] at nd
  obtain ⟨⟨a1, a2, a3, a4, a5⟩, ⟨b1, b2, b3, b4⟩, ⟨c1, c2, c3⟩, ⟨d1, d2⟩, e1, e2, e3⟩ := nd
  obtain ⟨n, hq⟩ := h.hq
  refine h.upd ⟨n, m.f.at hq ?_⟩ m.m (m.f.mono fun i hi => ?_) (fun i hi => ?_) fun k a r h1 h2 => ?_
  · simp only [List.mem_cons, not_or]; exact ⟨a2, a3, a4⟩
  · simp only [List.mem_cons, List.mem_append] at hi ⊢
    rcases hi with z | z | z
    · exact .inr (.inr (.inl z))
    · exact .inr (.inr (.inr (.inl z)))
    · exact .inr (.inr (.inr (.inr (.inl z))))
  · rcases List.mem_cons.mp hi with z | z
    · exact .inl (by rw [z]; exact List.mem_cons_self)
    · rcases m.s i z with y | y
      · exact .inl (List.mem_cons_of_mem _ y)
      · exact .inr y
  · obtain ⟨row, h3, h4⟩ := h.ur k a r h1 h2
    have ha := List.mem_of_getElem? h1
    refine ⟨row, m.f.at h3 ?_, h4⟩
    simp only [List.mem_cons, not_or]
    refine ⟨?_, ?_, ?_⟩
    · rintro rfl; exact c3 ha
    · rintro rfl; exact d2 ha
    · exact fun z => e3 a z a ha rfl
theorem Sc.app {T : Store} (h : Sc CS CP CC S q p t e as c l u w us B s) : SMv CS CP CC S q p t e as c l u w us B (S ++ T) t as s := h.mv (mv_app h.pm)
end
end K03
set_option Elab.async false
set_option linter.all false
set_option maxRecDepth 100000
set_option maxHeartbeats 2000000
set_option exponentiation.threshold 5000
namespace K03
open PySem PySem.Spec D3 K20 K11
end K03
set_option Elab.async false
set_option linter.all false
set_option maxRecDepth 100000
set_option maxHeartbeats 2000000
set_option exponentiation.threshold 5000
namespace K03
open PySem PySem.Spec D3 K20 K11
end K03
set_option Elab.async false
set_option linter.all false
set_option maxRecDepth 100000
set_option maxHeartbeats 2000000
set_option exponentiation.threshold 5000
namespace K03
open PySem PySem.Spec D3 K20 K11
end K03
set_option Elab.async false
set_option linter.all false
set_option maxRecDepth 100000
set_option maxHeartbeats 2000000
set_option exponentiation.threshold 5000
namespace K03
open PySem PySem.Spec D3 K20 K11
def spAdvance (CS CP CC : Addr) : Spd := fun ds S Q E => ∃ (B : Bk) (s : Ps) (n : Nat), ds = [bkD B, stD s, .int n] ∧ BkOk B ∧ SOk B s ∧ Rest s.2 ∧ n ≤ 1000000000000000000 ∧ ∀ (S' : Store), Frm [] S S' → Q (stD (it B n s)) S'
def spWordAt (CS CP CC : Addr) : Spd := fun ds S Q E => ∃ (B : Bk) (s : Ps) (n : Nat), ds = [bkD B, stD s, .int n] ∧ BkOk B ∧ SOk B s ∧ Rest s.2 ∧ 1 ≤ n ∧ n ≤ 1000000000000000000 ∧ ∀ (S' : Store), Frm [] S S' → Q (outD B (it B (n - 1) s)) S'
def spNextWords (CP : Addr) : Spd := fun ds S Q E => ∃ (B : Bk) (s : Ps) (n : Nat), ds = [bkD B, stD s, .int n] ∧ BkOk B ∧ SOk B s ∧ Rest s.2 ∧ n ≤ 200 ∧ ∀ (S' : Store) (i : Nat), Frm [] S S' → S.length ≤ i → S'[i]? = some (.lst ((List.range n).map fun k => outD B (it B k s))) → Q (.obj i) S'
end K03
set_option Elab.async false
set_option linter.all false
set_option maxRecDepth 100000
set_option maxHeartbeats 2000000
set_option exponentiation.threshold 5000
namespace K07
open PySem PySem.Spec D3 K20 K11
open K03 hiding Sc SMv scF Imm
def scF (o : Option Str) (p c l u : Nat) (n : Int) (w : Nat) : List (Str × Dv) := [("performance", .obj p), ("counter", .obj c), ("lengths", .obj l), ("usage", .obj u), ("passed", .int n), ("weights", .obj w), ("target", .non), ("word", wordD o)]
structure Imm (CC : Addr) (o : Option Str) (S : Store) (c l u w : Nat) (us : List Nat) (B : Bk) : Prop where
  hc : ∃ x, S[c]? = some (.ins CC (cntF B x)) ∧ CallsAt S x B
  hl : RowsAt S l (wtsOf B none)
  hw : RowsAt S w (wtsOf B o)
  hu : getL S u = some (us.map Dv.obj)
def rowM (n : Nat) (f : Nat → Int) : List Dv := (List.range n).map fun u => .int (f u)
structure Sc (CS CP CC : Addr) (o : Option Str) (S : Store) (q p t e : Nat) (as : List Nat) (c l u w : Nat) (us : List Nat) (B : Bk) (s : Ps) (n : Int) (M : Nat → Nat → Int) : Prop where
  hq : S[q]? = some (.ins CS (scF o p c l u n w))
  pm : Pm CP S p t e as B s
  im : ∃ (S0 : Store) (M0 : List Nat), (∀ S', Frm M0 S0 S' → Imm CC o S' c l u w us B) ∧ Frm M0 S0 S ∧ ∀ i ∈ q :: p :: t :: e :: (as ++ us), i ∈ M0 ∨ S0.length ≤ i
  ul : us.length = B.length
  ur : ∀ (k : Nat) a r, us[k]? = some a → B[k]? = some r → S[a]? = some (.lst (rowM r.length (M k)))
  nd : (q :: p :: t :: e :: (as ++ us)).Nodup
end K07
set_option Elab.async false
set_option linter.all false
set_option maxRecDepth 100000
set_option maxHeartbeats 2000000
set_option exponentiation.threshold 5000
namespace K07
open PySem PySem.Spec D3 K20 K11
open K03 hiding Sc SMv scF Imm
structure SMv (CS CP CC : Addr) (o : Option Str) (S : Store) (q p t e : Nat) (as : List Nat) (c l u w : Nat) (us : List Nat) (B : Bk) (S' : Store) (t' : Nat) (as' : List Nat) (s' : Ps) (n' : Int) (M' : Nat → Nat → Int) : Prop where
  sc : Sc CS CP CC o S' q p t' e as' c l u w us B s' n' M'
  f : Frm (q :: p :: t :: e :: (as ++ us)) S S'
  s : ∀ i ∈ t' :: as', i ∈ t :: as ∨ S.length ≤ i
section
variable {CS CP CC : Addr} {o : Option Str} {n n' : Int} {M M' : Nat → Nat → Int} {S S' : Store} {q p t e : Nat} {as : List Nat} {c l u w : Nat} {us : List Nat} {B : Bk} {s s' : Ps}
theorem Sc.lt (h : Sc CS CP CC o S q p t e as c l u w us B s n M) : ∀ i ∈ q :: p :: t :: e :: (as ++ us), i < S.length := by
  obtain ⟨a1, a2, a3, a4⟩ := h.pm.lt
  have hq := h.hq
  intro i hi
  simp only [List.mem_cons, List.mem_append] at hi
  rcases hi with z | z | z | z | z | z
  · rw [z]; exact at_lt hq
  · rw [z]; exact a1
  · rw [z]; exact a2
  · rw [z]; exact a3
  · exact a4 i z
  · obtain ⟨k, hk⟩ := List.getElem?_of_mem z
    obtain ⟨r, hr⟩ : ∃ r, B[k]? = some r := ⟨_, List.getElem?_eq_getElem (by rw [← h.ul]; exact at_lt hk)⟩
    exact at_lt (h.ur k i r hk hr)
theorem SMv.refl (h : Sc CS CP CC o S q p t e as c l u w us B s n M) : SMv CS CP CC o S q p t e as c l u w us B S t as s n M := ⟨h, .refl _ _, fun _ z => .inl z⟩
theorem SMv.old {t' : Nat} {as' : List Nat} (h : SMv CS CP CC o S q p t e as c l u w us B S' t' as' s' n' M') : ∀ i ∈ q :: p :: t' :: e :: (as' ++ us), i ∈ q :: p :: t :: e :: (as ++ us) ∨ S.length ≤ i := fun i hi => by
  have h1 := h.s i
  simp only [List.mem_cons, List.mem_append] at hi h1 ⊢
  rcases hi with z | z | z | z | z | z
  · exact .inl (.inl z)
  · exact .inl (.inr (.inl z))
  · rcases h1 (.inl z) with (y | y) | y
    · exact .inl (.inr (.inr (.inl y)))
    · exact .inl (.inr (.inr (.inr (.inr (.inl y)))))
    · exact .inr y
  · exact .inl (.inr (.inr (.inr (.inl z))))
  · rcases h1 (.inr z) with (y | y) | y
    · exact .inl (.inr (.inr (.inl y)))
    · exact .inl (.inr (.inr (.inr (.inr (.inl y)))))
    · exact .inr y
  · exact .inl (.inr (.inr (.inr (.inr (.inr z)))))
theorem SMv.trans {S2 : Store} {t1 t2 : Nat} {as1 as2 : List Nat} {s2 : Ps} {n2 : Int} {M2 : Nat → Nat → Int} (h : SMv CS CP CC o S q p t e as c l u w us B S' t1 as1 s' n' M') (h' : SMv CS CP CC o S' q p t1 e as1 c l u w us B S2 t2 as2 s2 n2 M2) : SMv CS CP CC o S q p t e as c l u w us B S2 t2 as2 s2 n2 M2 := by
  refine ⟨h'.sc, h.f.trans h'.f h.old, fun i hi => ?_⟩
  have hl := h.f.len
  rcases h'.s i hi with z | z
  · exact h.s i z
  · exact .inr (by omega)
/-- new lists, the same scanner -/
theorem Sc.upd {t' : Nat} {as' : List Nat} (h : Sc CS CP CC o S q p t e as c l u w us B s n M) (hq : S'[q]? = some (.ins CS (scF o p c l u n' w))) (pm : Pm CP S' p t' e as' B s') (f : Frm (q :: p :: t :: e :: (as ++ us)) S S')
    (hs : ∀ i ∈ t' :: as', i ∈ t :: as ∨ S.length ≤ i) (ur : ∀ (k : Nat) a r, us[k]? = some a → B[k]? = some r → S'[a]? = some (.lst (rowM r.length (M' k)))) : SMv CS CP CC o S q p t e as c l u w us B S' t' as' s' n' M' := by
  have hlt := h.lt
  have nd := h.nd
  have hold : ∀ i ∈ p :: t' :: e :: as', i ∈ p :: t :: e :: as ∨ S.length ≤ i := fun i hi => by
    have h1 := hs i
    simp only [List.mem_cons] at hi h1 ⊢
    rcases hi with z | z | z | z
    · exact .inl (.inl z)
    · rcases h1 (.inl z) with (y | y) | y
      · exact .inl (.inr (.inl y))
      · exact .inl (.inr (.inr (.inr y)))
      · exact .inr y
    · exact .inl (.inr (.inr (.inl z)))
    · rcases h1 (.inr z) with (y | y) | y
      · exact .inl (.inr (.inl y))
      · exact .inl (.inr (.inr (.inr y)))
      · exact .inr y
  have e1 : ∀ t as, p :: t :: e :: (as ++ us) = (p :: t :: e :: as) ++ us := fun _ _ => rfl
  rw [e1, List.nodup_cons, List.mem_append, not_or, List.nodup_append] at nd
  obtain ⟨⟨m1, m2⟩, m3, m4, m5⟩ := nd
  refine ⟨⟨hq, pm, ?_, h.ul, ur, ?_⟩, f, hs⟩
  · obtain ⟨S0, M0, h1, h2, h3⟩ := h.im
    refine ⟨S0, M0, h1, h2.trans f h3, fun i hi => ?_⟩
    have hl := h2.len
    rw [e1] at hi
    have hi : i = q ∨ i ∈ p :: t' :: e :: as' ∨ i ∈ us := by
      rcases List.mem_cons.mp hi with z | z
      · exact .inl z
      · exact .inr (List.mem_append.mp z)
    have h4 : ∀ j ∈ p :: t :: e :: as, j ∈ M0 ∨ S0.length ≤ j := fun j hj => h3 j (List.mem_cons_of_mem _ (by rw [e1]; exact List.mem_append_left _ hj))
    rcases hi with z | z | z
    · exact h3 i (by rw [z]; exact List.mem_cons_self)
    · rcases hold i z with y | y
      · exact h4 i y
      · exact .inr (by omega)
    · exact h3 i (List.mem_cons_of_mem _ (by rw [e1]; exact List.mem_append_right _ z))
  · rw [e1, List.nodup_cons, List.mem_append, not_or, List.nodup_append]
    refine ⟨⟨fun z => ?_, m2⟩, pm.nd, m4, fun a ha b hb z => ?_⟩
    · rcases hold q z with y | y
      · exact m1 y
      · have := hlt q List.mem_cons_self; omega
    · rcases hold a ha with y | y
      · exact m5 a y b hb z
      · have := hlt b (List.mem_cons_of_mem _ (by rw [e1]; exact List.mem_append_right _ hb)); omega
theorem Sc.mv {as' : List Nat} (h : Sc CS CP CC o S q p t e as c l u w us B s n M) (m : Mv CP S p t e as B S' as' s') : SMv CS CP CC o S q p t e as c l u w us B S' t as' s' n M := by
  have nd := h.nd
  simp only [List.nodup_cons, List.mem_cons, List.mem_append, not_or, List.nodup_append] at nd
  obtain ⟨⟨a1, a2, a3, a4, a5⟩, ⟨b1, b2, b3, b4⟩, ⟨c1, c2, c3⟩, ⟨d1, d2⟩, e1, e2, e3⟩ := nd
  have hq := h.hq
  refine h.upd (m.f.at hq ?_) m.m (m.f.mono fun i hi => ?_) (fun i hi => ?_) fun k a r h1 h2 => ?_
  · simp only [List.mem_cons, not_or]; exact ⟨a2, a3, a4⟩
  · simp only [List.mem_cons, List.mem_append] at hi ⊢
    rcases hi with z | z | z
    · exact .inr (.inr (.inl z))
    · exact .inr (.inr (.inr (.inl z)))
    · exact .inr (.inr (.inr (.inr (.inl z))))
  · rcases List.mem_cons.mp hi with z | z
    · exact .inl (by rw [z]; exact List.mem_cons_self)
    · rcases m.s i z with y | y
      · exact .inl (List.mem_cons_of_mem _ y)
      · exact .inr y
  · have h3 := h.ur k a r h1 h2
    have ha := List.mem_of_getElem? h1
    refine m.f.at h3 ?_
    simp only [List.mem_cons, not_or]
    refine ⟨?_, ?_, ?_⟩
    · rintro rfl; exact c3 ha
    · rintro rfl; exact d2 ha
    · exact fun z => e3 a z a ha rfl
theorem Sc.app {T : Store} (h : Sc CS CP CC o S q p t e as c l u w us B s n M) : SMv CS CP CC o S q p t e as c l u w us B (S ++ T) t as s n M := h.mv (mv_app h.pm)
end
end K07
set_option Elab.async false
set_option linter.all false
set_option maxRecDepth 100000
set_option maxHeartbeats 2000000
set_option exponentiation.threshold 5000
namespace K07
open PySem PySem.Spec D3 K20 K11
open K03 hiding Sc SMv scF Imm
end K07
set_option Elab.async false
set_option linter.all false
set_option maxRecDepth 100000
set_option maxHeartbeats 2000000
set_option exponentiation.threshold 5000
namespace K07
open PySem PySem.Spec D3 K20 K11
open K03 hiding Sc SMv scF Imm
end K07
set_option Elab.async false
set_option linter.all false
set_option maxRecDepth 100000
set_option maxHeartbeats 2000000
set_option exponentiation.threshold 5000
namespace K07
open PySem PySem.Spec D3 K20 K11
open K03 hiding Sc SMv scF Imm
end K07
set_option Elab.async false
set_option linter.all false
set_option maxRecDepth 100000
set_option maxHeartbeats 2000000
set_option exponentiation.threshold 5000
namespace K07
open PySem PySem.Spec D3 K20 K11
open K03 hiding Sc SMv scF Imm
end K07
set_option Elab.async false
set_option linter.all false
set_option maxRecDepth 100000
set_option maxHeartbeats 2000000
set_option exponentiation.threshold 5000
namespace K13
open PySem PySem.Spec D3 K20 K11
open K03 hiding Sc SMv scF Imm

structure Two (CP : Addr) (S0 S : Store) (p1 t1 e1 : Nat) (a1 : List Nat) (B1 : Bk) (s1 : Ps) (p2 t2 e2 : Nat) (a2 : List Nat) (B2 : Bk) (s2 : Ps) : Prop where
  m1 : Pm CP S p1 t1 e1 a1 B1 s1
  m2 : Pm CP S p2 t2 e2 a2 B2 s2
  f : Frm [] S0 S
  f1 : ∀ i ∈ p1 :: t1 :: e1 :: a1, S0.length ≤ i
  f2 : ∀ i ∈ p2 :: t2 :: e2 :: a2, S0.length ≤ i
  dj : ∀ i ∈ p1 :: t1 :: e1 :: a1, i ∉ p2 :: t2 :: e2 :: a2
section
variable {CP : Addr} {S0 S S' : Store} {p1 t1 e1 p2 t2 e2 : Nat} {a1 a2 a' : List Nat} {B1 B2 : Bk} {s1 s2 s' : Ps}
theorem Two.mv (h : Two CP S0 S p1 t1 e1 a1 B1 s1 p2 t2 e2 a2 B2 s2) (m : Mv CP S p1 t1 e1 a1 B1 S' a' s') : Two CP S0 S' p1 t1 e1 a' B1 s' p2 t2 e2 a2 B2 s2 := by
  have hl2 : ∀ i ∈ p2 :: t2 :: e2 :: a2, i < S.length := fun i hi => by
    obtain ⟨x1, x2, x3, x4⟩ := h.m2.lt
    simp only [List.mem_cons] at hi
    rcases hi with rfl | rfl | rfl | z
    · exact x1
    · exact x2
    · exact x3
    · exact x4 i z
  have hl0 := h.f.len
  have key : ∀ i ∈ p1 :: t1 :: e1 :: a', i ∈ p1 :: t1 :: e1 :: a1 ∨ S.length ≤ i := fun i hi => by
    simp only [List.mem_cons] at hi ⊢
    rcases hi with z | z | z | z
    · exact .inl (.inl z)
    · exact .inl (.inr (.inl z))
    · exact .inl (.inr (.inr (.inl z)))
    · rcases m.s i z with w | w
      · exact .inl (.inr (.inr (.inr w)))
      · exact .inr w
  refine ⟨m.m, h.m2.frm m.f fun i hi z => h.dj i (List.mem_cons_of_mem _ z) hi, h.f.trans m.f fun i hi => .inr (h.f1 i (List.mem_cons_of_mem _ hi)), fun i hi => ?_, h.f2, fun i hi z => ?_⟩
  · rcases key i hi with w | w
    · exact h.f1 i w
    · omega
  · rcases key i hi with w | w
    · exact h.dj i w z
    · have := hl2 i z
      omega
end
end K13
set_option Elab.async false
set_option linter.all false
set_option maxRecDepth 100000
set_option maxHeartbeats 2000000
namespace K09
open PySem PySem.Spec PyProof.Rows L2 D3
abbrev c_LETTERS : Dv := .str "abcdefghijklmnopqrstuvwxyz"
abbrev c_MAX_ITEMS : Dv := .int 6
abbrev c_MAX_LETTERS : Dv := .int 8
abbrev c_MAX_REFRAINS : Dv := .int 60
abbrev c_MAX_VERSES : Dv := .int 4
def t_Lbegun (Wd : WXd) : TSd :=
    (sSeq (sAsg (eC (.int 0)) (gNm 1))
    (sSeq (sFor (iSeq (eVar 0)) (gNm 2) (sAsg (eOp dMod (eOp dAdd (eOp dAdd (eOp dMul (eVar 1) (eC (.int 48271))) (eOp dMul (eVar 2) (eC (.int 69621)))) (eC (.int 11))) (eC (.int 2147483647))) (gNm 1)))
    (sRet (eLst (aCons (eArgs dList (aCons (eVar 0) aNil)) (aCons (eOp dMul (eVar 1) (eArgs dInt (aCons (eOp dGt (eArgs dLen (aCons (eVar 0) aNil)) (eC (.int 2))) aNil))) aNil))))))
def t_Ltake (Wd : WXd) : TSd :=
    (sSeq (sIf (cVal (eOp dEq (eOp dIx (eVar 0) (eC (.int 0))) (eLst aNil))) (sSeq (sAsg (eOp dMod (eArgs dInt (aCons (eOp dMul (eOp dIx (eVar 0) (eC (.int 1))) (eC (.int 48271))) aNil)) (eC (.int 2147483647))) (gSb (eVar 0) (eC (.int 1)) dSetL))
    (sRet (eOp dMod (eOp dDiv (eOp dIx (eVar 0) (eC (.int 1))) (eC (.int 7))) (eVar 1)))) sNext)
    (sSeq (sAsg (eOp dIx (eOp dIx (eVar 0) (eC (.int 0))) (eC (.int 0))) (gNm 2))
    (sSeq (sAsg (eOp dDiv (eVar 2) (eVar 1)) (gSb (eOp dIx (eVar 0) (eC (.int 0))) (eC (.int 0)) dSetL))
    (sSeq (sIf (cOr (cVal (eOp dEq (eOp dIx (eOp dIx (eVar 0) (eC (.int 0))) (eC (.int 0))) (eC (.int 0)))) (cVal (eOp dEq (eOp dIx (eOp dIx (eVar 0) (eC (.int 0))) (eC (.int 0))) (eUn dNeg (eC (.int 1)))))) (sDrop (eBM "list" dPop (eOp dIx (eVar 0) (eC (.int 0))) (aCons (eC (.int 0)) aNil))) sNext)
    (sRet (eOp dMod (eArgs dInt (aCons (eVar 2) aNil)) (eVar 1)))))))
def t_Lbook (sp_Ltake : Spd) (Wd : WXd) : TSd :=
    (sSeq (sPar 2 3 (aCons (eOp dAdd (eC (.int 1)) (eCall sp_Ltake Wd (aCons (eVar 0) (aCons (eVar 1) aNil)))) (aCons (eLst aNil) aNil)))
    (sSeq (sAsg (eLst (aCons (eC (.str "la")) (aCons (eC (.str "lu")) (aCons (eC (.str "lo")) (aCons (eC (.str "a")) (aCons (eC (.str "zzzzzzzz")) (aCons (eC (.str "la")) aNil))))))) (gNm 4))
    (sSeq (sFor (iRg1 (aCons (eVar 2) aNil)) (gNm 5) (sSeq (sAsg (eLst aNil) (gNm 6))
    (sSeq (sFor (iRg1 (aCons (eOp dIx (eLst (aCons (eC (.int 1)) (aCons (eC (.int 2)) (aCons (eC (.int 2)) (aCons (eC (.int 3)) (aCons (eC (.int 4)) aNil)))))) (eCall sp_Ltake Wd (aCons (eVar 0) (aCons (eC (.int 5)) aNil)))) aNil)) (gNm 7) (sSeq (sAsg (eLst aNil) (gNm 8))
    (sSeq (sFor (iRg1 (aCons (eOp dIx (eLst (aCons (eC (.int 1)) (aCons (eC (.int 2)) (aCons (eC (.int 2)) (aCons (eC (.int 3)) (aCons (eC (.int 6)) aNil)))))) (eCall sp_Ltake Wd (aCons (eVar 0) (aCons (eC (.int 5)) aNil)))) aNil)) (gNm 9) (sSeq (sAsg (eOp dSub (eOp dSub (eVar 2) (eVar 5)) (eC (.int 1))) (gNm 10))
    (sSeq (sAsg (eOp dIx (eLst (aCons (eOp dAdd (eC (.int 1)) (eCall sp_Ltake Wd (aCons (eVar 0) (aCons (eArgs dMax (aCons (eC (.int 1)) (aCons (eVar 10) aNil))) aNil)))) (aCons (eC (.int 1)) aNil))) (eCall sp_Ltake Wd (aCons (eVar 0) (aCons (eC (.int 2)) aNil)))) (gNm 11))
    (sDrop (eBM "list" dAppend (eVar 8) (aCons (eIf (cAnd (cVal (eOp dGt (eVar 10) (eC (.int 0)))) (cVal (eOp dGt (eCall sp_Ltake Wd (aCons (eVar 0) (aCons (eC (.int 3)) aNil))) (eC (.int 0))))) (eOp dAdd (eVar 5) (eVar 11)) (eOp dIx (eVar 4) (eCall sp_Ltake Wd (aCons (eVar 0) (aCons (eC (.int 6)) aNil))))) aNil))))))
    (sDrop (eBM "list" dAppend (eVar 6) (aCons (eArgs dTuple (aCons (eVar 8) aNil)) aNil))))))
    (sDrop (eBM "list" dAppend (eVar 3) (aCons (eArgs dTuple (aCons (eVar 6) aNil)) aNil))))))
    (sRet (eArgs dTuple (aCons (eVar 3) aNil))))))
def t_Lalike (sp_Lalike_rec : Spd) (Wd : WXd) : TSd :=
    (sSeq (sIf (cVal (eOp dIs (eVar 1) (eC .non))) (sRet (eOp dIs (eVar 0) (eC .non))) sNext)
    (sSeq (sIf (cVal (eArgs dIsi (aCons (eVar 1) (aCons (eC (.ty "bool")) aNil)))) (sRet (eAnd (eArgs dIsi (aCons (eVar 0) (aCons (eC (.ty "bool")) aNil))) (eOp dEq (eVar 0) (eVar 1)))) sNext)
    (sSeq (sIf (cVal (eArgs dIsi (aCons (eVar 1) (aCons (eC (.ty "int")) aNil)))) (sRet (eAnd (eArgs dIsi (aCons (eVar 0) (aCons (eC (.ty "int")) aNil))) (eAnd (eNot (eArgs dIsi (aCons (eVar 0) (aCons (eC (.ty "bool")) aNil)))) (eOp dEq (eVar 0) (eVar 1))))) sNext)
    (sSeq (sIf (cVal (eArgs dIsi (aCons (eVar 1) (aCons (eC (.ty "str")) aNil)))) (sRet (eAnd (eArgs dIsi (aCons (eVar 0) (aCons (eC (.ty "str")) aNil))) (eOp dEq (eVar 0) (eVar 1)))) sNext)
    (sSeq (sIf (cOr (cVal (eOp dNe (eArgs dIsi (aCons (eVar 1) (aCons (eC (.ty "tuple")) aNil))) (eArgs dIsi (aCons (eVar 0) (aCons (eC (.ty "tuple")) aNil))))) (cVal (eOp dNe (eArgs dIsi (aCons (eVar 1) (aCons (eC (.ty "list")) aNil))) (eArgs dIsi (aCons (eVar 0) (aCons (eC (.ty "list")) aNil)))))) (sRet (eC (.bl false))) sNext)
    (sSeq (sIf (cVal (eOp dNe (eArgs dLen (aCons (eVar 0) aNil)) (eArgs dLen (aCons (eVar 1) aNil)))) (sRet (eC (.bl false))) sNext)
    (sSeq (sFor (iRg1 (aCons (eArgs dLen (aCons (eVar 1) aNil)) aNil)) (gNm 2) (sIf (cNot (cVal (eCall sp_Lalike_rec Wd (aCons (eOp dIx (eVar 0) (eVar 2)) (aCons (eOp dIx (eVar 1) (eVar 2)) aNil))))) (sRet (eC (.bl false))) sNext))
    (sRet (eC (.bl true))))))))))
def t_is_word (Wd : WXd) : TSd :=
    (sRet (eArgs dIsi (aCons (eVar 0) (aCons (eC (.ty "str")) aNil))))
def t_is_valid_item (sp_is_word : Spd) (Wd : WXd) : TSd :=
    (sSeq (sIf (cVal (eCall sp_is_word Wd (aCons (eVar 2) aNil))) (sRet (eAnd (eChain dLe dLe (eC (.int 1)) (eArgs dLen (aCons (eVar 2) aNil)) (eC c_MAX_LETTERS)) (eArgs dAll (aCons (eLc (iStr (eVar 2)) (Tg.one 3) cYes (eOp (dIn false) (eVar 3) (eC c_LETTERS)) [3]) aNil)))) sNext)
    (sRet (eChain dLt dLt (eVar 1) (eVar 2) (eArgs dLen (aCons (eVar 0) aNil)))))
def t_first_invalid_verse (sp_is_valid_item : Spd) (Wd : WXd) : TSd :=
    (sSeq (sAsg (eOp dIx (eVar 0) (eVar 1)) (gNm 2))
    (sSeq (sIf (cNot (cVal (eChain dLe dLe (eC (.int 1)) (eArgs dLen (aCons (eVar 2) aNil)) (eC c_MAX_VERSES)))) (sRet (eUn dNeg (eC (.int 1)))) sNext)
    (sSeq (sFor (iEnumD (aCons (eVar 2) aNil)) (gUnp 2 (gsCons (gNm 3) (gsCons (gNm 4) gsNil))) (sIf (cOr (cNot (cVal (eChain dLe dLe (eC (.int 1)) (eArgs dLen (aCons (eVar 4) aNil)) (eC c_MAX_ITEMS)))) (cNot (cVal (eArgs dAll (aCons (eLc (iSeq (eVar 4)) (Tg.one 5) cYes (eCall sp_is_valid_item WNo (aCons (eVar 0) (aCons (eVar 1) (aCons (eVar 5) aNil)))) [5]) aNil))))) (sRet (eVar 3)) sNext))
    (sRet (eC .non)))))
def t_validate_book (sp_first_invalid_verse : Spd) (Wd : WXd) : TSd :=
    (sSeq (sIf (cVal (eOp dEq (eArgs dLen (aCons (eVar 0) aNil)) (eC (.int 0)))) sNever sNext)
    (sFor (iRg1 (aCons (eArgs dLen (aCons (eVar 0) aNil)) aNil)) (gNm 1) (sSeq (sAsg (eIf (cVal (eOp dEq (eVar 1) (eC c_MAX_REFRAINS))) (eUn dNeg (eC (.int 1))) (eCall sp_first_invalid_verse Wd (aCons (eVar 0) (aCons (eVar 1) aNil)))) (gNm 2))
    (sIf (cVal (eOp dIsNot (eVar 2) (eC .non))) sNever sNext))))
def t_all_items (Wd : WXd) : TSd :=
    (sRet (eLc2 (iSeq (eVar 0)) (Tg.one 1) cYes (iSeq (eVar 1)) (Tg.one 2) cYes (eVar 2) [1, 2] [2]))
def t_find_reachable (sp_all_items : Spd) (sp_is_word : Spd) (Wd : WXd) : TSd :=
    (sSeq (sAsg (eOp dAdd (eLst (aCons (eC (.bl true)) aNil)) (eOp dMul (eLst (aCons (eC (.bl false)) aNil)) (eOp dSub (eArgs dLen (aCons (eVar 0) aNil)) (eC (.int 1))))) (gNm 1))
    (sSeq (sFor (iEnumD (aCons (eVar 0) aNil)) (gUnp 2 (gsCons (gNm 2) (gsCons (gNm 3) gsNil))) (sIf (cVal (eOp dIx (eVar 1) (eVar 2))) (sFor (iSeq (eCall sp_all_items Wd (aCons (eVar 3) aNil))) (gNm 4) (sIf (cNot (cVal (eCall sp_is_word Wd (aCons (eVar 4) aNil)))) (sAsg (eC (.bl true)) (gSb (eVar 1) (eVar 4) dSetL)) sNext)) sNext))
    (sRet (eLc (iEnumD (aCons (eVar 1) aNil)) (Tg.many [2, 5]) (cVal (eVar 5)) (eVar 2) [2, 5]))))
def t_Lreached (Wd : WXd) : TSd :=
    (sSeq (sPar 1 2 (aCons (eLst aNil) (aCons (eLst (aCons (eC (.int 0)) aNil)) aNil)))
    (sSeq (sWhile (cVal (eOp dNe (eVar 2) (eLst aNil))) (sSeq (sAsg (eBM "list" dPop (eVar 2) aNil) (gNm 3))
    (sIf (cVal (eOp (dIn true) (eVar 3) (eVar 1))) (sSeq (sDrop (eBM "list" dAppend (eVar 1) (aCons (eVar 3) aNil)))
    (sFor (iSeq (eOp dIx (eVar 0) (eVar 3))) (gNm 4) (sAsg (eOp dAdd (eVar 2) (eLc (iSeq (eVar 4)) (Tg.one 5) (cNot (cVal (eArgs dIsi (aCons (eVar 5) (aCons (eC (.ty "str")) aNil))))) (eVar 5) [5])) (gNm 2)))) sNext)))
    (sRet (eArgs dSortedI (aCons (eVar 1) aNil)))))
def t_law (sp_Lbegun : Spd) (sp_Lbook : Spd) (sp_Lchain : Spd) (sp_Lturns : Spd) (sp_Ltake : Spd) (sp_Lusage : Spd) (sp_Lalike : Spd) (sp_advance_songs : Spd) (sp_Loccurrences : Spd) (sp_period : Spd) (sp_Lis_period : Spd) (sp_Ldivisor : Spd) (sp_average_length : Spd) (sp_frequencies : Spd) (sp_Lwords : Spd) (Wd : WXd) : TSd :=
    (sSeq (sAsg (eCall sp_Lbegun Wd (aCons (eVar 0) aNil)) (gNm 1))
    (sSeq (sFor (iRg1 (aCons (eC (.int 4)) aNil)) (gNm 2) (sSeq (sAsg (eIf (cVal (eOp dLt (eVar 2) (eC (.int 3)))) (eCall sp_Lbook Wd (aCons (eVar 1) (aCons (eC (.int 12)) aNil))) (eCall sp_Lchain Wd (aCons (eVar 1) aNil))) (gNm 3))
    (sSeq (sAsg (eCall sp_Lturns Wd (aCons (eVar 1) (aCons (eVar 3) aNil))) (gNm 4))
    (sSeq (sFor (iSeq (eTup (aCons (eCall sp_Ltake Wd (aCons (eVar 1) (aCons (eC (.int 9)) aNil))) (aCons (eOp dSub (eOp dPow (eC (.int 10)) (eC (.int 18))) (eCall sp_Ltake Wd (aCons (eVar 1) (aCons (eOp dPow (eC (.int 10)) (eC (.int 6))) aNil)))) aNil)))) (gNm 5) (sSeq (sAsg (eCall sp_Lusage Wd (aCons (eVar 3) (aCons (eVar 4) (aCons (eVar 5) aNil)))) (gUnp 2 (gsCons (gNm 6) (gsCons (gNm 7) gsNil))))
    (sIf (cNot (cVal (eCall sp_Lalike Wd (aCons (eCall sp_advance_songs Wd (aCons (eVar 3) (aCons (eVar 4) (aCons (eVar 5) aNil)))) (aCons (eTup (aCons (eCall sp_Loccurrences Wd (aCons (eVar 3) (aCons (eVar 6) (aCons (eC .non) aNil)))) (aCons (eVar 7) aNil))) aNil))))) (sRet (eC (.bl false))) sNext)))
    (sSeq (sAsg (eCall sp_period Wd (aCons (eVar 3) aNil)) (gUnp 2 (gsCons (gNm 5) (gsCons (gNm 8) gsNil))))
    (sSeq (sIf (cOr (cVal (eOp dLt (eVar 5) (eC (.int 1)))) (cOr (cNot (cVal (eCall sp_Lis_period Wd (aCons (eVar 3) (aCons (eVar 4) (aCons (eVar 5) aNil)))))) (cNot (cVal (eCall sp_Lis_period Wd (aCons (eVar 3) (aCons (eOp dMulT (eTup (aCons (eC (.int 0)) aNil)) (eArgs dLen (aCons (eVar 3) aNil))) (aCons (eVar 5) aNil)))))))) (sRet (eC (.bl false))) sNext)
    (sSeq (sFor (iSeq (eTup (aCons (eC (.int 2)) (aCons (eC (.int 3)) aNil)))) (gNm 9) (sIf (cAnd (cVal (eOp dEq (eOp dMul (eOp dDiv (eVar 5) (eVar 9)) (eVar 9)) (eVar 5))) (cVal (eCall sp_Lis_period Wd (aCons (eVar 3) (aCons (eVar 4) (aCons (eOp dDiv (eVar 5) (eVar 9)) aNil)))))) (sRet (eC (.bl false))) sNext))
    (sSeq (sAsg (eVar 5) (gNm 10))
    (sSeq (sWhile (cOr (cVal (eOp dEq (eOp dMul (eOp dDiv (eVar 10) (eC (.int 2))) (eC (.int 2))) (eVar 10))) (cVal (eOp dEq (eOp dMul (eOp dDiv (eVar 10) (eC (.int 3))) (eC (.int 3))) (eVar 10)))) (sAsg (eIf (cVal (eOp dEq (eOp dMul (eOp dDiv (eVar 10) (eC (.int 2))) (eC (.int 2))) (eVar 10))) (eOp dDiv (eVar 10) (eC (.int 2))) (eOp dDiv (eVar 10) (eC (.int 3)))) (gNm 10)))
    (sSeq (sAsg (eOp dIx (eCall sp_Lusage Wd (aCons (eVar 3) (aCons (eVar 4) (aCons (eVar 5) aNil)))) (eC (.int 0))) (gNm 6))
    (sSeq (sAsg (eCall sp_Ldivisor Wd (aCons (eVar 8) (aCons (eVar 5) aNil))) (gNm 11))
    (sSeq (sIf (cOr (cVal (eOp dNe (eVar 10) (eC (.int 1)))) (cVal (eOp dNe (eVar 8) (eCall sp_Loccurrences Wd (aCons (eVar 3) (aCons (eVar 6) (aCons (eC .non) aNil))))))) (sRet (eC (.bl false))) sNext)
    (sSeq (sIf (cNot (cVal (eCall sp_Lalike Wd (aCons (eCall sp_average_length Wd (aCons (eVar 3) aNil)) (aCons (eTup (aCons (eOp dDiv (eVar 8) (eVar 11)) (aCons (eOp dDiv (eVar 5) (eVar 11)) aNil))) aNil))))) (sRet (eC (.bl false))) sNext)
    (sSeq (sAsg (eCall sp_frequencies Wd (aCons (eVar 3) aNil)) (gNm 12))
    (sSeq (sIf (cVal (eOp dNe (eArgs dSortedK (aCons (eVar 12) aNil)) (eCall sp_Lwords Wd (aCons (eVar 3) aNil)))) (sRet (eC (.bl false))) sNext)
    (sLock (sFor (iKeysD (eVar 12)) (gNm 13) (sSeq (sAsg (eCall sp_Loccurrences Wd (aCons (eVar 3) (aCons (eVar 6) (aCons (eVar 13) aNil)))) (gNm 14))
    (sSeq (sAsg (eCall sp_Ldivisor Wd (aCons (eVar 14) (aCons (eVar 8) aNil))) (gNm 11))
    (sIf (cNot (cVal (eCall sp_Lalike Wd (aCons (eOp dKGet (eVar 12) (eVar 13)) (aCons (eTup (aCons (eOp dDiv (eVar 14) (eVar 11)) (aCons (eOp dDiv (eVar 8) (eVar 11)) aNil))) aNil))))) (sRet (eC (.bl false))) sNext))))))))))))))))))))
    (sRet (eC (.bl true)))))
end K09
set_option Elab.async false
set_option linter.all false
set_option maxRecDepth 100000
set_option maxHeartbeats 2000000
set_option exponentiation.threshold 5000
namespace K09
open PySem PySem.Spec D3 K20 K11
theorem flat6 {B : Bk} (hB : BkOk B) {k : Nat} {r : List (List Itm)} (hr : B[k]? = some r) : (r.flatMap id).length ≤ 24 := by
  have hrow := hB.row hr
  have : (r.flatMap id).length ≤ 6 * r.length := by
    have hv6 : ∀ v ∈ r, v.length ≤ 6 := fun v hv => (hB.verse hr hv).2.1
    clear hr hrow
    induction r with
    | nil => simp
    | cons v r ih =>
      rw [List.flatMap_cons, List.length_append, List.length_cons]
      have h1 := ih fun v hv => hv6 v (List.mem_cons_of_mem _ hv)
      have h2 := hv6 v List.mem_cons_self
      show v.length + _ ≤ _
      omega
  omega
def spAllItems : Spd := fun ds S Q E => ∃ r : List (List Itm), ds = [rfD r] ∧ (r.flatMap id).length < 100000 ∧ Q (.obj S.length) (S ++ [.lst ((r.flatMap id).map Itm.d)])
theorem r_all_items : ∀ ds S Qd Ed, spAllItems ds S Qd Ed → StClo S → t_all_items (WEx S.length Ed) { nx := fun _ S' => Gc S.length Qd .non S', rt := Gc S.length Qd } (startD 3 ds) S := by
  rintro _ S Qd Ed ⟨r, rfl, hl, h⟩ hc
  unfold t_all_items
  dsimp! only []
  refine eLc2_map (S1 := S) (jSeq (rfD r) (r.map vsD)) r vsD (fun v => jSeq (vsD v) (v.map Itm.d)) id (fun _ x => x.d) (fun _ x => x.d) (fun v => [some (rfD r), some (vsD v), none]) (fun v x => [some (rfD r), some (vsD v), some x.d]) (hw_seq (fun R hR => ?_) rfl) rfl (fun _ => rfl) (fun _ _ => rfl) (fun _ _ _ => rfl) hl ?_ ?_ ?_ ?_ ?_
  · dsimp! only []
    exact hR
  · intro v hv T K hK
    dsimp! only []
    exact hK
  · intro v hv T R hR
    refine hw_seq (S1 := S ++ T) (fun R' hR' => ?_) rfl _ hR
    dsimp! only []
    exact hR'
  · intro v hv x hx T K hK
    dsimp! only []
    exact hK
  · intro v hv x hx T K hK
    dsimp! only []
    exact hK
  · have e : (r.flatMap fun v => (id v).map fun x => x.d) = (r.flatMap id).map Itm.d := by rw [List.map_flatMap]
    rw [e]
    exact .inl h
def markI (l : List Bool) : Itm → List Bool
  | .ref n => l.set n.toNat true
  | .wd _ => l
def markStep (B : Bk) (l : List Bool) (k : Nat) : List Bool := if l.getD k false = true then ((B.getD k []).flatMap id).foldl markI l else l
def markK (B : Bk) (k : Nat) : List Bool := (List.range k).foldl (markStep B) ((List.replicate B.length false).set 0 true)
theorem markK_succ {B : Bk} {k : Nat} : markK B (k + 1) = markStep B (markK B k) k := by unfold markK; rw [List.range_succ, List.foldl_append]; rfl
theorem markI_len (l : List Bool) (x : Itm) : (markI l x).length = l.length := by cases x with
  | ref n => exact List.length_set
  | wd y => rfl
theorem marks_len : ∀ (v : List Itm) (l : List Bool), (v.foldl markI l).length = l.length
  | [], _ => rfl
  | x :: v, l => by rw [List.foldl_cons, marks_len v, markI_len]
theorem markK_len {B : Bk} : ∀ k, (markK B k).length = B.length
  | 0 => by unfold markK; simp
  | k + 1 => by
    rw [markK_succ]
    unfold markStep
    split
    · rw [marks_len, markK_len k]
    · exact markK_len k
theorem marks_get {N : Nat} : ∀ (v : List Itm) (l : List Bool) (j : Nat), l.length = N → j < N → (∀ n, Itm.ref n ∈ v → 0 ≤ n) → ((v.foldl markI l).getD j false = true ↔ l.getD j false = true ∨ Itm.ref (j : Int) ∈ v)
  | [], l, j, _, _, _ => by simp
  | x :: v, l, j, hl, hj, hn => by
    rw [List.foldl_cons, marks_get v (markI l x) j (by rw [markI_len]; exact hl) hj fun n h => hn n (List.mem_cons_of_mem _ h)]
    cases x with
    | wd y => simp [markI]
    | ref n =>
      have h0 := hn n List.mem_cons_self
      have e : (markI l (.ref n)).getD j false = true ↔ l.getD j false = true ∨ n = (j : Int) := by
        show (l.set n.toNat true).getD j false = true ↔ _
        rw [List.getD_eq_getElem?_getD, List.getD_eq_getElem?_getD, List.getElem?_set]
        by_cases c : n.toNat = j
        · have c' : n = (j : Int) := by omega
          rw [if_pos c, if_pos (by omega)]
          simp [c']
        · have c' : ¬ n = (j : Int) := by omega
          rw [if_neg c]
          simp [c']
      rw [e, List.mem_cons]
      have e2 : (Itm.ref (j : Int) = Itm.ref n) ↔ n = (j : Int) := ⟨fun h => by cases h; rfl, fun h => by rw [h]⟩
      rw [e2]
      constructor
      · rintro ((h | h) | h)
        · exact .inl h
        · exact .inr (.inl h)
        · exact .inr (.inr h)
      · rintro (h | h | h)
        · exact .inl (.inl h)
        · exact .inl (.inr h)
        · exact .inr h
theorem mark_inv {B : Bk} (hB : BkOk B) : ∀ k, k ≤ B.length →
    (∀ j, j < B.length → (markK B k).getD j false = true → Rch B j) ∧ (markK B k).getD 0 false = true ∧
    ∀ i : Nat, i < k → (markK B k).getD i false = true → ∀ r, B[i]? = some r → ∀ v ∈ r, ∀ n, Itm.ref n ∈ v → (markK B k).getD n.toNat false = true
  | 0, _ => by
    have hp := hB.pos
    refine ⟨fun j hj h => ?_, ?_, fun i hi => by omega⟩
    · unfold markK at h
      rw [List.range_zero, List.foldl_nil, List.getD_eq_getElem?_getD, List.getElem?_set] at h
      by_cases c : 0 = j
      · subst c; exact .root
      · rw [if_neg c, List.getElem?_replicate, if_pos hj] at h
        cases h
    · unfold markK
      rw [List.range_zero, List.foldl_nil, List.getD_eq_getElem?_getD, List.getElem?_set_self (by rw [List.length_replicate]; omega)]; rfl
  | k + 1, hk => by
    obtain ⟨h1, h2, h3⟩ := mark_inv hB k (by omega)
    obtain ⟨r, hr⟩ : ∃ r, B[k]? = some r := ⟨_, List.getElem?_eq_getElem (by omega)⟩
    have hgd : B.getD k [] = r := by rw [List.getD_eq_getElem?_getD, hr]; rfl
    have hl := markK_len (B := B) k
    rw [markK_succ]
    unfold markStep
    by_cases c : (markK B k).getD k false = true
    · rw [if_pos c, hgd]
      have hn : ∀ n, Itm.ref n ∈ r.flatMap id → (k : Int) < n ∧ n < B.length := fun n h => by
        obtain ⟨v, hv, hx⟩ := List.mem_flatMap.mp h
        exact hB.ref hr hv hx
      have hg : ∀ j, j < B.length → (((r.flatMap id).foldl markI (markK B k)).getD j false = true ↔ (markK B k).getD j false = true ∨ Itm.ref (j : Int) ∈ r.flatMap id) := fun j hj => marks_get _ _ j hl hj fun n h => by have := hn n h; omega
      refine ⟨fun j hj h => ?_, ?_, fun i hi h r' hr' v hv n hnv => ?_⟩
      · rcases (hg j hj).mp h with z | z
        · exact h1 j hj z
        · obtain ⟨v, hv, hx⟩ := List.mem_flatMap.mp z
          exact .step (h1 k (by omega) c) (by rw [Int.toNat_natCast]; exact hr) hv hx
      · exact (hg 0 (by omega)).mpr (.inl h2)
      · have hrf := hB.ref hr' hv hnv
        have hold : (markK B k).getD i false = true := by
          rcases (hg i (by omega)).mp h with z | z
          · exact z
          · have := hn i z
            omega
        refine (hg n.toNat (by omega)).mpr ?_
        by_cases e : i < k
        · exact .inl (h3 i e hold r' hr' v hv n hnv)
        · have e : i = k := by omega
          subst e
          rw [hr] at hr'
          cases hr'
          right
          have en : ((n.toNat : Nat) : Int) = n := by omega
          rw [en]
          exact List.mem_flatMap.mpr ⟨v, hv, hnv⟩
    · rw [if_neg c]
      refine ⟨h1, h2, fun i hi h r' hr' v hv n hnv => ?_⟩
      by_cases e : i < k
      · exact h3 i e h r' hr' v hv n hnv
      · have e : i = k := by omega
        subst e
        exact (c h).elim
theorem mark_iff {B : Bk} (hB : BkOk B) {j : Nat} (hj : j < B.length) : (markK B B.length).getD j false = true ↔ Rch B j := by
  obtain ⟨h1, h2, h3⟩ := mark_inv hB B.length (Nat.le_refl _)
  refine ⟨h1 j hj, fun h => ?_⟩
  have key : ∀ x : Int, Rch B x → (markK B B.length).getD x.toNat false = true := fun x hx => by
    induction hx with
    | root => exact h2
    | step a b c d ih => exact h3 _ (at_lt b) ih _ b _ c _ d
  exact key j h
def reachL (B : Bk) : List Nat := (List.range B.length).filter fun j => (markK B B.length).getD j false
theorem mem_reach {B : Bk} (hB : BkOk B) {j : Nat} : j ∈ reachL B ↔ j < B.length ∧ Rch B j := by
  unfold reachL
  rw [List.mem_filter, List.mem_range]
  constructor
  · rintro ⟨h1, h2⟩
    exact ⟨h1, (mark_iff hB h1).mp h2⟩
  · rintro ⟨h1, h2⟩
    exact ⟨h1, (mark_iff hB h1).mpr h2⟩
theorem filter_map_if {α β : Type} (p : α → Bool) (f : α → β) : ∀ l : List α, l.filterMap (fun x => if p x = true then some (f x) else none) = (l.filter p).map f
  | [] => rfl
  | x :: l => by
    have ih := filter_map_if p f l
    by_cases c : p x = true
    · rw [List.filterMap_cons_some (b := f x) (by rw [if_pos c]), List.filter_cons_of_pos c, List.map_cons, ih]
    · rw [List.filterMap_cons_none (by rw [if_neg c]), List.filter_cons_of_neg c, ih]
theorem zipIdx_range (l : List Bool) : l.zipIdx = (List.range l.length).map fun j => (l.getD j false, j) := by
  refine List.ext_getElem? fun i => ?_
  rw [List.getElem?_zipIdx, List.getElem?_map]
  by_cases h : i < l.length
  · have e : l.getD i false = l[i] := by rw [List.getD_eq_getElem?_getD, List.getElem?_eq_getElem h]; rfl
    rw [List.getElem?_range h, List.getElem?_eq_getElem h, Option.map_some, Option.map_some, e, Nat.zero_add]
  · rw [List.getElem?_eq_none (by omega), List.getElem?_eq_none (by rw [List.length_range]; omega)]; rfl
def spReach : Spd := fun ds S Q E => ∃ B : Bk, ds = [bkD B] ∧ BkOk B ∧ ∀ (T : Store) (i : Nat), StClo (S ++ T) → getL (S ++ T) i = some ((reachL B).map fun j : Nat => Dv.int j) → Q (.obj i) (S ++ T)
theorem r_reach : ∀ ds S Qd Ed, spReach ds S Qd Ed → StClo S → t_find_reachable spAllItems K20.spIsWord (WEx S.length Ed) { nx := fun _ S' => Gc S.length Qd .non S', rt := Gc S.length Qd } (startD 6 ds) S := by
  rintro _ S Qd Ed ⟨B, rfl, hB, h⟩ hc
  have hsm := hB.le
  have hpos := hB.pos
  unfold t_find_reachable
  refine seqI ?_
  simp! only [bkD, List.length_map]
  have hn1 : ((B.length : Int) - 1).toNat = B.length - 1 := by omega
  rw [hn1]
  refine ⟨by omega, by omega, Nat.le_of_lt (small_line (by omega)), by rw [List.length_replicate]; exact Nat.le_of_lt (small_line (by omega)), ?_⟩
  obtain ⟨Sb, hSb⟩ : ∃ Sb, Sb = S ++ [Mo.lst [Dv.bl true], Mo.lst [Dv.bl false], Mo.lst (List.replicate (B.length - 1) (Dv.bl false))] := ⟨_, rfl⟩
  have hSbl : Sb.length = S.length + 3 := by rw [hSb, List.length_append]; rfl
  have hm0 : (markK B 0).map Dv.bl = Dv.bl true :: List.replicate (B.length - 1) (Dv.bl false) := by
    obtain ⟨m, hm⟩ : ∃ m, B.length = m + 1 := ⟨B.length - 1, by omega⟩
    unfold markK
    rw [hm, List.range_zero, List.foldl_nil, List.replicate_succ, List.set_cons_zero, List.map_cons, List.map_replicate]; rfl
  have est : S ++ [Mo.lst [Dv.bl true], Mo.lst [Dv.bl false], Mo.lst (List.replicate (B.length - 1) (Dv.bl false)), Mo.lst (Dv.bl true :: List.replicate (B.length - 1) (Dv.bl false))] = Sb ++ [.lst ((markK B 0).map Dv.bl)] := by
    rw [hm0, hSb]; simp
  have hbls : ∀ (l : List Bool) (n : Nat), (Mo.lst (l.map Dv.bl)).clo n = true := fun l n => cloL_map fun _ _ => rfl
  have hcb : StClo Sb := by
    rw [hSb]
    refine stclo_app hc _ fun m hm n => ?_
    simp only [List.mem_cons, List.not_mem_nil, or_false] at hm
    rcases hm with rfl | rfl | rfl
    · rfl
    · rfl
    · exact cloL_iff.mpr fun d hd => by rw [List.eq_of_mem_replicate hd]; rfl
  rw [est, ← hSbl]
  refine seqI ?_
  refine sFor_inv (S1 := Sb ++ [.lst ((markK B 0).map Dv.bl)]) (jEnum (bkD B) (B.map rfD)) (fun k σ S' => ∃ (T : Store) (o2 o3 o4 : Option Dv), S' = Sb ++ .lst ((markK B k).map Dv.bl) :: T ∧ StClo S' ∧ σ = [some (bkD B), some (.obj Sb.length), o2, o3, o4, none]) (hw_enum (fun R hR => ?_) rfl)
    ⟨[], none, none, none, rfl, stclo_one hcb (hbls _ _), rfl⟩ (fun i σ S' _ hP => rfl) ?_ ?_
  · dsimp! only []
    exact hR
  · rintro k d σ S' hd ⟨T, o2, o3, o4, rfl, hcl, rfl⟩ K hK
    obtain ⟨r, hr, rfl⟩ := jEnum_get hd
    have hk := at_lt hr
    have hgd : B.getD k [] = r := by rw [List.getD_eq_getElem?_getD, hr]; rfl
    have hml := markK_len (B := B) k
    have hstep := markK_succ (B := B) (k := k)
    unfold markStep at hstep
    rw [hgd] at hstep
    have h24 := flat6 hB hr
    have hin : ∀ n, Itm.ref n ∈ r.flatMap id → 0 ≤ n ∧ n < B.length := fun n h => by
      obtain ⟨v, hv, hx⟩ := List.mem_flatMap.mp h
      exact hB.within r (List.mem_of_getElem? hr) v hv n hx
    have hmk : ((markK B k).map Dv.bl)[k]? = some (.bl ((markK B k).getD k false)) := by
      rw [List.getElem?_map, List.getD_eq_getElem?_getD, List.getElem?_eq_getElem (by omega)]; rfl
    generalize markK B k = l at *
    generalize hits : r.flatMap id = its at *
    simp! only []
    refine ifI ?_
    simp! only [atI_nat hmk]
    by_cases c : l.getD k false = true
    · rw [if_pos c] at hstep
      rw [if_pos c]
      refine sFor_inv (S1 := Sb ++ .lst (l.map Dv.bl) :: (T ++ [.lst (its.map Itm.d)])) (jSeq (.obj (Sb.length + (T.length + 1))) (its.map Itm.d)) (fun m σ S' => ∃ o4 : Option Dv, S' = Sb ++ .lst (((its.take m).foldl markI l).map Dv.bl) :: (T ++ [.lst (its.map Itm.d)]) ∧
        σ = [some (bkD B), some (.obj Sb.length), some (.int k), some (rfD r), o4, none]) (hw_seq (fun R hR => ?_) ?_) ⟨o4, rfl, rfl⟩ (fun i σ S' _ ⟨o, hP, _⟩ => ?_) ?_ ?_
      · dsimp! only []
        refine ⟨r, rfl, by rw [hits]; omega, ?_⟩
        rw [hits]
        dsimp! only []
        exact hR
      · show getL _ _ = _
        rw [st_getLk, getL_cs, st_getL0]; rfl
      · rw [hP]
        show getL _ _ = _
        rw [st_getLk, getL_cs, st_getL0]; rfl
      · rintro m d σ S' hd2 ⟨o4', rfl, rfl⟩ K2 hK2
        obtain ⟨x, hx, rfl⟩ := jSeq_get hd2
        have hxi : x ∈ its := List.mem_of_getElem? hx
        have hnext : (its.take (m + 1)).foldl markI l = markI ((its.take m).foldl markI l) x := by rw [take_succ hx, List.foldl_append]; rfl
        have hll : ((its.take m).foldl markI l).length = B.length := by rw [marks_len]; exact hml
        generalize (its.take m).foldl markI l = l2 at *
        simp! only []
        refine ifI ?_
        simp! only []
        refine ⟨x, rfl, ?_⟩
        cases x with
        | wd y =>
          simp! only [Itm.isW]
          exact hK2 _ _ (.inl ⟨_, by rw [hnext]; rfl, rfl⟩)
        | ref n =>
          obtain ⟨n0, n1⟩ := hin n hxi
          have hixn : L2.ixN l2.length n = some n.toNat := ix_int n0 (by rw [hll]; exact n1)
          dsimp! only [Itm.isW, Itm.d, List.length_map, hixn]
          refine hK2 _ _ (.inl ⟨_, ?_, rfl⟩)
          rw [hnext]
          show _ = Sb ++ Mo.lst ((l2.set n.toNat true).map Dv.bl) :: _
          rw [List.map_set]
      · rintro σ S' ⟨o4', rfl, rfl⟩
        rw [jSeq_len, List.take_length, ← hstep]
        refine hK _ _ (.inl ⟨_, _, _, _, rfl, ?_, rfl⟩)
        have h1 := stclo_one (m := .lst (its.map Itm.d)) hcl (clo_its _ _)
        have h2 := stclo_set (i := Sb.length) (m := .lst ((markK B (k + 1)).map Dv.bl)) h1 (hbls _ _)
        rw [List.append_assoc, st_set0] at h2
        exact h2
    · rw [if_neg c] at hstep
      rw [if_neg c]
      exact hK _ _ (.inl ⟨_, _, _, _, by rw [hstep], hcl, rfl⟩)
  · rintro σ S' ⟨T, o2, o3, o4, rfl, hcl, rfl⟩
    have e : (jEnum (bkD B) (B.map rfD)).items.length = B.length := jEnum_len
    rw [e] at hcl ⊢
    have hml := markK_len (B := B) B.length
    have hfin : ((markK B B.length).zipIdx).filterMap (fun p => if p.1 = true then some (Dv.int (p.2 : Nat)) else none) = (reachL B).map fun j : Nat => Dv.int j := by
      rw [zipIdx_range, List.filterMap_map, hml]
      unfold reachL
      exact filter_map_if _ _ _
    generalize markK B B.length = l at *
    simp! only []
    refine eLc_opt (S1 := Sb ++ .lst (l.map Dv.bl) :: T) (jEnum (.obj Sb.length) (l.map Dv.bl)) l.zipIdx (fun p => .tup [.int (p.2 : Nat), .bl p.1]) (fun p => if p.1 = true then some (Dv.int (p.2 : Nat)) else none) (hw_enum (fun R hR => ?_) getL_at) ?_ getL_at (by rw [List.length_zipIdx]; omega) hcl (fun p _ y hy => ?_) ?_ ?_
    · dsimp! only []
      exact hR
    · show ((l.map Dv.bl).zipIdx.map fun p => Dv.tup [.int (p.2 : Nat), p.1]) = _
      rw [List.zipIdx_map, List.map_map]; rfl
    · split at hy
      · cases hy; rfl
      · cases hy
    · rintro ⟨b, j⟩ hp K1 K0 h1 h0
      dsimp! only []
      cases b with
      | true => dsimp! only []; exact app_nil (h1 _ rfl)
      | false => dsimp! only []; exact app_nil (h0 rfl)
    · rw [hfin]
      have hcl2 : StClo (Sb ++ .lst (l.map Dv.bl) :: T ++ [.lst ((reachL B).map fun j : Nat => Dv.int j)]) := stclo_one hcl (cloL_map fun _ _ => rfl)
      have hg2 : getL (Sb ++ .lst (l.map Dv.bl) :: T ++ [.lst ((reachL B).map fun j : Nat => Dv.int j)]) (Sb ++ .lst (l.map Dv.bl) :: T).length = some ((reachL B).map fun j : Nat => Dv.int j) := getL_at
      have e2 : ∀ X : Store, Sb ++ .lst (l.map Dv.bl) :: T ++ X = S ++ ([Mo.lst [Dv.bl true], Mo.lst [Dv.bl false], Mo.lst (List.replicate (B.length - 1) (Dv.bl false))] ++ .lst (l.map Dv.bl) :: T ++ X) := fun X => by rw [hSb]; simp
      rw [e2] at hcl2 hg2 ⊢
      exact .inl (h _ _ hcl2 hg2)
end K09
set_option Elab.async false
set_option linter.all false
set_option maxRecDepth 100000
set_option maxHeartbeats 2000000
set_option exponentiation.threshold 5000
namespace K09
open PySem PySem.Spec D3 K20 K11
abbrev Wc := List (Str × Int)
def getS (cc : Wc) (y : Str) : Int := ((cc.find? fun p => decide (p.1 = y)).map (·.2)).getD 0
def putS (cc : Wc) (y : Str) (m : Int) : Wc := if (cc.any fun p => decide (p.1 = y)) = true then cc.map (fun p => if p.1 = y then (p.1, m) else p) else cc ++ [(y, m)]
def addS (cc : Wc) (y : Str) (o : Int) : Wc := putS cc y (getS cc y + o)
def keyS (cc : Wc) : List Str := cc.map (·.1)
theorem any_keyS {y : Str} {cc : Wc} : (cc.any fun p => decide (p.1 = y)) = true ↔ y ∈ keyS cc := by
  unfold keyS
  rw [List.any_eq_true, List.mem_map]
  constructor
  · rintro ⟨p, hp, e⟩
    exact ⟨p, hp, of_decide_eq_true e⟩
  · rintro ⟨p, hp, e⟩
    exact ⟨p, hp, decide_eq_true e⟩
theorem get_out {y : Str} : ∀ {cc : Wc}, y ∉ keyS cc → getS cc y = 0
  | [], _ => rfl
  | p :: cc, h => by
    have h1 : ¬ p.1 = y := fun z => h (by unfold keyS; rw [List.map_cons, z]; exact List.mem_cons_self)
    have ih := get_out (y := y) (cc := cc) fun z => h (by unfold keyS at z ⊢; rw [List.map_cons]; exact List.mem_cons_of_mem _ z)
    unfold getS at ih ⊢
    rw [List.find?_cons, decide_eq_false h1]
    exact ih
theorem put_keys {cc : Wc} {y : Str} {m : Int} : keyS (putS cc y m) = if y ∈ keyS cc then keyS cc else keyS cc ++ [y] := by
  unfold putS
  by_cases h : y ∈ keyS cc
  · rw [if_pos (any_keyS.mpr h), if_pos h]
    unfold keyS
    rw [List.map_map]
    refine List.map_congr_left fun p _ => ?_
    show (if p.1 = y then _ else _ : Str × Int).1 = p.1
    split <;> rfl
  · rw [if_neg (fun z => h (any_keyS.mp z)), if_neg h]
    unfold keyS
    rw [List.map_append]; rfl
theorem get_map {y z : Str} {m : Int} : ∀ (cc : Wc), getS (cc.map fun p => if p.1 = y then (p.1, m) else p) z = if z = y ∧ y ∈ keyS cc then m else getS cc z
  | [] => by
    rw [if_neg (by rintro ⟨_, h⟩; cases h)]; rfl
  | p :: cc => by
    have ih := get_map (y := y) (z := z) (m := m) cc
    unfold getS at ih ⊢
    rw [List.map_cons, List.find?_cons, List.find?_cons]
    by_cases e : p.1 = y
    · rw [if_pos e]
      by_cases q : p.1 = z
      · have hz : z = y := by rw [← q, e]
        show ((match decide (p.1 = z) with | true => some (p.1, m) | false => List.find? (fun p : Str × Int => decide (p.1 = z)) (cc.map fun p : Str × Int => if p.1 = y then (p.1, m) else p)).map (fun q : Str × Int => q.2)).getD 0 = _
        rw [decide_eq_true q, if_pos ⟨hz, by unfold keyS; rw [List.map_cons, e]; exact List.mem_cons_self⟩]; rfl
      · have hz : ¬ z = y := fun w => q (by rw [e, w])
        show ((match decide (p.1 = z) with | true => some (p.1, m) | false => List.find? (fun p : Str × Int => decide (p.1 = z)) (cc.map fun p : Str × Int => if p.1 = y then (p.1, m) else p)).map (fun q : Str × Int => q.2)).getD 0 = _
        rw [decide_eq_false q, if_neg (fun w => hz w.1)]
        rw [if_neg (fun w => hz w.1)] at ih
        exact ih
    · rw [if_neg e]
      by_cases q : p.1 = z
      · have hz : ¬ z = y := fun w => e (by rw [q, w])
        rw [decide_eq_true q, if_neg (fun w => hz w.1)]
      · rw [decide_eq_false q]
        show ((cc.map fun p => if p.1 = y then (p.1, m) else p).find? _ |>.map (·.2)).getD 0 = _
        rw [ih]
        have : (z = y ∧ y ∈ keyS cc) ↔ (z = y ∧ y ∈ keyS (p :: cc)) := by
          constructor
          · rintro ⟨a, b⟩
            exact ⟨a, by unfold keyS at b ⊢; rw [List.map_cons]; exact List.mem_cons_of_mem _ b⟩
          · rintro ⟨a, b⟩
            refine ⟨a, ?_⟩
            unfold keyS at b ⊢
            rw [List.map_cons] at b
            rcases List.mem_cons.mp b with c | c
            · exact (e c.symm).elim
            · exact c
        by_cases w : z = y ∧ y ∈ keyS cc
        · rw [if_pos w, if_pos (this.mp w)]
        · rw [if_neg w, if_neg fun v => w (this.mpr v)]
theorem get_put {cc : Wc} {y z : Str} {m : Int} : getS (putS cc y m) z = if z = y then m else getS cc z := by
  unfold putS
  by_cases h : y ∈ keyS cc
  · rw [if_pos (any_keyS.mpr h), get_map]
    by_cases e : z = y
    · rw [if_pos ⟨e, h⟩, if_pos e]
    · rw [if_neg (fun w => e w.1), if_neg e]
  · rw [if_neg (fun w => h (any_keyS.mp w))]
    by_cases e : z = y
    · subst e
      rw [if_pos rfl]
      have h0 : cc.find? (fun p => decide (p.1 = z)) = none := by
        rw [List.find?_eq_none]
        intro p hp w
        exact h (List.mem_map.mpr ⟨p, hp, of_decide_eq_true w⟩)
      unfold getS
      rw [List.find?_append, h0]
      simp
    · rw [if_neg e]
      unfold getS
      rw [List.find?_append]
      cases cc.find? fun p => decide (p.1 = z) with
      | some p => rfl
      | none =>
        have : decide (y = z) = false := decide_eq_false fun w => e w.symm
        simp [List.find?_cons, this]
def sumS (cc : Wc) : Int := (cc.map (·.2)).sum
theorem sum_add {y : Str} {o : Int} : ∀ (cc : Wc), (keyS cc).Nodup → sumS (addS cc y o) = sumS cc + o := by
  intro cc nd
  unfold addS putS
  by_cases h : y ∈ keyS cc
  · rw [if_pos (any_keyS.mpr h)]
    have key : ∀ (cc : Wc) (m : Int), (keyS cc).Nodup → y ∈ keyS cc → sumS (cc.map fun p => if p.1 = y then (p.1, m) else p) = sumS cc - getS cc y + m := by
      intro cc m
      induction cc with
      | nil => intro _ h; cases h
      | cons p cc ih =>
        intro nd h
        have nd' : (p.1 :: keyS cc).Nodup := nd
        rw [List.nodup_cons] at nd'
        by_cases e : p.1 = y
        · have hn : y ∉ keyS cc := by rw [← e]; exact nd'.1
          have hm : (cc.map fun p => if p.1 = y then (p.1, m) else p) = cc := by
            have : cc.map (fun p => if p.1 = y then (p.1, m) else p) = cc.map id := List.map_congr_left fun q hq => by
              rw [if_neg fun z => hn (List.mem_map.mpr ⟨q, hq, z⟩)]; rfl
            rw [this, List.map_id]
          have hg : getS (p :: cc) y = p.2 := by unfold getS; rw [List.find?_cons, decide_eq_true e]; rfl
          unfold sumS
          rw [List.map_cons, if_pos e, hm, hg]
          simp only [List.map_cons, List.sum_cons]
          omega
        · have hin : y ∈ keyS cc := by
            have h' : y ∈ p.1 :: keyS cc := h
            rcases List.mem_cons.mp h' with z | z
            · exact (e z.symm).elim
            · exact z
          have hg : getS (p :: cc) y = getS cc y := by unfold getS; rw [List.find?_cons, decide_eq_false e]
          have ih := ih nd'.2 hin
          unfold sumS at ih ⊢
          rw [List.map_cons, if_neg e, hg]
          simp only [List.map_cons, List.sum_cons]
          omega
    rw [key cc _ nd h]
    omega
  · rw [if_neg (fun w => h (any_keyS.mp w)), get_out h]
    unfold sumS
    rw [List.map_append, List.sum_append]
    simp
def wI (o : Int) (cc : Wc) : Itm → Wc
  | .ref _ => cc
  | .wd y => if 0 < o then addS cc y o else cc
def wV (cc : Wc) (p : Int × List Itm) : Wc := p.2.foldl (wI p.1) cc
/-- what the counts tell -/
structure Wok (cc : Wc) (f : Str → Int) (t : Int) (P : Str → Prop) : Prop where
  nd : (keyS cc).Nodup
  get : ∀ z, getS cc z = f z
  key : ∀ z, z ∈ keyS cc ↔ P z
  sum : sumS cc = t
theorem Wok.nil : Wok [] (fun _ => 0) 0 (fun _ => False) := ⟨List.nodup_nil, fun _ => rfl, fun z => ⟨fun h => (by cases h), fun h => h.elim⟩, rfl⟩
theorem Wok.congr {cc : Wc} {f f' : Str → Int} {t t' : Int} {P P' : Str → Prop} (h : Wok cc f t P) (hf : ∀ z, f z = f' z) (ht : t = t') (hP : ∀ z, P z ↔ P' z) : Wok cc f' t' P' :=
  ⟨h.nd, fun z => (h.get z).trans (hf z), fun z => (h.key z).trans (hP z), h.sum.trans ht⟩
def one (o : Option Str) (x : Itm) : Int := if counts o x = true then 1 else 0
theorem Wok.item {cc : Wc} {f : Str → Int} {t : Int} {P : Str → Prop} (h : Wok cc f t P) {o : Int} (ho : 0 ≤ o) (x : Itm) : Wok (wI o cc x) (fun z => f z + o * one (some z) x) (t + o * one none x) (fun z => P z ∨ (0 < o ∧ x = .wd z)) := by
  cases x with
  | ref n =>
    refine h.congr (fun z => ?_) ?_ (fun z => ?_)
    · have : one (some z) (.ref n) = 0 := rfl
      rw [this]; omega
    · have : one none (.ref n) = 0 := rfl
      rw [this]; omega
    · exact ⟨.inl, fun w => w.elim id fun q => by cases q.2⟩
  | wd y =>
    have h1 : one none (.wd y) = 1 := rfl
    have h2 : ∀ z, one (some z) (.wd y) = if y = z then 1 else 0 := fun z => by
      unfold one counts
      by_cases c : y = z
      · rw [if_pos c, if_pos (decide_eq_true c)]
      · rw [if_neg c, if_neg (by simp [c])]
    show Wok (if 0 < o then addS cc y o else cc) _ _ _
    by_cases c : 0 < o
    · rw [if_pos c]
      refine ⟨?_, fun z => ?_, fun z => ?_, ?_⟩
      · unfold addS
        rw [put_keys]
        split
        · exact h.nd
        · rename_i hn
          rw [List.nodup_append]
          refine ⟨h.nd, by simp, fun a ha b hb => ?_⟩
          rw [List.mem_singleton.mp hb]
          rintro rfl
          exact hn ha
      · unfold addS
        rw [get_put, h2]
        by_cases e : z = y
        · rw [if_pos e, if_pos e.symm, e, h.get]; omega
        · rw [if_neg e, if_neg fun w => e w.symm, h.get]; omega
      · unfold addS
        rw [put_keys]
        have e : (Itm.wd y = Itm.wd z) ↔ z = y := ⟨fun w => by cases w; rfl, fun w => by rw [w]⟩
        rw [e]
        split
        · rename_i hy
          rw [h.key]
          exact ⟨.inl, fun w => w.elim id fun q => by rw [q.2]; exact (h.key y).mp hy⟩
        · rw [List.mem_append, h.key, List.mem_singleton]
          exact ⟨fun w => w.elim .inl fun q => .inr ⟨c, q⟩, fun w => w.elim .inl fun q => .inr q.2⟩
      · rw [sum_add cc h.nd, h.sum, h1]; omega
    · have e : o = 0 := by omega
      subst e
      rw [if_neg c]
      refine h.congr (fun z => by omega) (by omega) fun z => ?_
      exact ⟨.inl, fun w => w.elim id fun q => (c q.1).elim⟩
theorem ones_filter (o : Option Str) : ∀ v : List Itm, (v.map (one o)).sum = ((v.filter (counts o)).length : Int)
  | [] => rfl
  | x :: v => by
    rw [List.map_cons, List.sum_cons, ones_filter o v]
    unfold one
    by_cases c : counts o x = true
    · rw [if_pos c, List.filter_cons_of_pos c, List.length_cons]; omega
    · rw [if_neg c, List.filter_cons_of_neg c]; omega
theorem Wok.verse {o : Int} (ho : 0 ≤ o) : ∀ (v : List Itm) {cc : Wc} {f : Str → Int} {t : Int} {P : Str → Prop}, Wok cc f t P →
    Wok (v.foldl (wI o) cc) (fun z => f z + o * (v.map (one (some z))).sum) (t + o * (v.map (one none)).sum) (fun z => P z ∨ (0 < o ∧ Itm.wd z ∈ v))
  | [], cc, f, t, P, h => h.congr (fun z => by simp) (by simp) (fun z => by simp)
  | x :: v, cc, f, t, P, h => by
    have := Wok.verse ho v (h.item ho x)
    rw [List.foldl_cons]
    refine this.congr (fun z => ?_) ?_ (fun z => ?_)
    · rw [List.map_cons, List.sum_cons, Int.mul_add]; omega
    · rw [List.map_cons, List.sum_cons, Int.mul_add]; omega
    · rw [List.mem_cons]
      constructor
      · rintro ((a | b) | c)
        · exact .inl a
        · exact .inr ⟨b.1, .inl b.2.symm⟩
        · exact .inr ⟨c.1, .inr c.2⟩
      · rintro (a | ⟨b, c | d⟩)
        · exact .inl (.inl a)
        · exact .inl (.inr ⟨b, c.symm⟩)
        · exact .inr ⟨b, d⟩
theorem Wok.row : ∀ (l : List (Int × List Itm)), (∀ p ∈ l, 0 ≤ p.1) → ∀ {cc : Wc} {f : Str → Int} {t : Int} {P : Str → Prop}, Wok cc f t P →
    Wok (l.foldl wV cc) (fun z => f z + (l.map fun p => p.1 * ((p.2.filter (counts (some z))).length : Int)).sum) (t + (l.map fun p => p.1 * ((p.2.filter (counts none)).length : Int)).sum) (fun z => P z ∨ ∃ p ∈ l, 0 < p.1 ∧ Itm.wd z ∈ p.2)
  | [], _, cc, f, t, P, h => h.congr (fun z => by simp) (by simp) (fun z => by simp)
  | p :: l, hl, cc, f, t, P, h => by
    have h1 := Wok.verse (hl p List.mem_cons_self) p.2 h
    have := Wok.row l (fun q hq => hl q (List.mem_cons_of_mem _ hq)) h1
    rw [List.foldl_cons]
    refine this.congr (fun z => ?_) ?_ (fun z => ?_)
    · rw [List.map_cons, List.sum_cons, ones_filter]; omega
    · rw [List.map_cons, List.sum_cons, ones_filter]; omega
    · constructor
      · rintro ((a | b) | ⟨q, hq, c⟩)
        · exact .inl a
        · exact .inr ⟨p, List.mem_cons_self, b⟩
        · exact .inr ⟨q, List.mem_cons_of_mem _ hq, c⟩
      · rintro (a | ⟨q, hq, c⟩)
        · exact .inl (.inl a)
        · rcases List.mem_cons.mp hq with e | e
          · rw [e] at c; exact .inl (.inr c)
          · exact .inr ⟨q, e, c⟩
end K09
set_option Elab.async false
set_option linter.all false
set_option maxRecDepth 100000
set_option maxHeartbeats 2000000
set_option exponentiation.threshold 5000
namespace K09
open PySem PySem.Spec D3 K20 K11
end K09
set_option Elab.async false
set_option linter.all false
set_option maxRecDepth 100000
set_option maxHeartbeats 2000000
namespace K07
open PySem PySem.Spec PyProof.Rows L2 D3
abbrev c_LETTERS : Dv := .str "abcdefghijklmnopqrstuvwxyz"
abbrev c_MAX_ITEMS : Dv := .int 6
abbrev c_MAX_LETTERS : Dv := .int 8
abbrev c_MAX_REFRAINS : Dv := .int 60
abbrev c_MAX_VERSES : Dv := .int 4
def t_Lbegun (Wd : WXd) : TSd :=
    (sSeq (sAsg (eC (.int 0)) (gNm 1))
    (sSeq (sFor (iSeq (eVar 0)) (gNm 2) (sAsg (eOp dMod (eOp dAdd (eOp dAdd (eOp dMul (eVar 1) (eC (.int 48271))) (eOp dMul (eVar 2) (eC (.int 69621)))) (eC (.int 11))) (eC (.int 2147483647))) (gNm 1)))
    (sRet (eLst (aCons (eArgs dList (aCons (eVar 0) aNil)) (aCons (eOp dMul (eVar 1) (eArgs dInt (aCons (eOp dGt (eArgs dLen (aCons (eVar 0) aNil)) (eC (.int 2))) aNil))) aNil))))))
def t_Ltake (Wd : WXd) : TSd :=
    (sSeq (sIf (cVal (eOp dEq (eOp dIx (eVar 0) (eC (.int 0))) (eLst aNil))) (sSeq (sAsg (eOp dMod (eArgs dInt (aCons (eOp dMul (eOp dIx (eVar 0) (eC (.int 1))) (eC (.int 48271))) aNil)) (eC (.int 2147483647))) (gSb (eVar 0) (eC (.int 1)) dSetL))
    (sRet (eOp dMod (eOp dDiv (eOp dIx (eVar 0) (eC (.int 1))) (eC (.int 7))) (eVar 1)))) sNext)
    (sSeq (sAsg (eOp dIx (eOp dIx (eVar 0) (eC (.int 0))) (eC (.int 0))) (gNm 2))
    (sSeq (sAsg (eOp dDiv (eVar 2) (eVar 1)) (gSb (eOp dIx (eVar 0) (eC (.int 0))) (eC (.int 0)) dSetL))
    (sSeq (sIf (cOr (cVal (eOp dEq (eOp dIx (eOp dIx (eVar 0) (eC (.int 0))) (eC (.int 0))) (eC (.int 0)))) (cVal (eOp dEq (eOp dIx (eOp dIx (eVar 0) (eC (.int 0))) (eC (.int 0))) (eUn dNeg (eC (.int 1)))))) (sDrop (eBM "list" dPop (eOp dIx (eVar 0) (eC (.int 0))) (aCons (eC (.int 0)) aNil))) sNext)
    (sRet (eOp dMod (eArgs dInt (aCons (eVar 2) aNil)) (eVar 1)))))))
def t_Lbook (sp_Ltake : Spd) (Wd : WXd) : TSd :=
    (sSeq (sPar 2 3 (aCons (eOp dAdd (eC (.int 1)) (eCall sp_Ltake Wd (aCons (eVar 0) (aCons (eVar 1) aNil)))) (aCons (eLst aNil) aNil)))
    (sSeq (sAsg (eLst (aCons (eC (.str "la")) (aCons (eC (.str "lu")) (aCons (eC (.str "lo")) (aCons (eC (.str "a")) (aCons (eC (.str "zzzzzzzz")) (aCons (eC (.str "la")) aNil))))))) (gNm 4))
    (sSeq (sFor (iRg1 (aCons (eVar 2) aNil)) (gNm 5) (sSeq (sAsg (eLst aNil) (gNm 6))
    (sSeq (sFor (iRg1 (aCons (eOp dIx (eLst (aCons (eC (.int 1)) (aCons (eC (.int 2)) (aCons (eC (.int 2)) (aCons (eC (.int 3)) (aCons (eC (.int 4)) aNil)))))) (eCall sp_Ltake Wd (aCons (eVar 0) (aCons (eC (.int 5)) aNil)))) aNil)) (gNm 7) (sSeq (sAsg (eLst aNil) (gNm 8))
    (sSeq (sFor (iRg1 (aCons (eOp dIx (eLst (aCons (eC (.int 1)) (aCons (eC (.int 2)) (aCons (eC (.int 2)) (aCons (eC (.int 3)) (aCons (eC (.int 6)) aNil)))))) (eCall sp_Ltake Wd (aCons (eVar 0) (aCons (eC (.int 5)) aNil)))) aNil)) (gNm 9) (sSeq (sAsg (eOp dSub (eOp dSub (eVar 2) (eVar 5)) (eC (.int 1))) (gNm 10))
    (sSeq (sAsg (eOp dIx (eLst (aCons (eOp dAdd (eC (.int 1)) (eCall sp_Ltake Wd (aCons (eVar 0) (aCons (eArgs dMax (aCons (eC (.int 1)) (aCons (eVar 10) aNil))) aNil)))) (aCons (eC (.int 1)) aNil))) (eCall sp_Ltake Wd (aCons (eVar 0) (aCons (eC (.int 2)) aNil)))) (gNm 11))
    (sDrop (eBM "list" dAppend (eVar 8) (aCons (eIf (cAnd (cVal (eOp dGt (eVar 10) (eC (.int 0)))) (cVal (eOp dGt (eCall sp_Ltake Wd (aCons (eVar 0) (aCons (eC (.int 3)) aNil))) (eC (.int 0))))) (eOp dAdd (eVar 5) (eVar 11)) (eOp dIx (eVar 4) (eCall sp_Ltake Wd (aCons (eVar 0) (aCons (eC (.int 6)) aNil))))) aNil))))))
    (sDrop (eBM "list" dAppend (eVar 6) (aCons (eArgs dTuple (aCons (eVar 8) aNil)) aNil))))))
    (sDrop (eBM "list" dAppend (eVar 3) (aCons (eArgs dTuple (aCons (eVar 6) aNil)) aNil))))))
    (sRet (eArgs dTuple (aCons (eVar 3) aNil))))))
def t_Lreached (Wd : WXd) : TSd :=
    (sSeq (sPar 1 2 (aCons (eLst aNil) (aCons (eLst (aCons (eC (.int 0)) aNil)) aNil)))
    (sSeq (sWhile (cVal (eOp dNe (eVar 2) (eLst aNil))) (sSeq (sAsg (eBM "list" dPop (eVar 2) aNil) (gNm 3))
    (sIf (cVal (eOp (dIn true) (eVar 3) (eVar 1))) (sSeq (sDrop (eBM "list" dAppend (eVar 1) (aCons (eVar 3) aNil)))
    (sFor (iSeq (eOp dIx (eVar 0) (eVar 3))) (gNm 4) (sAsg (eOp dAdd (eVar 2) (eLc (iSeq (eVar 4)) (Tg.one 5) (cNot (cVal (eArgs dIsi (aCons (eVar 5) (aCons (eC (.ty "str")) aNil))))) (eVar 5) [5])) (gNm 2)))) sNext)))
    (sRet (eArgs dSortedI (aCons (eVar 1) aNil)))))
def t_is_word (Wd : WXd) : TSd :=
    (sRet (eArgs dIsi (aCons (eVar 0) (aCons (eC (.ty "str")) aNil))))
def t_is_valid_item (sp_is_word : Spd) (Wd : WXd) : TSd :=
    (sSeq (sIf (cVal (eCall sp_is_word Wd (aCons (eVar 2) aNil))) (sRet (eAnd (eChain dLe dLe (eC (.int 1)) (eArgs dLen (aCons (eVar 2) aNil)) (eC c_MAX_LETTERS)) (eArgs dAll (aCons (eLc (iStr (eVar 2)) (Tg.one 3) cYes (eOp (dIn false) (eVar 3) (eC c_LETTERS)) [3]) aNil)))) sNext)
    (sRet (eChain dLt dLt (eVar 1) (eVar 2) (eArgs dLen (aCons (eVar 0) aNil)))))
def t_first_invalid_verse (sp_is_valid_item : Spd) (Wd : WXd) : TSd :=
    (sSeq (sAsg (eOp dIx (eVar 0) (eVar 1)) (gNm 2))
    (sSeq (sIf (cNot (cVal (eChain dLe dLe (eC (.int 1)) (eArgs dLen (aCons (eVar 2) aNil)) (eC c_MAX_VERSES)))) (sRet (eUn dNeg (eC (.int 1)))) sNext)
    (sSeq (sFor (iEnumD (aCons (eVar 2) aNil)) (gUnp 2 (gsCons (gNm 3) (gsCons (gNm 4) gsNil))) (sIf (cOr (cNot (cVal (eChain dLe dLe (eC (.int 1)) (eArgs dLen (aCons (eVar 4) aNil)) (eC c_MAX_ITEMS)))) (cNot (cVal (eArgs dAll (aCons (eLc (iSeq (eVar 4)) (Tg.one 5) cYes (eCall sp_is_valid_item WNo (aCons (eVar 0) (aCons (eVar 1) (aCons (eVar 5) aNil)))) [5]) aNil))))) (sRet (eVar 3)) sNext))
    (sRet (eC .non)))))
def t_validate_book (sp_first_invalid_verse : Spd) (Wd : WXd) : TSd :=
    (sSeq (sIf (cVal (eOp dEq (eArgs dLen (aCons (eVar 0) aNil)) (eC (.int 0)))) sNever sNext)
    (sFor (iRg1 (aCons (eArgs dLen (aCons (eVar 0) aNil)) aNil)) (gNm 1) (sSeq (sAsg (eIf (cVal (eOp dEq (eVar 1) (eC c_MAX_REFRAINS))) (eUn dNeg (eC (.int 1))) (eCall sp_first_invalid_verse Wd (aCons (eVar 0) (aCons (eVar 1) aNil)))) (gNm 2))
    (sIf (cVal (eOp dIsNot (eVar 2) (eC .non))) sNever sNext))))
def t_all_items (Wd : WXd) : TSd :=
    (sRet (eLc2 (iSeq (eVar 0)) (Tg.one 1) cYes (iSeq (eVar 1)) (Tg.one 2) cYes (eVar 2) [1, 2] [2]))
def t_find_reachable (sp_all_items : Spd) (sp_is_word : Spd) (Wd : WXd) : TSd :=
    (sSeq (sAsg (eOp dAdd (eLst (aCons (eC (.bl true)) aNil)) (eOp dMul (eLst (aCons (eC (.bl false)) aNil)) (eOp dSub (eArgs dLen (aCons (eVar 0) aNil)) (eC (.int 1))))) (gNm 1))
    (sSeq (sFor (iEnumD (aCons (eVar 0) aNil)) (gUnp 2 (gsCons (gNm 2) (gsCons (gNm 3) gsNil))) (sIf (cVal (eOp dIx (eVar 1) (eVar 2))) (sFor (iSeq (eCall sp_all_items Wd (aCons (eVar 3) aNil))) (gNm 4) (sIf (cNot (cVal (eCall sp_is_word Wd (aCons (eVar 4) aNil)))) (sAsg (eC (.bl true)) (gSb (eVar 1) (eVar 4) dSetL)) sNext)) sNext))
    (sRet (eLc (iEnumD (aCons (eVar 1) aNil)) (Tg.many [2, 5]) (cVal (eVar 5)) (eVar 2) [2, 5]))))
def t_Lalike (sp_Lalike_rec : Spd) (Wd : WXd) : TSd :=
    (sSeq (sIf (cVal (eOp dIs (eVar 1) (eC .non))) (sRet (eOp dIs (eVar 0) (eC .non))) sNext)
    (sSeq (sIf (cVal (eArgs dIsi (aCons (eVar 1) (aCons (eC (.ty "bool")) aNil)))) (sRet (eAnd (eArgs dIsi (aCons (eVar 0) (aCons (eC (.ty "bool")) aNil))) (eOp dEq (eVar 0) (eVar 1)))) sNext)
    (sSeq (sIf (cVal (eArgs dIsi (aCons (eVar 1) (aCons (eC (.ty "int")) aNil)))) (sRet (eAnd (eArgs dIsi (aCons (eVar 0) (aCons (eC (.ty "int")) aNil))) (eAnd (eNot (eArgs dIsi (aCons (eVar 0) (aCons (eC (.ty "bool")) aNil)))) (eOp dEq (eVar 0) (eVar 1))))) sNext)
    (sSeq (sIf (cVal (eArgs dIsi (aCons (eVar 1) (aCons (eC (.ty "str")) aNil)))) (sRet (eAnd (eArgs dIsi (aCons (eVar 0) (aCons (eC (.ty "str")) aNil))) (eOp dEq (eVar 0) (eVar 1)))) sNext)
    (sSeq (sIf (cOr (cVal (eOp dNe (eArgs dIsi (aCons (eVar 1) (aCons (eC (.ty "tuple")) aNil))) (eArgs dIsi (aCons (eVar 0) (aCons (eC (.ty "tuple")) aNil))))) (cVal (eOp dNe (eArgs dIsi (aCons (eVar 1) (aCons (eC (.ty "list")) aNil))) (eArgs dIsi (aCons (eVar 0) (aCons (eC (.ty "list")) aNil)))))) (sRet (eC (.bl false))) sNext)
    (sSeq (sIf (cVal (eOp dNe (eArgs dLen (aCons (eVar 0) aNil)) (eArgs dLen (aCons (eVar 1) aNil)))) (sRet (eC (.bl false))) sNext)
    (sSeq (sFor (iRg1 (aCons (eArgs dLen (aCons (eVar 1) aNil)) aNil)) (gNm 2) (sIf (cNot (cVal (eCall sp_Lalike_rec Wd (aCons (eOp dIx (eVar 0) (eVar 2)) (aCons (eOp dIx (eVar 1) (eVar 2)) aNil))))) (sRet (eC (.bl false))) sNext))
    (sRet (eC (.bl true))))))))))
def t_law (sp_Lbegun : Spd) (sp_Lbook : Spd) (sp_Lstate : Spd) (sp_Lwords : Spd) (sp_Ltake : Spd) (sp_find_word : Spd) (sp_Lfrom : Spd) (sp_Lsing : Spd) (sp_count_words : Spd) (sp_word_at : Spd) (sp_Lalike : Spd) (Wd : WXd) : TSd :=
    (sSeq (sAsg (eCall sp_Lbegun Wd (aCons (eVar 0) aNil)) (gNm 1))
    (sSeq (sFor (iRg1 (aCons (eC (.int 4)) aNil)) (gNm 2) (sSeq (sAsg (eCall sp_Lbook Wd (aCons (eVar 1) (aCons (eC (.int 9)) aNil))) (gNm 3))
    (sSeq (sAsg (eCall sp_Lstate Wd (aCons (eVar 1) (aCons (eVar 3) aNil))) (gNm 4))
    (sSeq (sAsg (eCall sp_Lwords Wd (aCons (eVar 3) aNil)) (gNm 5))
    (sSeq (sAsg (eOp dIx (eOp dAdd (eVar 5) (eLst (aCons (eC (.str "la")) (aCons (eC (.str "lu")) (aCons (eC (.str "x")) (aCons (eC (.str "")) aNil)))))) (eCall sp_Ltake Wd (aCons (eVar 1) (aCons (eOp dAdd (eArgs dLen (aCons (eVar 5) aNil)) (eC (.int 4))) aNil)))) (gNm 6))
    (sIf (cVal (eOp (dIn true) (eVar 6) (eVar 5))) (sIf (cVal (eOp dIsNot (eCall sp_find_word Wd (aCons (eVar 3) (aCons (eVar 4) (aCons (eVar 6) (aCons (eOp dAdd (eC (.int 1)) (eCall sp_Ltake Wd (aCons (eVar 1) (aCons (eC (.int 9)) aNil)))) aNil))))) (eC .non))) (sRet (eC (.bl false))) sNext) (sSeq (sPar3 7 8 9 (aCons (eCall sp_Lfrom Wd (aCons (eVar 4) aNil)) (aCons (eC (.int 0)) (aCons (eOp dAdd (eC (.int 1)) (eCall sp_Ltake Wd (aCons (eVar 1) (aCons (eC (.int 3)) aNil)))) aNil))))
    (sSeq (sAsg (eCall sp_find_word Wd (aCons (eVar 3) (aCons (eVar 4) (aCons (eVar 6) (aCons (eVar 9) aNil))))) (gNm 10))
    (sSeq (sFor (iRg2 (aCons (eC (.int 1)) (aCons (eOp dAdd (eArgs dMin (aCons (eVar 10) (aCons (eC (.int 3000)) aNil))) (eC (.int 1))) aNil))) (gNm 11) (sSeq (sAsg (eOp dIx (eCall sp_Lsing Wd (aCons (eVar 3) (aCons (eVar 7) aNil))) (eC (.int 0))) (gNm 12))
    (sSeq (sAsg (eOp dAdd (eVar 8) (eArgs dInt (aCons (eOp dEq (eVar 12) (eVar 6)) aNil))) (gNm 8))
    (sIf (cAnd (cVal (eOp dEq (eVar 8) (eVar 9))) (cVal (eOp dNe (eVar 11) (eVar 10)))) (sRet (eC (.bl false))) sNext))))
    (sSeq (sIf (cAnd (cVal (eOp dLe (eVar 10) (eC (.int 3000)))) (cVal (eOp dNe (eVar 8) (eVar 9)))) (sRet (eC (.bl false))) sNext)
    (sSeq (sAsg (eOp dIx (eLst (aCons (eOp dAdd (eCall sp_Ltake Wd (aCons (eVar 1) (aCons (eOp dPow (eC (.int 10)) (eC (.int 5))) aNil))) (eC (.int 1))) (aCons (eOp dSub (eOp dPow (eC (.int 10)) (eC (.int 15))) (eCall sp_Ltake Wd (aCons (eVar 1) (aCons (eOp dPow (eC (.int 10)) (eC (.int 5))) aNil)))) aNil))) (eCall sp_Ltake Wd (aCons (eVar 1) (aCons (eC (.int 2)) aNil)))) (gNm 13))
    (sSeq (sAsg (eCall sp_find_word Wd (aCons (eVar 3) (aCons (eVar 4) (aCons (eVar 6) (aCons (eVar 13) aNil))))) (gNm 10))
    (sIf (cVal (eOp dLe (eVar 10) (eOp dPow (eC (.int 10)) (eC (.int 18))))) (sSeq (sIf (cOr (cVal (eOp dNe (eOp dIx (eCall sp_word_at Wd (aCons (eVar 3) (aCons (eVar 4) (aCons (eVar 10) aNil)))) (eC (.int 0))) (eVar 6))) (cVal (eOp dNe (eOp dKGet (eOp dIx (eCall sp_count_words Wd (aCons (eVar 3) (aCons (eVar 4) (aCons (eVar 10) aNil)))) (eC (.int 0))) (eVar 6)) (eVar 13)))) (sRet (eC (.bl false))) sNext)
    (sIf (cNot (cVal (eCall sp_Lalike Wd (aCons (eCall sp_find_word Wd (aCons (eVar 3) (aCons (eVar 4) (aCons (eVar 6) (aCons (eVar 13) aNil))))) (aCons (eVar 10) aNil))))) (sRet (eC (.bl false))) sNext)) sNext)))))))))))))
    (sRet (eC (.bl true)))))
end K07
set_option Elab.async false
set_option linter.all false
set_option maxRecDepth 100000
set_option maxHeartbeats 2000000
set_option exponentiation.threshold 5000
namespace K07
open PySem PySem.Spec D3 K20 K11
open K09 (spReach reachL mem_reach)
open K03 hiding Sc SMv scF Imm spAdvance spWordAt
def spAdvance (CS CP CC : Addr) : Spd := fun ds S Q E => ∃ (B : Bk) (s : Ps) (n : Nat), ds = [bkD B, stD s, .int n] ∧ BkOk B ∧ SOk B s ∧ Rest s.2 ∧ n ≤ 1000000000000000000 ∧ ∀ (S' : Store), Frm [] S S' → Q (stD (it B n s)) S'
def spWordAt (CS CP CC : Addr) : Spd := fun ds S Q E => ∃ (B : Bk) (s : Ps) (n : Nat), ds = [bkD B, stD s, .int n] ∧ BkOk B ∧ SOk B s ∧ Rest s.2 ∧ 1 ≤ n ∧ n ≤ 1000000000000000000 ∧ ∀ (S' : Store), Frm [] S S' → Q (outD B (it B (n - 1) s)) S'
end K07
set_option Elab.async false
set_option linter.all false
set_option maxRecDepth 100000
set_option maxHeartbeats 2000000
set_option exponentiation.threshold 5000
namespace K07
open PySem PySem.Spec D3 K20 K11
open K09 (Wc getS putS addS keyS sumS wI wV Wok get_put put_keys)
open K03 hiding Sc SMv scF Imm spAdvance spWordAt
theorem cut_from {α : Type} (l : List α) (i : Nat) : cutD l (some (i : Int)) none = l.drop i := by
  unfold cutD
  have e1 : HT.sIx l.length 0 (some (i : Int)) = min i l.length := by
    unfold HT.sIx
    simp only
    split <;> omega
  have e2 : HT.sIx l.length l.length none = l.length := rfl
  rw [e1, e2]
  by_cases c : i ≤ l.length
  · rw [Nat.min_eq_left c]
    exact List.take_of_length_le (by rw [List.length_drop]; exact Nat.le_refl _)
  · rw [Nat.min_eq_right (by omega), List.drop_of_length_le (Nat.le_refl _), List.drop_of_length_le (by omega), Nat.sub_self]; rfl
end K07
set_option Elab.async false
set_option linter.all false
set_option maxRecDepth 100000
set_option maxHeartbeats 2000000
set_option exponentiation.threshold 5000
namespace K03
open PySem PySem.Spec D3 K20 K11
def ldK (t e z : Nat) : List (L2.Key × Dv) := [(.inr "turns", .obj t), (.inr "path", .obj e), (.inr "starts", .obj z)]
structure Ld (S : Store) (d t e z : Nat) (as : List Nat) (s : Ps) (nz : Nat) : Prop where
  hd : S[d]? = some (.dk (ldK t e z))
  ht : S[t]? = some (.lst (s.1.map Dv.int))
  he : S[e]? = some (.lst (as.reverse.map Dv.obj))
  ha : Ent S as s.2
  hz : ∃ zs, S[z]? = some (.lst zs) ∧ zs.length ≤ nz
  nd : (d :: t :: e :: z :: as).Nodup
structure LMv (S : Store) (d t e z : Nat) (as : List Nat) (S' : Store) (as' : List Nat) (s' : Ps) (nz' : Nat) : Prop where
  m : Ld S' d t e z as' s' nz'
  f : Frm (t :: e :: z :: as) S S'
  s : ∀ a ∈ as', a ∈ as ∨ S.length ≤ a
section
variable {S S' : Store} {d t e z : Nat} {as as' : List Nat} {s s' : Ps} {nz nz' : Nat}
theorem Ld.ne (h : Ld S d t e z as s nz) : (d ≠ t ∧ d ≠ e ∧ d ≠ z ∧ d ∉ as) ∧ (t ≠ e ∧ t ≠ z ∧ t ∉ as) ∧ (e ≠ z ∧ e ∉ as) ∧ z ∉ as ∧ as.Nodup := by
  have := h.nd
  simp only [List.nodup_cons, List.mem_cons, not_or] at this
  exact this
theorem Ld.lt (h : Ld S d t e z as s nz) : d < S.length ∧ t < S.length ∧ e < S.length ∧ z < S.length ∧ ∀ a ∈ as, a < S.length := by
  obtain ⟨zs, hz, _⟩ := h.hz
  exact ⟨at_lt h.hd, at_lt h.ht, at_lt h.he, at_lt hz, h.ha.mem⟩
theorem Ld.frm (h : Ld S d t e z as s nz) {F : List Nat} (f : Frm F S S') (hn : ∀ i ∈ d :: t :: e :: z :: as, i ∉ F) : Ld S' d t e z as s nz := by
  obtain ⟨zs, hz, hl⟩ := h.hz
  exact ⟨f.at h.hd (hn d (by simp)), f.at h.ht (hn t (by simp)), f.at h.he (hn e (by simp)), h.ha.frm f fun a ha => hn a (by simp [ha]), ⟨zs, f.at hz (hn z (by simp)), hl⟩, h.nd⟩
theorem Ld.app {T : Store} (h : Ld S d t e z as s nz) : Ld (S ++ T) d t e z as s nz := h.frm (F := []) .app fun _ _ z => by cases z
theorem LMv.refl (h : Ld S d t e z as s nz) : LMv S d t e z as S as s nz := ⟨h, .refl _ _, fun _ h => .inl h⟩
theorem LMv.app {T : Store} (h : Ld S d t e z as s nz) : LMv S d t e z as (S ++ T) as s nz := ⟨h.app, .app, fun _ h => .inl h⟩
theorem LMv.trans {S2 : Store} {as2 : List Nat} {s2 : Ps} {n2 : Nat} (h : LMv S d t e z as S' as' s' nz') (h' : LMv S' d t e z as' S2 as2 s2 n2) : LMv S d t e z as S2 as2 s2 n2 := by
  refine ⟨h'.m, h.f.trans h'.f fun i hi => ?_, fun a ha => ?_⟩
  · simp only [List.mem_cons] at hi ⊢
    rcases hi with w | w | w | w
    · exact .inl (.inl w)
    · exact .inl (.inr (.inl w))
    · exact .inl (.inr (.inr (.inl w)))
    · rcases h.s i w with y | y
      · exact .inl (.inr (.inr (.inr y)))
      · exact .inr y
  · have hl := h.f.len
    rcases h'.s a ha with w | w
    · exact h.s a w
    · exact .inr (by omega)
/-- an entry is put on the stack -/
theorem Ld.push (h : Ld S d t e z as s nz) (x : En) : LMv S d t e z as ((S ++ [Mo.lst (enD x)]).set e (.lst ((S.length :: as).reverse.map Dv.obj))) (S.length :: as) (s.1, x :: s.2) nz := by
  obtain ⟨⟨a1, a2, a3, a4⟩, ⟨b1, b2, b3⟩, ⟨c1, c2⟩, d1, d2⟩ := h.ne
  obtain ⟨l1, l2, l3, l4, l5⟩ := h.lt
  have f : Frm [e] S ((S ++ [Mo.lst (enD x)]).set e (.lst ((S.length :: as).reverse.map Dv.obj))) := Frm.app.then (.set List.mem_cons_self)
  have h1 : ∀ {j}, j ≠ e → j ∉ [e] := fun h z => h (List.mem_singleton.mp z)
  obtain ⟨zs, hz, hl⟩ := h.hz
  refine ⟨⟨f.at h.hd (h1 a2), f.at h.ht (h1 b1), List.getElem?_set_self (by rw [List.length_append]; omega), ⟨by rw [List.getElem?_set_ne (by omega)]; exact get_at, h.ha.frm f fun a ha => h1 fun z => c2 (by rw [← z]; exact ha)⟩, ⟨zs, f.at hz (h1 c1.symm), hl⟩, ?_⟩, f.mono fun i hi => by rw [List.mem_singleton.mp hi]; simp, fun a ha => ?_⟩
  · simp only [List.nodup_cons, List.mem_cons, not_or]
    exact ⟨⟨a1, a2, a3, by omega, a4⟩, ⟨b1, b2, by omega, b3⟩, ⟨c1, by omega, c2⟩, ⟨by omega, d1⟩, fun z => by have := l5 _ z; omega, d2⟩
  · rcases List.mem_cons.mp ha with w | w
    · exact .inr (by omega)
    · exact .inl w
end
end K03
set_option Elab.async false
set_option linter.all false
set_option maxRecDepth 100000
set_option maxHeartbeats 2000000
set_option exponentiation.threshold 5000
namespace K03
open PySem PySem.Spec D3 K20 K11
def spLSing : Spd := fun ds S Q E => ∃ (d t e z : Nat) (as : List Nat) (B : Bk) (s : Ps) (nz : Nat), ds = [bkD B, .obj d] ∧ Ld S d t e z as s nz ∧ BkOk B ∧ SOk B s ∧ nz < 9000000 ∧
  ∀ S' as', LMv S d t e z as S' as' (mNext B s) (nz + 60) → Q (outD B s) S'
end K03
set_option Elab.async false
set_option linter.all false
set_option maxRecDepth 100000
set_option maxHeartbeats 2000000
set_option exponentiation.threshold 5000
namespace K03
open PySem PySem.Spec D3 K20 K11
def spLFrom : Spd := fun ds S Q E => ∃ s : Ps, ds = [stD s] ∧ s.2.length < 99999 ∧ ∀ (S' : Store) (d t e z : Nat) (as : List Nat), Ld S' d t e z as s 0 → Frm [] S S' → (∀ i ∈ d :: t :: e :: z :: as, S.length ≤ i) → Q (.obj d) S'
def spLOf : Spd := fun ds S Q E => ∃ (d t e z : Nat) (as : List Nat) (s : Ps) (nz : Nat), ds = [.obj d] ∧ Ld S d t e z as s nz ∧ s.2.length < 99999 ∧ ∀ S', Frm [] S S' → Q (stD s) S'
theorem bup_frm {a b : Nat} {S S' : Store} (h : Bup a b S S') : Frm [a, b] S S' := ⟨by rw [h.len]; exact Nat.le_refl _, fun i hi hn => h.oth i (fun z => hn (by simp [z])) (fun z => hn (by simp [z]))⟩
theorem bx_frm {a b : Nat} {S S' : Store} {F : List Nat} (h : Bx a b S) (f : Frm F S S') (hn : a ∉ F ∧ b ∉ F) : Bx a b S' := by
  obtain ⟨z, ns, h1, h2⟩ := h
  exact ⟨z, ns, f.at h1 hn.1, f.at h2 hn.2⟩
def spLState : Spd := fun ds S Q E => ∃ (a b : Nat) (B : Bk), ds = [.obj a, bkD B] ∧ Bx a b S ∧ BkOk B ∧ ∀ (s : Ps) S', SOk B s → Rest s.2 → Bx a b S' → Frm [a, b] S S' → Q (stD s) S'
end K03
set_option Elab.async false
set_option linter.all false
set_option maxRecDepth 100000
set_option maxHeartbeats 2000000
set_option exponentiation.threshold 5000
namespace K03
open PySem PySem.Spec D3 K20 K11
def SameD (S : Store) : Nat → Dv → Dv → Prop
  | _, .int i, .int j => i = j
  | _, .str a, .str b => a = b
  | n + 1, .tup xs, .tup ys => xs.length < 100000 ∧ xs.length = ys.length ∧ ∀ (k : Nat) x y, xs[k]? = some x → ys[k]? = some y → SameD S n x y
  | n + 1, .obj i, .obj j => ∃ xs ys, getL S i = some xs ∧ getL S j = some ys ∧ xs.length < 100000 ∧ xs.length = ys.length ∧ ∀ (k : Nat) x y, xs[k]? = some x → ys[k]? = some y → SameD S n x y
  | _, _, _ => False
def spAl (n : Nat) : Spd := fun ds S Q E => ∃ x y, ds = [x, y] ∧ SameD S n x y ∧ Q (.bl true) S
theorem r_al (n : Nat) : ∀ ds S Qd Ed, spAl n ds S Qd Ed → StClo S → t_Lalike (spAl (n - 1)) (WEx S.length Ed) { nx := fun _ S' => Gc S.length Qd .non S', rt := Gc S.length Qd } (startD 3 ds) S := by
  rintro _ S Qd Ed ⟨x, y, rfl, hd, h⟩ hc
  unfold t_Lalike
  cases y with
  | int j =>
    cases x with
    | int i =>
      have e : i = j := by cases n <;> exact hd
      subst e
      dsimp! only []
      exact .inl h
    | _ => cases n <;> cases hd
  | str b =>
    cases x with
    | str a =>
      have e : a = b := by cases n <;> exact hd
      subst e
      dsimp! only []
      exact .inl h
    | _ => cases n <;> cases hd
  | tup ys =>
    cases x with
    | tup xs =>
      cases n with
      | zero => cases hd
      | succ n =>
        obtain ⟨h1, h2, h3⟩ := hd
        have h2' : (xs.length : Int) = (ys.length : Int) := by omega
        dsimp! only [h2']
        refine sFor_inv (S1 := S) (jRg ys.length) (fun i σ S' => S' = S ∧ ∃ o, σ = [some (.tup xs), some (.tup ys), o]) (hw_rg1 (fun R hR => ?_) (by omega)) ⟨rfl, _, rfl⟩ (fun _ _ _ _ _ => trivial) ?_ ?_
        · dsimp! only []
          exact hR
        · rintro k d σ S' hd2 ⟨rfl, o, rfl⟩ K hK
          obtain ⟨hk, rfl⟩ := jRg_get hd2
          have hyk : ys[k]? = some ys[k] := List.getElem?_eq_getElem hk
          have hxk : xs[k]? = some (xs[k]'(by omega)) := List.getElem?_eq_getElem _
          dsimp! only [atI_nat hyk, atI_nat hxk]
          refine ⟨_, _, rfl, h3 k _ _ hxk hyk, true, rfl, ?_⟩
          dsimp! only []
          exact hK _ _ (.inl ⟨rfl, _, rfl⟩)
        · rintro σ S' ⟨rfl, o, rfl⟩
          dsimp! only []
          exact .inl h
    | _ => cases n <;> cases hd
  | obj j =>
    cases x with
    | obj i =>
      cases n with
      | zero => cases hd
      | succ n =>
        obtain ⟨xs, ys, g1, g2, h1, h2, h3⟩ := hd
        have h2' : (xs.length : Int) = (ys.length : Int) := by omega
        have g1' := getL_iff.mp g1
        have g2' := getL_iff.mp g2
        dsimp! only [h2', g1, g2, g1', g2']
        refine sFor_inv (S1 := S) (jRg ys.length) (fun m σ S' => S' = S ∧ ∃ o, σ = [some (.obj i), some (.obj j), o]) (hw_rg1 (fun R hR => ?_) (by omega)) ⟨rfl, _, rfl⟩ (fun _ _ _ _ _ => trivial) ?_ ?_
        · dsimp! only [g2]
          exact hR
        · rintro k d σ S' hd2 ⟨rfl, o, rfl⟩ K hK
          obtain ⟨hk, rfl⟩ := jRg_get hd2
          have hyk : ys[k]? = some ys[k] := List.getElem?_eq_getElem hk
          have hxk : xs[k]? = some (xs[k]'(by omega)) := List.getElem?_eq_getElem _
          dsimp! only [g1, g2, atI_nat hyk, atI_nat hxk]
          refine ⟨_, _, rfl, h3 k _ _ hxk hyk, true, rfl, ?_⟩
          dsimp! only []
          exact hK _ _ (.inl ⟨rfl, _, rfl⟩)
        · rintro σ S' ⟨rfl, o, rfl⟩
          dsimp! only []
          exact .inl h
    | _ => cases n <;> cases hd
  | _ => cases n <;> cases x <;> cases hd
def alS : Nat → Dv → Bool
  | _, .int _ => true
  | _, .str _ => true
  | n + 1, .tup ds => decide (ds.length < 100000) && ds.all (alS n)
  | _, _ => false
theorem same_refl {S : Store} : ∀ (n : Nat) (d : Dv), alS n d = true → SameD S n d d
  | n, .int _, _ => by cases n <;> rfl
  | n, .str _, _ => by cases n <;> rfl
  | n + 1, .tup ds, h => by
    have h' : (decide (ds.length < 100000) && ds.all (alS n)) = true := h
    rw [Bool.and_eq_true, decide_eq_true_eq] at h'
    refine ⟨h'.1, rfl, fun k x y hx hy => ?_⟩
    rw [hx] at hy
    cases hy
    exact same_refl n x (List.all_eq_true.mp h'.2 _ (List.mem_of_getElem? hx))
  | 0, .tup ds, h => by cases h
  | n, .non, h => by cases n <;> cases h
  | n, .bl _, h => by cases n <;> cases h
  | n, .byt _, h => by cases n <;> cases h
  | n, .fls _, h => by cases n <;> cases h
  | n, .obj _, h => by cases n <;> cases h
  | n, .ty _, h => by cases n <;> cases h
  | n, .adr _, h => by cases n <;> cases h
theorem alS_path {st : List En} (h : st.length < 99999) (n : Nat) : alS (n + 2) (pathD st) = true := by
  show (decide ((st.reverse.map fun x => Dv.tup (enD x)).length < 100000) && (st.reverse.map fun x => Dv.tup (enD x)).all (alS (n + 1))) = true
  rw [Bool.and_eq_true, decide_eq_true_eq, List.length_map, List.length_reverse]
  refine ⟨by omega, List.all_eq_true.mpr fun d hd => ?_⟩
  obtain ⟨x, _, rfl⟩ := List.mem_map.mp hd
  show (decide (3 < 100000) && (alS n (.int _) && (alS n (.int _) && (alS n (.int _) && true)))) = true
  cases n <;> rfl
theorem alS_ts {T : List Int} (h : T.length < 99999) (n : Nat) : alS (n + 1) (tsD T) = true := by
  show (decide ((T.map Dv.int).length < 100000) && (T.map Dv.int).all (alS n)) = true
  rw [Bool.and_eq_true, decide_eq_true_eq, List.length_map]
  refine ⟨by omega, List.all_eq_true.mpr fun d hd => ?_⟩
  obtain ⟨x, _, rfl⟩ := List.mem_map.mp hd
  cases n <;> rfl
theorem alS_st {s : Ps} (h1 : s.1.length < 99999) (h2 : s.2.length < 99999) (n : Nat) : alS (n + 3) (stD s) = true := by
  show (decide (2 < 100000) && (alS (n + 2) (tsD s.1) && (alS (n + 2) (pathD s.2) && true))) = true
  rw [alS_ts h1, alS_path h2]; rfl
theorem alS_out {B : Bk} (hB : BkOk B) {s : Ps} (h : SOk B s) (n : Nat) : alS (n + 3) (outD B s) = true := by
  obtain ⟨T', y, st', w, e1, e2⟩ := top_word hB h
  have ht := h.top hB
  rw [e1] at ht
  have hsh := ht.short hB
  have hsh : (y :: st').length ≤ 60 := hsh
  have e : outD B s = .tup [.str w, pathD (y :: st')] := by
    unfold outD
    rw [e1]
    show Dv.tup [(itAt B y).d, pathD (y :: st')] = _
    rw [e2]; rfl
  rw [e]
  show (decide (2 < 100000) && (alS (n + 2) (.str w) && (alS (n + 2) (pathD (y :: st')) && true))) = true
  rw [alS_path (by omega)]; rfl
theorem r_al0 (spr : Spd) : ∀ ds S Qd Ed, spAl 0 ds S Qd Ed → StClo S → t_Lalike spr (WEx S.length Ed) { nx := fun _ S' => Gc S.length Qd .non S', rt := Gc S.length Qd } (startD 3 ds) S := by
  rintro _ S Qd Ed ⟨x, y, rfl, hd, h⟩ hc
  unfold t_Lalike
  cases y with
  | int j =>
    cases x with
    | int i =>
      have e : i = j := hd
      subst e
      dsimp! only []
      exact .inl h
    | _ => cases hd
  | str b =>
    cases x with
    | str a =>
      have e : a = b := hd
      subst e
      dsimp! only []
      exact .inl h
    | _ => cases hd
  | _ => cases x <;> cases hd
end K03
set_option Elab.async false
set_option linter.all false
set_option maxRecDepth 100000
set_option maxHeartbeats 2000000
set_option exponentiation.threshold 5000
namespace K03
open PySem PySem.Spec D3 K20 K11
def outs (B : Bk) (s : Ps) (m : Nat) : List Dv := (List.range m).map fun k => outD B (it B k s)
theorem outs_succ {B : Bk} {s : Ps} {m : Nat} : outs B s (m + 1) = outs B s m ++ [outD B (it B m s)] := by unfold outs; rw [List.range_succ, List.map_append]; rfl
theorem outs_len {B : Bk} {s : Ps} {m : Nat} : (outs B s m).length = m := by unfold outs; rw [List.length_map, List.length_range]
structure Wl (S : Store) (a b X Y d t e z : Nat) (as : List Nat) (B : Bk) (s : Ps) (m : Nat) (ns : List Int) : Prop where
  bx : Bx a b S
  ld : Ld S d t e z as (it B m s) (60 * m)
  x : S[X]? = some (.lst (outs B s m))
  y : S[Y]? = some (.lst (ns.map Dv.int))
  nd : (a :: b :: X :: Y :: d :: t :: e :: z :: as).Nodup
theorem Wl.keep {S S' : Store} {a b X Y d t e z : Nat} {as : List Nat} {B : Bk} {s : Ps} {m : Nat} {ns : List Int} (h : Wl S a b X Y d t e z as B s m ns) (f : Frm [] S S') : Wl S' a b X Y d t e z as B s m ns :=
  ⟨bx_frm h.bx f ⟨by simp, by simp⟩, h.ld.frm f (fun _ _ z => by cases z), f.at h.x (by simp), f.at h.y (by simp), h.nd⟩
theorem Wl.sung {S S' : Store} {a b X Y d t e z : Nat} {as as' : List Nat} {B : Bk} {s : Ps} {m : Nat} {ns : List Int} (h : Wl S a b X Y d t e z as B s m ns) (l : LMv S d t e z as S' as' (mNext B (it B m s)) (60 * m + 60)) :
    S'[X]? = some (.lst (outs B s m)) ∧ Wl (S'.set X (.lst (outs B s (m + 1)))) a b X Y d t e z as' B s (m + 1) ns := by
  have nd := h.nd
  obtain ⟨la, lb⟩ := h.bx.lt
  have lX := at_lt h.x
  have lY := at_lt h.y
  obtain ⟨ld1, lt1, le1, lz1, las⟩ := h.ld.lt
  simp only [List.nodup_cons, List.mem_cons, not_or] at nd
  obtain ⟨⟨a1, a2, a3, a4, a5, a6, a7, a8⟩, ⟨b2, b3, b4, b5, b6, b7, b8⟩, ⟨c3, c4, c5, c6, c7, c8⟩, ⟨d4, d5, d6, d7, d8⟩, nl⟩ := nd
  have hn : ∀ {i : Nat}, i ≠ t → i ≠ e → i ≠ z → i ∉ as → i ∉ t :: e :: z :: as := fun h1 h2 h3 h4 => by simp only [List.mem_cons, not_or]; exact ⟨h1, h2, h3, h4⟩
  have hx1 := l.f.at h.x (hn c5 c6 c7 c8)
  refine ⟨hx1, ?_⟩
  have f : Frm [X] S' (S'.set X (.lst (outs B s (m + 1)))) := .set List.mem_cons_self
  have h1 : ∀ {j}, j ≠ X → j ∉ [X] := fun h z => h (List.mem_singleton.mp z)
  have has : ∀ i ∈ as', i ≠ a ∧ i ≠ b ∧ i ≠ X ∧ i ≠ Y := fun i hi => by
    rcases l.s i hi with w | w
    · exact ⟨fun q => a8 (by rw [← q]; exact w), fun q => b8 (by rw [← q]; exact w), fun q => c8 (by rw [← q]; exact w), fun q => d8 (by rw [← q]; exact w)⟩
    · exact ⟨by omega, by omega, by omega, by omega⟩
  have e5 : it B (m + 1) s = mNext B (it B m s) := it_add m 1 s
  have em : 60 * (m + 1) = 60 * m + 60 := by omega
  refine ⟨bx_frm (bx_frm h.bx l.f ⟨hn a5 a6 a7 a8, hn b5 b6 b7 b8⟩) f ⟨h1 a2, h1 b2⟩, ?_, List.getElem?_set_self (at_lt hx1), f.at (l.f.at h.y (hn d5 d6 d7 d8)) (h1 fun q => c3 q.symm), ?_⟩
  · rw [e5, em]
    refine l.m.frm f fun i hi => h1 fun q => ?_
    subst q
    simp only [List.mem_cons] at hi
    rcases hi with w | w | w | w | w
    · exact c4 w
    · exact c5 w
    · exact c6 w
    · exact c7 w
    · exact (has _ w).2.2.1 rfl
  · simp only [List.nodup_cons, List.mem_cons, not_or]
    have hnd := l.m.nd
    simp only [List.nodup_cons, List.mem_cons, not_or] at hnd
    exact ⟨⟨a1, a2, a3, a4, a5, a6, a7, fun q => (has _ q).1 rfl⟩, ⟨b2, b3, b4, b5, b6, b7, fun q => (has _ q).2.1 rfl⟩, ⟨c3, c4, c5, c6, c7, fun q => (has _ q).2.2.1 rfl⟩, ⟨d4, d5, d6, d7, fun q => (has _ q).2.2.2 rfl⟩, hnd⟩
theorem ints_flat : ∀ ns : List Int, flatL (ns.map Dv.int) = true
  | [] => rfl
  | n :: ns => ints_flat ns
theorem dIn_ints {S : Store} {i : Int} {Y : Nat} {ns : List Int} {Q : KD} (hY : getL S Y = some (ns.map Dv.int)) (h : ∀ c : Bool, Q (.bl c) S) : dIn false (.int i) (.obj Y) S Q := ⟨_, hY, rfl, ints_flat ns, h _⟩
variable (CS CP CC : Addr)
def tLoop (Wd : WXd) : TSd := (sFor (iRg1 (aCons (eOp dAdd (eVar 5) (eC (.int 1))) aNil)) (gNm 9) (sSeq (sIf (cAnd (cVal (eOp (dIn false) (eVar 9) (eVar 8))) (cNot (cVal (eCall (spAl 5) Wd (aCons (eCall (spAdvance CS CP CC) Wd (aCons (eVar 3) (aCons (eVar 4) (aCons (eVar 9) aNil)))) (aCons (eCall spLOf Wd (aCons (eVar 6) aNil)) aNil)))))) (sRet (eC (.bl false))) sNext)
    (sSeq (sIf (cVal (eOp dLt (eVar 9) (eVar 5))) (sDrop (eBM "list" dAppend (eVar 7) (aCons (eCall spLSing Wd (aCons (eVar 3) (aCons (eVar 6) aNil))) aNil))) sNext)
    (sIf (cAnd (cVal (eOp dLt (eVar 9) (eVar 5))) (cVal (eOp (dIn false) (eOp dAdd (eVar 9) (eC (.int 1))) (eVar 8)))) (sIf (cNot (cVal (eCall (spAl 5) Wd (aCons (eCall (spWordAt CS CP CC) Wd (aCons (eVar 3) (aCons (eVar 4) (aCons (eOp dAdd (eVar 9) (eC (.int 1))) aNil)))) (aCons (eOp dIx (eVar 7) (eUn dNeg (eC (.int 1)))) aNil))))) (sRet (eC (.bl false))) sNext) sNext))))
theorem loop_ok {Wd : WXd} {D : EndsD} {S : Store} {a b X Y d t e z n : Nat} {as : List Nat} {B : Bk} {s : Ps} {ns : List Int} (hB : BkOk B) (hok : SOk B s) (hR : Rest s.2) (hn : n ≤ 200) (hW : Wl S a b X Y d t e z as B s 0 ns) {o0 o1 o2 o9 o10 : Option Dv}
    (q : ∀ S' as' o9, Wl S' a b X Y d t e z as' B s n ns → D.nx [o0, o1, o2, some (bkD B), some (stD s), some (.int n), some (.obj d), some (.obj X), some (.obj Y), o9, o10] S') :
    tLoop CS CP CC Wd D [o0, o1, o2, some (bkD B), some (stD s), some (.int n), some (.obj d), some (.obj X), some (.obj Y), o9, o10] S := by
  unfold tLoop
  refine sFor_inv (S1 := S) (jRg (n + 1)) (fun i σ S' => ∃ (as' : List Nat) (o9 : Option Dv), Wl S' a b X Y d t e z as' B s (min i n) ns ∧ σ = [o0, o1, o2, some (bkD B), some (stD s), some (.int n), some (.obj d), some (.obj X), some (.obj Y), o9, o10]) (hw_rg1 (fun R hR => ?_) (by omega)) ⟨as, o9, by rw [Nat.min_eq_left (by omega)]; exact hW, rfl⟩ (fun _ _ _ _ _ => trivial) ?_ ?_
  · dsimp! only []
    exact hR
  · rintro i dd σ S1 hd ⟨as1, o9, hW1, rfl⟩ K hK
    obtain ⟨hi, rfl⟩ := jRg_get hd
    rw [Nat.min_eq_left (by omega)] at hW1
    have hsk := SOk.it hB i hok
    have hyy := getL_iff.mpr hW1.y
    simp! only []
    refine seqI ?_
    refine sIf_gen (fun σ' S' => σ' = [o0, o1, o2, some (bkD B), some (stD s), some (.int n), some (.obj d), some (.obj X), some (.obj Y), some (.int i), o10] ∧ Wl S' a b X Y d t e z as1 B s i ns) (fun K1 hK1 => ?_) ?_
    · refine ifI ?_
      simp! only []
      refine dIn_ints hyy fun c => ?_
      cases c with
      | false =>
        simp! only []
        exact hK1 _ _ ⟨rfl, hW1⟩
      | true =>
        simp! only []
        refine ⟨B, s, i, rfl, hB, hok, hR, by omega, fun S2 f2 => ?_⟩
        have hW2 := hW1.keep f2
        refine ⟨d, t, e, z, as1, _, _, rfl, hW2.ld, by have := hsk.short hB; omega, fun S3 f3 => ?_⟩
        refine ⟨_, _, rfl, same_refl 5 _ (alS_st (by rw [hsk.t.1]; have := hB.le; omega) (by have := hsk.short hB; omega) 2), true, rfl, ?_⟩
        simp! only []
        exact hK1 _ _ ⟨rfl, hW2.keep f3⟩
    rintro _ S2 ⟨rfl, hW2⟩
    dsimp only
    refine seqI ?_
    by_cases c : (i : Int) < (n : Int)
    · refine ifI ?_
      simp! only [c, decide_true]
      refine ⟨.inl ⟨_, hW2.x⟩, d, t, e, z, as1, B, it B i s, 60 * i, rfl, hW2.ld, hB, hsk, by omega, fun S3 as3 hM => ?_⟩
      obtain ⟨hx3, hW3⟩ := hW2.sung hM
      refine ⟨_, getL_iff.mpr hx3, by rw [outs_len]; exact small_line (by omega), ?_⟩
      rw [← outs_succ]
      generalize S3.set X (.lst (outs B s (i + 1))) = S4 at *
      have hyy3 := getL_iff.mpr hW3.y
      have hlast : L2.atI (outs B s (i + 1)) (-1) = some (outD B (it B i s)) := by rw [outs_succ]; exact atI_neg1
      have hmin : min (i + 1) n = i + 1 := Nat.min_eq_left (by omega)
      have e1 : (i : Int) + 1 = ((i + 1 : Nat) : Int) := by omega
      refine ifI ?_
      simp! only [c, decide_true]
      refine dIn_ints hyy3 fun c2 => ?_
      cases c2 with
      | false =>
        simp! only []
        exact hK _ _ (.inl ⟨as3, _, by rw [hmin]; exact hW3, rfl⟩)
      | true =>
        refine ⟨true, rfl, ?_⟩
        rw [if_pos rfl]
        refine ifI ?_
        simp! only [e1]
        refine ⟨B, s, i + 1, rfl, hB, hok, hR, by omega, by omega, fun S5 f5 => ?_⟩
        have hW5 := hW3.keep f5
        have hxx5 := getL_iff.mpr hW5.x
        have e2 : i + 1 - 1 = i := by omega
        rw [e2]
        simp! only [hxx5, hlast]
        refine ⟨_, _, rfl, same_refl 5 _ (alS_out hB hsk 2), true, rfl, ?_⟩
        simp! only []
        exact hK _ _ (.inl ⟨as3, _, by rw [hmin]; exact hW5, rfl⟩)
    · refine ifI ?_
      have hmin : min (i + 1) n = i := by have : i = n := by omega
                                          omega
      simp! only [c, decide_false]
      refine ifI ?_
      simp! only [c, decide_false]
      exact hK _ _ (.inl ⟨as1, _, by rw [hmin]; exact hW2, rfl⟩)
  · rintro σ S' ⟨as', o9, hW', rfl⟩
    rw [jRg_len, Nat.min_eq_right (by omega)] at hW'
    exact q S' as' o9 hW'
end K03
set_option Elab.async false
set_option linter.all false
set_option maxRecDepth 100000
set_option maxHeartbeats 2000000
set_option exponentiation.threshold 5000
namespace K03
open PySem PySem.Spec D3 K20 K11
theorem r_law (CS CP CC : Addr) : ∀ ds S Qd Ed, D3.spLaw 63 ds S Qd Ed → StClo S → t_law K11.spBegun K11.spBook spLState K11.spTake spLFrom (spAl 5) (spAdvance CS CP CC) spLOf spLSing (spWordAt CS CP CC) (spNextWords CP) (WEx S.length Ed) { nx := fun _ S' => Gc S.length Qd .non S', rt := Gc S.length Qd } (startD 11 ds) S := by
  rintro _ S Qd Ed ⟨x, ns, rfl, hx, hl, _, h⟩ hc
  unfold t_law
  refine seqI ?_
  simp! only []
  refine ⟨x, ns, rfl, hx, hl, fun z => ?_⟩
  have hh : Bx (S.length + 1) S.length (S ++ [.lst (ns.map Dv.int), .lst [.obj S.length, .int z]]) := ⟨z, ns, st_getk, st_get0⟩
  have hret : ∀ T, Gc S.length Qd (.bl true) T := fun T => .inl (h T)
  generalize S ++ [.lst (ns.map Dv.int), .lst [.obj S.length, .int z]] = S0 at *
  generalize ha : S.length + 1 = a at *
  generalize hb : S.length = b at *
  refine seqI ?_
  refine sFor_inv (S1 := S0) (jRg 4) (fun i σ S' => Bx a b S' ∧ ∃ o0 o2 o3 o4 o5 o6 o7 o8 o9 o10 : Option Dv, σ = [o0, some (.obj a), o2, o3, o4, o5, o6, o7, o8, o9, o10]) (hw_rg1 (fun R hR => ?_) (by decide)) ⟨hh, some x, _, _, _, _, _, _, _, _, _, rfl⟩ (fun _ _ _ _ _ => trivial) ?_ ?_
  · dsimp! only []
    exact hR
  · rintro i d σ S1 hd ⟨hx1, o0, o2, o3, o4, o5, o6, o7, o8, o9, o10, rfl⟩ K hK
    obtain ⟨hi, rfl⟩ := jRg_get hd
    simp! only []
    refine seqI ?_
    simp! only []
    refine ⟨a, b, 9, rfl, hx1, by decide, by decide, fun B S2 hB hF hBl hu2 => ?_⟩
    refine seqI ?_
    simp! only []
    refine ⟨a, b, B, rfl, hu2.bx, hB, fun s S3 hok hR hx3 f3 => ?_⟩
    refine seqI ?_
    simp! only []
    refine ⟨a, b, 2, rfl, hx3.app, by decide, by decide, fun r S4' r0 r1 hup => ?_⟩
    obtain ⟨S4, rfl, hu4⟩ := bup_app hx3 hup
    have hl4 : S3.length = S4.length := hu4.len.symm
    rw [hl4]
    obtain ⟨lim, hlim, hl0, hl1⟩ : ∃ lim : Int, L2.atI [Dv.int 9, .int 201] r = some (.int lim) ∧ 0 < lim ∧ lim ≤ 201 := by
      rw [at_two r0 r1]
      by_cases c : r = 0
      · exact ⟨9, by rw [if_pos c], by decide, by decide⟩
      · exact ⟨201, by rw [if_neg c], by decide, by decide⟩
    simp! only []
    refine ⟨_, hlim, a, b, lim, rfl, hu4.bx.app, hl0, by omega, fun n' S5 n0 n1 hup5 => ?_⟩
    obtain ⟨n, rfl⟩ := Int.eq_ofNat_of_zero_le n0
    try simp! only []
    refine ⟨s, rfl, by have := hok.short hB; omega, fun S6 d t e z as hL f6 hfr => ?_⟩
    have hx6 : Bx a b S6 := bx_frm hup5.bx f6 ⟨by simp, by simp⟩
    obtain ⟨la, lb⟩ := hup5.bx.lt
    simp! only []
    refine seqI ?_
    have hX7 : (S6 ++ [Mo.lst []])[S6.length]? = some (.lst []) := get_at
    have hL7 := hL.app (T := [.lst []])
    have hx7 : Bx a b (S6 ++ [Mo.lst []]) := hx6.app
    have l7 : (S6 ++ [Mo.lst []]).length = S6.length + 1 := by rw [List.length_append]; rfl
    have hlt6 := hL.lt
    have l56 := f6.len
    generalize S6 ++ [Mo.lst []] = S7 at *
    simp! only []
    refine eLc_inv (S1 := S7) (jRg 4) (fun k acc S' => ∃ zs : List Int, acc = zs.map Dv.int ∧ zs.length = k ∧ Bx a b S' ∧ Frm [a, b] S7 S') (hw_rg1 (fun R hR => ?_) (by decide)) ⟨[], rfl, rfl, hx7, .refl _ _⟩ (fun k acc S' hk ⟨zs, h1, h2, _⟩ => ⟨trivial, by rw [jRg_len] at hk; rw [h1, List.length_map]; exact small_line (by omega)⟩) ?_ ?_
    · dsimp! only []; exact hR
    · rintro k dd acc S' hd2 ⟨zs, rfl, hz, hxk, fk⟩ K1 K0 hK1 _
      obtain ⟨hk, rfl⟩ := jRg_get hd2
      dsimp! only []
      refine ⟨a, b, (n : Int) + 1, rfl, hxk, by omega, by omega, fun r' S'' _ _ hup => hK1 _ _ (.inl ⟨zs ++ [r'], by rw [List.map_append]; rfl, by rw [List.length_append, hz]; rfl, hup.bx, fk.then (bup_frm hup)⟩)⟩
    · rintro acc S8 ⟨zs, rfl, hz, hx8, f8⟩
      have hab : a ∉ d :: t :: e :: z :: as ∧ b ∉ d :: t :: e :: z :: as := ⟨fun w => by have := hfr _ w; omega, fun w => by have := hfr _ w; omega⟩
      have l8 := f8.len
      have hL8 : Ld S8 d t e z as s 0 := hL7.frm f8 fun i hi w => by
        simp only [List.mem_cons, List.not_mem_nil, or_false] at w
        rcases w with w | w
        · exact hab.1 (by rw [← w]; exact hi)
        · exact hab.2 (by rw [← w]; exact hi)
      have hX8 : S8[S6.length]? = some (.lst []) := f8.at hX7 (by simp; omega)
      refine ⟨_, zs, getL_at, intsOf_map _, ⟨_, rfl⟩, fun ns' hp hs => ?_⟩
      simp! only []
      refine seqI ?_
      have hY9 : (S8 ++ [Mo.lst (zs.map Dv.int), Mo.lst (ns'.map Dv.int)])[S8.length + 1]? = some (.lst (ns'.map Dv.int)) := by rw [st_getk]; rfl
      have hX9 : (S8 ++ [Mo.lst (zs.map Dv.int), Mo.lst (ns'.map Dv.int)])[S6.length]? = some (.lst []) := get_old hX8
      have hx9 : Bx a b (S8 ++ [Mo.lst (zs.map Dv.int), Mo.lst (ns'.map Dv.int)]) := hx8.app
      have hL9 : Ld (S8 ++ [Mo.lst (zs.map Dv.int), Mo.lst (ns'.map Dv.int)]) d t e z as s 0 := hL8.app
      generalize S8 ++ [Mo.lst (zs.map Dv.int), Mo.lst (ns'.map Dv.int)] = S9 at *
      have hne := hx9.ne
      have hlt : ∀ j ∈ d :: t :: e :: z :: as, j < S6.length := fun j hj => by
        obtain ⟨c1, c2, c3, c4, c5⟩ := hlt6
        simp only [List.mem_cons] at hj
        rcases hj with w | w | w | w | w
        · omega
        · omega
        · omega
        · omega
        · exact c5 j w
      refine loop_ok CS CP CC (ns := ns') (as := as) hB hok hR (by omega) ⟨hx9, hL9, hX9, hY9, ?_⟩ (fun S10 as10 o9' hW => ?_)
      · refine List.nodup_cons.mpr ⟨fun w => ?_, List.nodup_cons.mpr ⟨fun w => ?_, List.nodup_cons.mpr ⟨fun w => ?_, List.nodup_cons.mpr ⟨fun w => ?_, hL.nd⟩⟩⟩⟩
        · rcases List.mem_cons.mp w with w | w
          · exact hne w
          · rcases List.mem_cons.mp w with w | w
            · omega
            · rcases List.mem_cons.mp w with w | w
              · omega
              · exact hab.1 w
        · rcases List.mem_cons.mp w with w | w
          · omega
          · rcases List.mem_cons.mp w with w | w
            · omega
            · exact hab.2 w
        · rcases List.mem_cons.mp w with w | w
          · omega
          · have := hlt _ w; omega
        · have := hlt _ w; omega
      dsimp only
      refine ifI ?_
      simp! only []
      refine ⟨B, s, n, rfl, hB, hok, hR, by omega, fun S11 i1 f11 l11 g11 => ?_⟩
      refine ⟨B, s, n, rfl, hB, hok, hR, by omega, fun S12 i2 f12 l12 g12 => ?_⟩
      have hW12 := (hW.keep f11).keep f12
      have g11' := f12.at g11 (by simp)
      simp! only []
      have gl : ∀ {j : Nat}, S12[j]? = some (.lst (outs B s n)) → getL (S12 ++ [Mo.lst [.obj i1, .obj i2], Mo.lst [.obj S6.length, .obj S6.length]]) j = some (outs B s n) := fun h => getL_old (getL_iff.mpr h)
      have hin : ∀ j, S12[j]? = some (.lst (outs B s n)) → SameD (S12 ++ [Mo.lst [.obj i1, .obj i2], Mo.lst [.obj S6.length, .obj S6.length]]) 4 (.obj j) (.obj S6.length) := fun j hj => by
        refine ⟨outs B s n, outs B s n, gl hj, gl hW12.x, by rw [outs_len]; omega, rfl, fun k x y e1 e2 => ?_⟩
        rw [e1] at e2
        cases e2
        have hm := List.mem_of_getElem? e1
        unfold outs at hm
        obtain ⟨k', _, rfl⟩ := List.mem_map.mp hm
        exact same_refl 3 _ (alS_out hB (SOk.it hB k' hok) 0)
      refine ⟨_, _, rfl, ⟨[.obj i1, .obj i2], [.obj S6.length, .obj S6.length], getL_at, by rw [st_getLk]; rfl, by show 2 < 100000; decide, rfl, fun k x y e1 e2 => ?_⟩, true, rfl, ?_⟩
      · match k, e1, e2 with
        | 0, e1, e2 => cases e1; cases e2; exact hin _ g11'
        | 1, e1, e2 => cases e1; cases e2; exact hin _ g12
        | k + 2, e1, e2 => simp at e1
      · simp! only []
        exact hK _ _ (.inl ⟨hW12.bx.app, _, _, _, _, _, _, _, _, _, _, rfl⟩)
  · rintro σ S' ⟨hx', o0, o2, o3, o4, o5, o6, o7, o8, o9, o10, rfl⟩
    dsimp! only []
    exact hret _
end K03
set_option Elab.async false
set_option linter.all false
set_option maxRecDepth 100000
set_option maxHeartbeats 2000000
set_option exponentiation.threshold 5000
namespace K13
open PySem PySem.Spec D3 K20 K11
open K03 hiding Sc SMv scF Imm r_law
open K07 (cut_from)
theorem cut_to {α : Type} (l : List α) {j : Nat} (h : j ≤ l.length) : cutD l none (some (j : Int)) = l.take j := by
  unfold cutD
  have e1 : HT.sIx l.length 0 none = 0 := rfl
  have e2 : HT.sIx l.length l.length (some (j : Int)) = j := by
    unfold HT.sIx
    simp only
    split <;> omega
  rw [e1, e2, List.drop_zero, Nat.sub_zero]
end K13
set_option Elab.async false
set_option linter.all false
set_option maxRecDepth 100000
set_option maxHeartbeats 2000000
set_option exponentiation.threshold 5000
namespace K16
open PySem PySem.Spec D3 K20 K11
open K03 hiding Sc SMv scF Imm r_law spAl r_al r_al0
open K13 (cut_to)
def defV (B : Bk) (k : Nat) : Dv := if k = 60 then .int (-1) else firstBad B.length k (B.getD k [])
def Defect (B : Bk) (r v : Int) : Prop := (B = [] ∧ r = 0 ∧ v = -1) ∨ ∃ k : Nat, k < B.length ∧ r = (k : Int) ∧ defV B k = .int v ∧ ∀ j, j < k → defV B j = .non
theorem firstBad_or (n k : Int) (r : List (List Itm)) : firstBad n k r = .non ∨ ∃ v : Int, firstBad n k r = .int v := by
  unfold firstBad
  split
  · split
    · exact .inr ⟨_, rfl⟩
    · exact .inl rfl
  · exact .inr ⟨_, rfl⟩
theorem defV_or (B : Bk) (k : Nat) : defV B k = .non ∨ ∃ v : Int, defV B k = .int v := by
  unfold defV
  split
  · exact .inr ⟨_, rfl⟩
  · exact firstBad_or _ _ _
theorem ok_or_defect {B : Bk} (hS : Small B) : BkOk B ∨ ∃ r v, Defect B r v := by
  by_cases h0 : B = []
  · exact .inr ⟨0, -1, .inl ⟨h0, rfl, rfl⟩⟩
  by_cases h : ∃ k, k < B.length ∧ defV B k ≠ .non
  · right
    have key : ∀ n, (∃ k, k < n ∧ k < B.length ∧ defV B k ≠ .non) → ∃ k, k < B.length ∧ defV B k ≠ .non ∧ ∀ j, j < k → defV B j = .non := by
      intro n
      induction n with
      | zero => rintro ⟨k, hk, _⟩; omega
      | succ n ih =>
        rintro ⟨k, hk, hl, hd⟩
        by_cases c : ∃ k, k < n ∧ k < B.length ∧ defV B k ≠ .non
        · exact ih c
        · refine ⟨k, hl, hd, fun j hj => ?_⟩
          rcases defV_or B j with e | ⟨v, e⟩
          · exact e
          · exact absurd ⟨j, by omega, by omega, by rw [e]; intro z; cases z⟩ c
    obtain ⟨k, h1, h2⟩ := h
    obtain ⟨k, h1, h2, h3⟩ := key B.length ⟨k, h1, h1, h2⟩
    rcases defV_or B k with e | ⟨v, e⟩
    · exact absurd e h2
    · exact ⟨k, v, .inr ⟨k, h1, rfl, e, h3⟩⟩
  · left
    have hall : ∀ k, k < B.length → defV B k = .non := fun k hk => by
      rcases defV_or B k with e | ⟨v, e⟩
      · exact e
      · exact absurd ⟨k, hk, by rw [e]; intro z; cases z⟩ h
    refine ⟨hS, ?_, ?_, fun k r hr => ?_⟩
    · cases B with
      | nil => exact absurd rfl h0
      | cons _ _ => simp
    · by_cases c : B.length ≤ 60
      · exact c
      · have := hall 60 (by omega)
        unfold defV at this
        rw [if_pos rfl] at this
        cases this
    · have hk := at_lt hr
      have h1 := hall k hk
      unfold defV at h1
      split at h1
      · cases h1
      · rw [List.getD_eq_getElem?_getD, hr] at h1
        exact h1
theorem ok_defV {B : Bk} (h : BkOk B) {k : Nat} (hk : k < B.length) : defV B k = .non := by
  have := h.le
  unfold K16.defV
  rw [if_neg (by omega)]
  exact h.ok k _ (by rw [List.getD_eq_getElem?_getD, List.getElem?_eq_getElem hk]; rfl)
def spVBook (CB : Addr) : Spd := fun ds S Q E => ∃ B : Bk, ds = [bkD B] ∧ Small B ∧ ((BkOk B ∧ Q .non S) ∨ ∃ r v, Defect B r v ∧ E ⟨CB, some (bbF r v)⟩ S)
theorem r_validate_book (CB : Addr) : ∀ ds S Qd Ed, spVBook CB ds S Qd Ed → StClo S → t_validate_book CB spFirstBad (WEx S.length Ed) { nx := fun _ S' => Gc S.length Qd .non S', rt := Gc S.length Qd } (startD 3 ds) S := by
  rintro _ S Qd Ed ⟨B, rfl, hS, h⟩ hc
  unfold t_validate_book
  by_cases h0 : B.length = 0
  · have hB : B = [] := List.eq_nil_of_length_eq_zero h0
    rcases h with ⟨hok, _⟩ | ⟨r, v, hd, h⟩
    · have := hok.pos; omega
    rcases hd with ⟨_, rfl, rfl⟩ | ⟨k, hk, _⟩
    · have h0' : (B.length : Int) = 0 := by omega
      refine seqI (ifI ?_)
      simp! only [bkD, List.length_map, h0', decide_true]
      simp! only [sRaiseK]
      exact .inl h
    · omega
  have h0' : ¬ (B.length : Int) = 0 := by omega
  refine seqI (ifI ?_)
  simp! only [bkD, List.length_map, h0', decide_false]
  refine sFor_inv (S1 := S) (jRg B.length) (fun i σ S' => S' = S ∧ (∀ j, j < i → defV B j = .non) ∧ ∃ o1 o2, σ = [some (bkD B), o1, o2]) (hw_rg1 (fun R hR => ?_) hS.1) ⟨rfl, fun j hj => by omega, none, none, rfl⟩ (fun _ _ _ _ _ => trivial) ?_ ?_
  · dsimp! only [List.length_map]
    exact hR
  · rintro i d σ S' hd ⟨rfl, hno, o1, o2, rfl⟩ KK hKK
    obtain ⟨hi, rfl⟩ := jRg_get hd
    obtain ⟨r, hr⟩ : ∃ r, B[i]? = some r := ⟨_, List.getElem?_eq_getElem hi⟩
    have hgd : B.getD i [] = r := by rw [List.getD_eq_getElem?_getD, hr]; rfl
    simp! only []
    refine seqI ?_
    have key : ∀ K : KD, K (defV B i) S' → eIf (cVal (eOp dEq (eVar 1) (eC c_MAX_REFRAINS))) (eUn dNeg (eC (.int 1))) (eCall spFirstBad (WEx S'.length Ed) (aCons (eVar 0) (aCons (eVar 1) aNil))) [some (bkD B), some (.int (i : Nat)), o2] S' K := fun K hK => by
      unfold defV at hK
      by_cases c : i = 60
      · have c' : (i : Int) = 60 := by omega
        rw [if_pos c] at hK
        simp! only [c_MAX_REFRAINS, c', decide_true]
        exact hK
      · have c' : ¬ (i : Int) = 60 := by omega
        rw [if_neg c] at hK
        simp! only [c_MAX_REFRAINS, c', decide_false]
        exact ⟨B, i, r, rfl, hS, hr, by rw [hgd] at hK; exact hK⟩
    simp only [sAsg, gNm]
    refine key _ ?_
    rcases defV_or B i with e | ⟨v, e⟩
    · rw [e]
      refine ifI ?_
      simp! only []
      exact hKK _ _ (.inl ⟨rfl, fun j hj => by
        by_cases c : j = i
        · rw [c]; exact e
        · exact hno j (by omega), _, _, rfl⟩)
    · rw [e]
      refine ifI ?_
      simp! only [sRaiseK]
      rcases h with ⟨hok, _⟩ | ⟨r', v', hd', h⟩
      · have := ok_defV hok hi
        rw [this] at e; cases e
      · rcases hd' with ⟨hB, _⟩ | ⟨k, hk, rfl, hv, hn⟩
        · rw [hB] at h0; exact absurd rfl h0
        · have : k = i := by
            rcases Nat.lt_trichotomy k i with c | c | c
            · have := hno k c; rw [this] at hv; cases hv
            · exact c
            · have := hn i c; rw [this] at e; cases e
          subst this
          rw [hv] at e
          cases e
          exact .inl h
  · rintro σ S' ⟨rfl, hno, o1, o2, rfl⟩
    rw [jRg_len] at hno
    rcases h with ⟨_, h⟩ | ⟨r, v, hd, _⟩
    · exact .inl h
    · rcases hd with ⟨hB, _⟩ | ⟨k, hk, rfl, hv, hn⟩
      · rw [hB] at h0; exact absurd rfl h0
      · have := hno k hk; rw [this] at hv; cases hv
theorem splice {α : Type} {l : List α} {i : Nat} (h : i < l.length) (x : α) : cutD l none (some (i : Int)) ++ [x] ++ cutD l (some ((i : Int) + 1)) none = l.set i x := by
  have e : (i : Int) + 1 = ((i + 1 : Nat) : Int) := by omega
  rw [e, cut_to l (Nat.le_of_lt h), K07.cut_from, List.set_eq_take_append_cons_drop, if_pos h, List.append_assoc]; rfl
theorem splice_len {α : Type} {l : List α} {i : Nat} : (cutD l none (some (i : Int))).length ≤ l.length ∧ (cutD l (some ((i : Int) + 1)) none).length ≤ l.length := by
  unfold cutD
  rw [List.length_take, List.length_take, List.length_drop, List.length_drop]
  omega
end K16
set_option Elab.async false
set_option linter.all false
set_option maxRecDepth 100000
set_option maxHeartbeats 2000000
set_option exponentiation.threshold 5000
namespace K09
open PySem PySem.Spec D3 K20 K11
end K09
set_option Elab.async false
set_option linter.all false
set_option maxRecDepth 100000
set_option maxHeartbeats 2000000
set_option exponentiation.threshold 5000
namespace K09
open PySem PySem.Spec D3 K20 K11
end K09
set_option Elab.async false
set_option linter.all false
set_option maxRecDepth 100000
set_option maxHeartbeats 2000000
set_option exponentiation.threshold 5000
namespace K09
open PySem PySem.Spec D3 K20 K11
end K09
set_option Elab.async false
set_option linter.all false
set_option maxRecDepth 100000
set_option maxHeartbeats 2000000
set_option exponentiation.threshold 5000
namespace K09
open PySem PySem.Spec D3 K20 K11
def cntR (n : Nat) (v : List Itm) : Int := (v.map fun x => if x = .ref (n : Int) then 1 else 0).sum
theorem item_st {u : Int} {N n : Nat} {w : Lw} {x : Itm} (hl : w.starts.length = N) (hn : n < N) (hx : ∀ m, x = .ref m → 0 ≤ m) : (itemStep u w x).starts.getD n 0 = w.starts.getD n 0 + u * (if x = .ref (n : Int) then 1 else 0) := by
  cases x with
  | wd y =>
    rw [item_wd, if_neg (by intro z; cases z)]; omega
  | ref m =>
    have hm := hx m rfl
    show (addAt w.starts m u).getD n 0 = _
    rw [List.getD_eq_getElem?_getD, List.getD_eq_getElem?_getD, addAt_get, List.getElem?_eq_getElem (by omega)]
    by_cases c : n = m.toNat
    · have e : Itm.ref m = Itm.ref (n : Int) := by congr 1; omega
      rw [if_pos e]
      simp [c]
    · have e : ¬ Itm.ref m = Itm.ref (n : Int) := fun z => by cases z; exact c (by omega)
      rw [if_neg e]
      simp [c]
theorem verse_st {u : Int} {N n : Nat} (hn : n < N) : ∀ (v : List Itm) (w : Lw), w.starts.length = N → (∀ m, Itm.ref m ∈ v → 0 ≤ m) → (v.foldl (itemStep u) w).starts.getD n 0 = w.starts.getD n 0 + u * cntR n v
  | [], w, _, _ => by
    show _ = _ + u * 0
    rw [Int.mul_zero, Int.add_zero]; rfl
  | x :: v, w, hl, hv => by
    have e : cntR n (x :: v) = (if x = .ref (n : Int) then 1 else 0) + cntR n v := by unfold cntR; rw [List.map_cons, List.sum_cons]
    rw [List.foldl_cons, verse_st hn v _ (by rw [item_len]; exact hl) fun m h => hv m (List.mem_cons_of_mem _ h), item_st hl hn fun m h => hv m (by rw [h]; exact List.mem_cons_self), e, Int.mul_add]
    omega
theorem verses_st {N n : Nat} (hn : n < N) : ∀ (l : List (Int × List Itm)) (w : Lw), w.starts.length = N → (∀ p ∈ l, ∀ m, Itm.ref m ∈ p.2 → 0 ≤ m) → (l.foldl verseStep w).starts.getD n 0 = w.starts.getD n 0 + (l.map fun p => p.1 * cntR n p.2).sum
  | [], w, _, _ => by simp
  | p :: l, w, hl, hv => by
    have e : verseStep w p = p.2.foldl (itemStep p.1) w := rfl
    rw [List.foldl_cons, verses_st hn l _ (by rw [e, items_len]; exact hl) fun q hq => hv q (List.mem_cons_of_mem _ hq), e, verse_st hn p.2 w hl (hv p List.mem_cons_self), List.map_cons, List.sum_cons]
    omega
abbrev sS (B : Bk) (ts : List Int) (s : Int) (k n : Nat) : Int := (bookK B ts s k).starts.getD n 0
theorem sS_zero {B : Bk} {ts : List Int} {s : Int} {n : Nat} (hn : n < B.length) : sS B ts s 0 n = if n = 0 then s else 0 := by
  show (startL B.length s).getD n 0 = _
  unfold startL
  rw [List.getD_eq_getElem?_getD, List.getElem?_set]
  by_cases z : n = 0
  · subst z; simp [hn]
  · rw [if_neg (fun y => z y.symm), if_neg z, List.getElem?_replicate, if_pos hn]; rfl
theorem sS_succ {B : Bk} (hB : BkOk B) {ts : List Int} {s : Int} {k n : Nat} {r : List (List Itm)} (hr : B[k]? = some r) (hn : n < B.length) :
    sS B ts s (k + 1) n = sS B ts s k n + (((usesL r.length (ts.getD k 0) (sS B ts s k k)).zip r).map fun p => p.1 * cntR n p.2).sum := by
  have hgd : B.getD k [] = r := by rw [List.getD_eq_getElem?_getD, hr]; rfl
  show (bookK B ts s (k + 1)).starts.getD n 0 = _
  rw [bookK_succ]
  unfold bookStep rowStep
  rw [hgd, verses_st hn _ _ (bookK_len k) fun p hp m hm => (hB.within r (List.mem_of_getElem? hr) p.2 (List.of_mem_zip (show (p.1, p.2) ∈ _ from hp)).2 m hm).1]
theorem uses_mul {n : Nat} (hn : 1 ≤ n) (t c : Int) : usesL n t (n * c) = List.replicate n c := by
  have hn0 : (0 : Int) < n := by omega
  unfold usesL
  refine List.ext_getElem? fun v => ?_
  rw [List.getElem?_map, List.getElem?_replicate]
  by_cases h : v < n
  · rw [List.getElem?_range h, if_pos h]
    show some (useOf n t (n * c) v) = some c
    congr 1
    unfold useOf
    have a0 := Int.emod_nonneg ((v : Int) - t) (Int.ne_of_gt hn0)
    rw [Int.mul_ediv_cancel_left _ (Int.ne_of_gt hn0), Int.mul_emod_right, decide_eq_false (by omega)]
    show c + 0 = c
    omega
  · rw [List.getElem?_eq_none (by rw [List.length_range]; omega), if_neg h]; rfl
theorem zip_rep (f : List Itm → Int) (c : Int) : ∀ r : List (List Itm), (((List.replicate r.length c).zip r).map fun p => p.1 * f p.2).sum = c * (r.map f).sum
  | [] => by simp
  | v :: r => by
    rw [List.length_cons, List.replicate_succ, List.zip_cons_cons, List.map_cons, List.map_cons, List.sum_cons, List.sum_cons, zip_rep f c r, Int.mul_add]
/-- every refrain below j has come around -/
def Good (B : Bk) (ts : List Int) (s : Int) (j : Nat) : Prop := ∀ i, i < j → ((B.getD i []).length : Int) ∣ sS B ts s i i
theorem scale {B : Bk} (hB : BkOk B) {ts ts' : List Int} {s m : Int} {j : Nat} (g : Good B ts s j) (hj : j ≤ B.length) : ∀ k, k ≤ j → ∀ n, n < B.length → sS B ts' (m * s) k n = m * sS B ts s k n
  | 0, _, n, hn => by
    rw [sS_zero hn, sS_zero hn]
    split <;> simp
  | k + 1, hk, n, hn => by
    have ih := scale hB (ts' := ts') (m := m) g hj k (by omega)
    obtain ⟨r, hr⟩ : ∃ r, B[k]? = some r := ⟨_, List.getElem?_eq_getElem (by omega)⟩
    have hgd : B.getD k [] = r := by rw [List.getD_eq_getElem?_getD, hr]; rfl
    have hrow := hB.row hr
    obtain ⟨c, hc⟩ := g k (by omega)
    rw [hgd] at hc
    have e1 : sS B ts' (m * s) k k = (r.length : Int) * (m * c) := by
      rw [ih k (by omega), hc, ← Int.mul_assoc, ← Int.mul_assoc, Int.mul_comm m]
    rw [sS_succ hB hr hn, sS_succ hB hr hn, ih n hn, e1, hc, uses_mul hrow.1, uses_mul hrow.1, zip_rep, zip_rep, Int.mul_add, Int.mul_assoc]
end K09
set_option Elab.async false
set_option linter.all false
set_option maxRecDepth 100000
set_option maxHeartbeats 2000000
set_option exponentiation.threshold 5000
namespace K09
open PySem PySem.Spec D3 K20 K11
end K09
set_option Elab.async false
set_option linter.all false
set_option maxRecDepth 100000
set_option maxHeartbeats 2000000
set_option exponentiation.threshold 5000
namespace K09
open PySem PySem.Spec D3 K20 K11
def Tt (n : Int) : Prop := ∃ a b : Nat, n = ((2 ^ a * 3 ^ b : Nat) : Int)
theorem Tt.one : Tt 1 := ⟨0, 0, rfl⟩
theorem Tt.small {n : Int} (h0 : 1 ≤ n) (h1 : n ≤ 4) : Tt n := by
  have : n = 1 ∨ n = 2 ∨ n = 3 ∨ n = 4 := by omega
  rcases this with rfl | rfl | rfl | rfl
  · exact ⟨0, 0, rfl⟩
  · exact ⟨1, 0, rfl⟩
  · exact ⟨0, 1, rfl⟩
  · exact ⟨2, 0, rfl⟩
theorem Tt.pos {n : Int} (h : Tt n) : 1 ≤ n := by
  obtain ⟨a, b, rfl⟩ := h
  have : 0 < 2 ^ a * 3 ^ b := Nat.mul_pos (Nat.pow_pos (by decide)) (Nat.pow_pos (by decide))
  omega
end K09
set_option Elab.async false
set_option linter.all false
set_option maxRecDepth 100000
set_option maxHeartbeats 2000000
set_option exponentiation.threshold 5000
namespace K09
open PySem PySem.Spec D3 K20 K11
theorem denL_strs {f : Nat → Option PyData} : ∀ ys : List Str, denL f (ys.map Dv.str) = some (ys.map PyData.str)
  | [] => by simp [denL]
  | y :: ys => by
    rw [List.map_cons, denL, denL_strs ys]
    rfl
theorem fO_strs {S : Store} {b : Nat} {ys : List Str} (h : getL S b = some (ys.map Dv.str)) : den (fO S 4) (.obj b) = some (.list (ys.map PyData.str)) := by
  show fO S 4 b = _
  rw [fO, h]
  show (denL (fO S 3) (ys.map Dv.str)).map PyData.list = _
  rw [denL_strs]; rfl
theorem shaped_strs : ∀ ys : List Str, (∀ y ∈ ys, PyData.canLay0 (.str y) = true) → SeqAt.shaped (.list (ys.map PyData.str)) = true := by
  intro ys h
  have h1 : ∀ ys : List Str, (∀ y ∈ ys, PyData.canLay0 (.str y) = true) → PyData.canLayAll0 (ys.map PyData.str) = true := fun ys => by
    induction ys with
    | nil => intro _; simp [PyData.canLayAll0]
    | cons n ns ih =>
      intro h
      rw [List.map_cons, PyData.canLayAll0, h n List.mem_cons_self, ih fun y hy => h y (List.mem_cons_of_mem _ hy)]; rfl
  have h2 : ∀ ys : List Str, PyData.depthAll (ys.map PyData.str) ≤ 1 := fun ys => by
    induction ys with
    | nil => simp [PyData.depthAll]
    | cons n ns ih => simp [PyData.depthAll, PyData.depth]; omega
  have h3 := h2 ys
  simp [SeqAt.shaped, PyData.canLay0, PyData.depth, h1 ys h]
  omega
end K09
set_option Elab.async false
set_option linter.all false
set_option maxRecDepth 100000
set_option maxHeartbeats 2000000
set_option exponentiation.threshold 5000
namespace K16
open PySem PySem.Spec D3 K20 K11
open K03 hiding Sc SMv scF Imm r_law spAl r_al r_al0
open K09 (fO_strs shaped_strs)
def inAZ (c : Nat) : Bool := (!decide (([c] : List Nat) < ("a" : Str).cps.toList)) && (!decide (("z" : Str).cps.toList < ([c] : List Nat)))
def wordL (y : Str) : Bool := decide (1 ≤ y.length) && decide (y.length ≤ 8) && y.cps.toList.all inAZ
def LawW (y : Str) : Prop := y.length < 1000 ∧ (∀ c ∈ y.cps.toList, PyData.canLay0 (.str ⟨#[c]⟩) = true) ∧ wordOk y = wordL y
def lawWB (y : Str) : Bool := decide (y.length < 1000) && (y.cps.toList.all fun c => PyData.canLay0 (.str ⟨#[c]⟩)) && decide (wordOk y = wordL y)
theorem lawW_of {y : Str} (h : lawWB y = true) : LawW y := by
  unfold lawWB at h
  simp only [Bool.and_eq_true, decide_eq_true_eq, List.all_eq_true] at h
  exact ⟨h.1.1, h.1.2, h.2⟩
theorem eqv_nil_s (ys : List Str) : PyData.eqv (.list (ys.map PyData.str)) (.list []) = decide (ys = []) := by
  cases ys <;> simp [PyData.eqv, PyData.eqvAll]
theorem flt_nil (cs : List Nat) : decide (((cs.filter fun c => !inAZ c).map fun c => (⟨#[c]⟩ : Str)) = []) = cs.all inAZ := by
  rw [Bool.eq_iff_iff, decide_eq_true_eq, List.map_eq_nil_iff, List.filter_eq_nil_iff, List.all_eq_true]
  constructor
  · intro h c hc
    have := h c hc
    simpa using this
  · intro h c hc
    rw [h c hc]
    simp
end K16
set_option Elab.async false
set_option linter.all false
set_option maxRecDepth 100000
set_option maxHeartbeats 2000000
namespace LamD
open PySem PySem.Spec PySem.Calls PyProof.Rows L2 LamX PySem.W
/-- such a lambda: its parameter's name, its default -/
def dPar (pn : Str) (pp : Pos) (d : Expr) : Arguments := ⟨[], [⟨pn, .none, pp⟩], .none, [], [], .none, [d]⟩
abbrev fnD (name qual : Str) (params : Arguments) (body : Expr) (scope : Scope) (cl : List (Str × Addr)) (pm cdv ct dV : Value) : FuncData :=
  { name, qualname := qual, params, body := .expr body, scope, globals := mainGlobals, closure := cl, defaults := dV, kwdefaults := .none, doc := .none, pyModule := pm, annotations := none, code := cdv, closureTuple := ct, builtins := builtinsNs }
abbrev objD (name qual : Str) (params : Arguments) (body : Expr) (scope : Scope) (clos : List (Str × Addr)) (pm : Value) (c' : Addr) (ctv dV : Value) : Obj :=
  { cls := .type "function", data := .func (fnD name qual params body scope clos pm (.ref c') ctv dV) }
section
variable {M : Model} {A : Around} {E : Value → Shared → Prop} {s : Shared} {name qual : Str} {params : Arguments} {body : Expr} {scope : Scope} {env : Env} {c P : Addr} {ps : Array Value} {pos : Pos} {firstLine : Nat} {mg : Str → Option Value}
  {clos : List (Str × Addr)} {Q : Value → Shared → Prop} {dV : Value}
theorem makeTailD (hcl : closureFor scope env = pure clos) (hge0 : env.globals = mainGlobals) (hg : s.heap.Ns mainGlobals mg) (hcode : env.code = .ref c) (C : CodeHd s.heap c P) (hP : s.heap.get? P = some (tabObj ps)) (ht : TriplesOk ps.toList)
    (hnf : codeAmong pos ps.toList = none) (hgP : mainGlobals ≠ P) (hb : s.heap.BuiltinsAt mg P)
    (h : ∀ c' ctv h' tk, Heap.ExtBut P s.heap h' → s.heap.objs.size ≤ c' → c' < h'.objs.size → h'.CodeRec (.ref c') qual → h'.get? P = some (tabObj (ps ++ #[rawInt pos.line, rawInt pos.col, .ref c'])) →
      Q (.ref h'.objs.size) { s with heap := h'.push (objD name qual params body scope clos ((mg "__name__").getD .none) c' ctv dV), toks := tk }) :
    wpAny M A (makeTail name qual params (.expr body) scope env dV .none none pos firstLine) Q E s := by
  obtain ⟨bm, ob, hbm, hne0, _, hneP, hbo, hcls, hdict, hdata⟩ := hb
  unfold makeTail
  rw [hcl, hge0]
  refine wpAny_bind (wpAny_pure ?_)
  cases clos with
  | nil =>
    simp only [List.isEmpty_nil, if_true]
    refine wpAny_bind (wpAny_pure ?_)
    refine wpAny_bind (wpAny_functionCodeX hcode (C.code hP ht) (C.tab hP) hnf fun c' h' tk hx hge hlt _ hrec htb _ => ?_)
    have hg' := hg.extBut hx hgP
    refine wpAny_bind (wpAny_builtinsFor hg' hbm hne0 (hx _ _ hneP hbo) hcls hdict hdata ?_)
    refine wpAny_bind (wpAny_nsGet hg' ?_)
    exact wpAny_bind (wpAny_pure (wpAny_newObj_type (h c' .none h' tk hx hge hlt hrec htb.2) (by size_fits)))
  | cons q r =>
    simp only [List.isEmpty_cons, Bool.false_eq_true, if_false]
    refine wpAny_bind (wpAny_newTextTuple ?_)
    refine wpAny_bind (wpAny_functionCodeX hcode ((C.keeps fun b o e => Heap.get?_push_of_some _ e).code (Heap.get?_push_of_some _ hP) ht) ((C.keeps fun b o e => Heap.get?_push_of_some _ e).tab (Heap.get?_push_of_some _ hP)) hnf fun c' h' tk hx hge hlt _ hrec htb _ => ?_)
    have hg' := (hg.push _).extBut hx hgP
    have hx' : Heap.ExtBut P s.heap h' := fun b o hb' e => hx b o hb' (Heap.get?_push_of_some _ e)
    have hge' : s.heap.objs.size ≤ c' := Nat.le_trans (by rw [Heap.size_push]; omega) hge
    refine wpAny_bind (wpAny_builtinsFor hg' hbm hne0 (hx' _ _ hneP hbo) hcls hdict hdata ?_)
    refine wpAny_bind (wpAny_nsGet hg' ?_)
    exact wpAny_bind (wpAny_pure (wpAny_newObj_type (h c' _ h' tk hx' hge' hlt hrec htb.2) (by size_fits)))
theorem makeTailHitD {cv : Value} (hcl : closureFor scope env = pure clos) (hge0 : env.globals = mainGlobals) (hg : s.heap.Ns mainGlobals mg) (hcode : env.code = .ref c) (C : CodeHd s.heap c P) (hP : s.heap.get? P = some (tabObj ps)) (ht : TriplesOk ps.toList)
    (hf : codeAmong pos ps.toList = some cv) (hb : s.heap.BuiltinsAt mg P)
    (h : ∀ (ctv : Value) (h' : Heap) (tk : Tok), (∀ b o, s.heap.get? b = some o → h'.get? b = some o) → s.heap.objs.size ≤ h'.objs.size →
      Q (.ref h'.objs.size) { s with heap := h'.push { cls := .type "function", data := .func (fnD name qual params body scope clos ((mg "__name__").getD .none) cv ctv dV) }, toks := tk }) :
    wpAny M A (makeTail name qual params (.expr body) scope env dV .none none pos firstLine) Q E s := by
  obtain ⟨bm, ob, hbm, hne0, _, hneP, hbo, hcls, hdict, hdata⟩ := hb
  unfold makeTail
  rw [hcl, hge0]
  refine wpAny_bind (wpAny_pure ?_)
  cases clos with
  | nil =>
    simp only [List.isEmpty_nil, if_true]
    refine wpAny_bind (wpAny_pure ?_)
    refine wpAny_bind (wpAny_functionCode_hit hcode (C.code hP ht) hf ?_)
    refine wpAny_bind (wpAny_builtinsFor hg hbm hne0 hbo hcls hdict hdata ?_)
    refine wpAny_bind (wpAny_nsGet hg ?_)
    exact wpAny_bind (wpAny_pure (wpAny_newObj_type (h .none s.heap s.toks (fun _ _ e => e) (Nat.le_refl _)) (by size_fits)))
  | cons q r =>
    simp only [List.isEmpty_cons, Bool.false_eq_true, if_false]
    refine wpAny_bind (wpAny_newTextTuple ?_)
    refine wpAny_bind (wpAny_functionCode_hit hcode ((C.keeps fun b o e => Heap.get?_push_of_some _ e).code (Heap.get?_push_of_some _ hP) ht) hf ?_)
    refine wpAny_bind (wpAny_builtinsFor (hg.push _) hbm hne0 (Heap.get?_push_of_some _ hbo) hcls hdict hdata ?_)
    refine wpAny_bind (wpAny_nsGet (hg.push _) ?_)
    have hsz : ∀ oT : Obj, s.heap.objs.size ≤ (s.heap.push oT).objs.size := fun oT => by rw [Heap.size_push]; omega
    exact wpAny_bind (wpAny_pure (wpAny_newObj_type (h _ _ s.toks (fun b o e => Heap.get?_push_of_some _ e) (hsz _)) (by size_fits)))
/-- the default's tuple -/
abbrev tupD (v : Value) : Obj := { cls := .type "tuple", data := .seq [v].toArray }
theorem makeFunctionD {v : Value} (h : wpAny M A (makeTail name qual params (.expr body) scope env (.ref s.heap.objs.size) .none none pos firstLine) Q E { s with heap := s.heap.push (tupD v) }) :
    wpAny M A (makeFunction name qual params (.expr body) scope env [v] [] [] pos firstLine) Q E s := by
  rw [makeFunction_eq]
  simp only [List.zip_nil_right, List.filterMap_nil, List.isEmpty_nil, List.isEmpty_cons, Bool.false_eq_true, if_false, if_true, pure_bind]
  exact wpAny_bind (wpAny_newTextTuple h)
end
section
variable {X : Cx} {pins : List (Addr × Obj)} {σ : L2.St} {H : Hp} {s : Shared}
theorem lam_make2D {T : List (Addr × Str)} {c P : Addr} {pn : Str} {pp : Pos} {de : Expr} {body : Expr} {scope : Scope} {pos : Pos} {E : Value → Shared → Prop} {Q : Value → Shared → Prop} (I : Inv X pins σ H s) (TB : TabB X.base X.mg c P) (hcode : X.env.code = .ref c)
    (hm : (P, X.env.qual ++ "<lambda>") ∈ T) (hu : ∀ p ∈ T, p.1 = P → p.2 = X.env.qual ++ "<lambda>") (hT : Tabs T H) (hde : ∀ (Q : Value → Shared → Prop) (E : Value → Shared → Prop), (∀ u tk, Q u { s with toks := tk }) → wpAny (model X.prog X.w) X.A (eval de X.env) Q E s) (hfree : ∀ y ∈ scope.names, y.2 = .free → ∃ c, X.env.cells.lookup y.1 = some c)
    (h : ∀ (f c' t : Addr) (u pm ctv : Value) (H1 : Hp) (s' : Shared), Inv X pins σ H1 s' → ExtN H H1 → Tabs T H1 →
      s'.heap.get? f = some (objD "<lambda>" (X.env.qual ++ "<lambda>") (dPar pn pp de) body scope (cloFrom X.env.cells scope.names []) pm c' ctv (.ref t)) → H1 f = none → f ∉ frs X.stack → H1 c' = some (CodeO c' (X.env.qual ++ "<lambda>")) → s'.heap.get? t = some (tupD u) → H1 t = none → t ∉ frs X.stack → Q (.ref f) s') :
    wpAny (model X.prog X.w) X.A (eval (.Lambda (dPar pn pp de) body scope pos) X.env) Q E s := by
  obtain ⟨ps, hP, ht, ha⟩ := hT _ hm
  rw [arm_eval_Lambda]
  show wpAny _ X.A (do let dv ← evalAll [eval de X.env]; let kdv ← holding dv (evalAllOpt []); makeFunction "<lambda>" (X.env.qual ++ "<lambda>") (dPar pn pp de) (.expr body) scope X.env dv kdv [] pos pos.line) Q E s
  refine wpAny_bind ?_
  show wpAny _ X.A (do let v ← eval de X.env; let r ← holding [v] (evalAll []); pure (v :: r)) _ E s
  refine wpAny_bind (hde _ _ fun u tk0 => ?_)
  refine wpAny_bind (wpAny_holding (wpAny_pure (wpAny_pure ?_)))
  refine wpAny_bind (wpAny_holding (wpAny_pure ?_))
  refine makeFunctionD ?_
  have I0 : Inv X pins σ H { s with toks := tk0 } := I.tok _
  have bP : s.heap.BuiltinsAt X.mg P := TB.bm.keeps I.bk
  have hP' : s.heap.get? P = some { cls := .none, data := .fields ps } := I.hok P _ hP
  have hp1 : ∀ b o, s.heap.get? b = some o → (s.heap.push (tupD u)).get? b = some o := fun b o e => Heap.get?_push_of_some _ e
  have hs1 : s.heap.objs.size ≤ (s.heap.push (tupD u)).objs.size := by rw [Heap.size_push]; omega
  have hlt1 : s.heap.objs.size < (s.heap.push (tupD u)).objs.size := by rw [Heap.size_push]; omega
  have htT : (s.heap.push (tupD u)).get? s.heap.objs.size = some (tupD u) := Heap.get?_push_size _ rfl
  have nofr : ∀ f, s.heap.objs.size ≤ f → f ∉ frs X.stack := fun f hf z => by
    rcases List.mem_cons.mp (I.stkSub _ z) with e | e
    · have h1 := I.lt
      rw [← e] at h1
      exact Nat.lt_irrefl _ (Nat.lt_of_lt_of_le h1 hf)
    · exact I.nofs hf e
  have hPt : P < s.heap.objs.size := Heap.lt_size hP'
  cases hc : codeAmong pos ps.toList with
  | none =>
    refine makeTailD (s := { s with heap := s.heap.push (tupD u), toks := tk0 }) (mg := X.mg) (c := c) (P := P) (ps := ps) (closure_ok hfree) I.ok.glob ((I.mod.glob.keeps I.bk).keeps hp1) hcode ((TB.code.keeps I.bk).keeps hp1) (hp1 _ _ hP') ht hc TB.gP (bP.keeps hp1) fun c' ctv h' tk hx hge hlt hrec htb => ?_
    obtain ⟨c2, oc, vs, t, e2, hoc, hd, hv⟩ := hrec
    cases e2
    have hge0 : s.heap.objs.size ≤ c' := Nat.le_trans hs1 hge
    have hsz : s.heap.objs.size ≤ h'.objs.size := Nat.le_trans hge0 (Nat.le_of_lt hlt)
    have nC : H c' = none := I.hok.fresh hge0
    have I1 := inv_table (t' := tk) (more := #[rawInt pos.line, rawInt pos.col, .ref c']) (h' := h'.push (objD "<lambda>" (X.env.qual ++ "<lambda>") (dPar pn pp de) body scope (cloFrom X.env.cells scope.names []) ((X.mg "__name__").getD .none) c' ctv (.ref s.heap.objs.size))) I hP
      (fun b o hb e => Heap.get?_push_of_some _ (hx b o hb (hp1 b o e))) (Heap.get?_push_of_some _ htb) hge0 ⟨oc, vs, t, Heap.get?_push_of_some _ hoc, hd, hv⟩
    have hE : ExtN H (upd (upd H P (.tbl (ps ++ #[rawInt pos.line, rawInt pos.col, .ref c']))) c' (CodeO c' (X.env.qual ++ "<lambda>"))) := fun b o e n => by
      rw [upd_ne (ne_of_none e nC), upd_ne (fun z => n ps (Option.some.inj (e.symm.trans (by rw [z]; exact hP))))]
      exact e
    have eL : (ps ++ #[rawInt pos.line, rawInt pos.col, .ref c']).toList = ps.toList ++ [rawInt pos.line, rawInt pos.col, .ref c'] := by simp
    have tP : s.heap.objs.size ≠ P := Nat.ne_of_gt hPt
    have tc : s.heap.objs.size ≠ c' := Nat.ne_of_lt (Nat.lt_of_lt_of_le hlt1 hge)
    refine h h'.objs.size c' s.heap.objs.size u ((X.mg "__name__").getD .none) ctv _ _ I1 hE (fun p hp => ?_) (Heap.get?_push_size _ rfl) ?_ (nofr _ hsz) upd_same (Heap.get?_push_of_some _ (hx _ _ tP htT)) ?_ (nofr _ (Nat.le_refl _))
    · by_cases hb : p.1 = P
      · rw [hu p hp hb, hb]
        refine ⟨_, by rw [upd_ne (ne_of_none hP nC), upd_same], by rw [eL]; exact PySem.TriplesOk_snoc _ _ _ _ ht, fun p' cv hcv => ?_⟩
        rw [eL] at hcv
        rcases among_app _ ht hcv with z | z
        · obtain ⟨c0, e1, e2⟩ := ha p' cv z
          exact ⟨c0, e1, hE _ _ e2 codeO_ne⟩
        · exact ⟨c', z, upd_same⟩
      · obtain ⟨ps', a1, a2, a3⟩ := hT p hp
        refine ⟨ps', by rw [upd_ne (ne_of_none a1 nC), upd_ne hb]; exact a1, a2, fun p' cv hcv => ?_⟩
        obtain ⟨c0, e1, e2⟩ := a3 p' cv hcv
        exact ⟨c0, e1, hE _ _ e2 codeO_ne⟩
    · have n1 : h'.objs.size ≠ c' := Nat.ne_of_gt hlt
      have n2 : h'.objs.size ≠ P := Nat.ne_of_gt (Nat.lt_of_lt_of_le hPt hsz)
      rw [upd_ne n1, upd_ne n2]
      exact I.hok.fresh hsz
    · rw [upd_ne tc, upd_ne tP]
      exact I.hok.fresh (Nat.le_refl _)
  | some cv =>
    obtain ⟨c', e, hco⟩ := ha pos cv hc
    subst e
    refine makeTailHitD (s := { s with heap := s.heap.push (tupD u), toks := tk0 }) (mg := X.mg) (c := c) (P := P) (ps := ps) (closure_ok hfree) I.ok.glob ((I.mod.glob.keeps I.bk).keeps hp1) hcode ((TB.code.keeps I.bk).keeps hp1) (hp1 _ _ hP') ht hc (bP.keeps hp1) fun ctv h' tk hx hsz0 => ?_
    have hsz : s.heap.objs.size ≤ h'.objs.size := Nat.le_trans hs1 hsz0
    have I1 : Inv X pins σ H { s with heap := h'.push (objD "<lambda>" (X.env.qual ++ "<lambda>") (dPar pn pp de) body scope (cloFrom X.env.cells scope.names []) ((X.mg "__name__").getD .none) c' ctv (.ref s.heap.objs.size)), toks := tk } := I.kept fun b o e => Heap.get?_push_of_some _ (hx b o (hp1 b o e))
    exact h h'.objs.size c' s.heap.objs.size u ((X.mg "__name__").getD .none) ctv H _ I1 (ExtN.refl H) hT (Heap.get?_push_size _ rfl) (I.hok.fresh hsz) (nofr _ hsz) hco (Heap.get?_push_of_some _ (hx _ _ htT)) (I.hok.fresh (Nat.le_refl _)) (nofr _ (Nat.le_refl _))
end
/-- one parameter, else captured names and globals -/
structure LamDS (sc scope : Scope) (N : List Str) (pn : Str) : Prop where
  kind : scope.kind = .function
  co : scope.isCoroutine = false
  gen : scope.isGenerator = false
  own : ∀ y ∈ scope.names, y.2 ≠ .cell ∧ (y.2 = .local → y.1 = pn)
  par : scope.names.lookup pn = some .local
  notin : pn ∉ N
  free : ∀ y ∈ scope.names, y.2 = .free → sc.names.lookup y.1 = some .cell ∨ sc.names.lookup y.1 = some .free
def lamDB (sc scope : Scope) (N : List Str) (pn : Str) : Bool :=
  decide (scope.kind = .function) && !scope.isCoroutine && !scope.isGenerator && (scope.names.all fun y => !decide (y.2 = .cell) && (!decide (y.2 = .local) || decide (y.1 = pn)) && (!decide (y.2 = .free) || decide (sc.names.lookup y.1 = some .cell) || decide (sc.names.lookup y.1 = some .free))) && decide (scope.names.lookup pn = some .local) && !N.contains pn
theorem lamD_by {sc scope : Scope} {N : List Str} {pn : Str} (h : lamDB sc scope N pn = true) : LamDS sc scope N pn := by
  unfold lamDB at h
  simp only [Bool.and_eq_true, Bool.or_eq_true, Bool.not_eq_true', decide_eq_true_eq, decide_eq_false_iff_not, List.all_eq_true] at h
  obtain ⟨⟨⟨⟨⟨h1, h2⟩, h3⟩, h4⟩, h5⟩, h6⟩ := h
  refine ⟨h1, h2, h3, fun y hy => ⟨(h4 y hy).1.1, fun e => ?_⟩, h5, fun z => ?_, fun y hy e => ?_⟩
  · rcases (h4 y hy).1.2 with z | z
    · exact absurd e z
    · exact z
  · rw [List.contains_iff_mem.mpr z] at h6
    cases h6
  · rcases (h4 y hy).2 with (z | z) | z
    · exact absurd e z
    · exact .inl z
    · exact .inr z
theorem LamDS.has {X : Cx} {scope : Scope} {N : List Str} {pn : Str} (L : LamDS X.env.scope scope N pn) (ok : X.Ok) : ∀ y ∈ scope.names, y.2 = .free → ∃ c, X.env.cells.lookup y.1 = some c := fun y hy e => by
  rcases L.free y hy e with k | k
  · exact ok.has _ (.inl k)
  · exact ok.has _ (.inr k)
theorem bindD {s : Shared} {t : Addr} {u : Value} {q pn : Str} {pp : Pos} {de body : Expr} {scope : Scope} {cl : List (Str × Addr)} {pm cv ctv : Value} (ht : s.heap.get? t = some (tupD u)) : BindsTo s (fnD "<lambda>" q (dPar pn pp de) body scope cl pm cv ctv (.ref t)) ⟨[], []⟩ [(pn, u)] :=
  BindsTo.of_defaults rfl ht rfl rfl (by simp [dPar, List.lookup])
section
variable {X : Cx} {pins : List (Addr × Obj)} {σ : L2.St} {H HZ : Hp} {s s1 : Shared}
theorem lam_start2D {pn : Str} {u : Value} {A : Around} {outer : List Env} {E : XK} {scope : Scope} {f c' : Addr} {h₁ : Heap} {tk : Nat} (I : Inv X pins σ H s) (L : LamDS X.env.scope scope X.N pn) (e0 : Env0 X.prog X.w X.K X.mg X.base A outer s1 HZ) (hd : A.handled = none)
    (un : Un (frs X.stack) [] H HZ s.heap s1.heap) (hns : h₁.Ns s1.heap.objs.size fun y => [(pn, u)].reverse.lookup y) (kp : ∀ b o, s1.heap.get? b = some o → h₁.get? b = some o) :
    Inv (lamCx X A outer s1 HZ E scope f c') [] σ HZ { s1 with heap := h₁, toks := tk } := by
  have hfree := L.has I.ok
  have cm : ∀ {y c}, (cloFrom X.env.cells scope.names []).lookup y = some c → X.env.cells.lookup y = some c := fun {y c} e => by
    rcases cloFrom_mem (PySem.mem_of_lookup e) with hm | ⟨h1, h2⟩
    · cases hm
    · obtain ⟨c1, hc⟩ := hfree _ h1 rfl
      have hc : X.env.cells.lookup y = some c1 := hc
      have e2 : c = c1 := by
        rw [h2, hc] <;> rfl
      rw [e2]
      exact hc
  have look : ∀ {y}, scope.names.lookup y = some .free → ∃ c, (cloFrom X.env.cells scope.names []).lookup y = some c := fun {y} hl => by
    have hy : (y, NameKind.free) ∈ scope.names := PySem.mem_of_lookup hl
    exact mem_lookup (cloFrom_has (cells := X.env.cells) (acc := []) hy)
  have cellK : ∀ {c : Addr} {v : Option Value}, H c = none → s.heap.IsCell c v → h₁.IsCell c v := fun {c v} n ⟨o, ho, hd⟩ => by
    obtain ⟨sl, q⟩ := un.any ho n (by simp)
    exact ⟨_, kp _ _ q, hd⟩
  have noA : ∀ b : Addr, b ∉ (lamCx X A outer s1 HZ E scope f c').ex := fun b z => absurd (show b ∈ ([] : List Addr) from z) (by simp)
  refine ⟨⟨e0.mod, L.kind, rfl, rfl, Nat.le_refl _, fun y z c e1 e2 => I.ok.inj y z c (cm e1) (cm e2), fun y hy => ?_, fun y c z _ => ?_, fun _ => hd, Around.frames_deeper e0.frames, .inr ⟨rfl, rfl⟩, fun b z => absurd z (noA b), e0.bs, e0.bsz, fun b _ _ => noA b,
      fun b z => absurd z (noA b), e0.funs, e0.frf⟩,
    rfl, e0.bare, Un.kept kp, ⟨_, hns, fun i y v e1 e2 e3 => ?_⟩, fun y c e => ?_, e0.hok.fresh (Nat.le_refl _), fun y c e => ?_, fun q hq => absurd (show q ∈ ([] : List (Addr × Obj)) ++ [] from hq) (by simp), e0.hok.kept kp, I.len⟩
  · have hy : scope.names.lookup y = some .cell ∨ scope.names.lookup y = some .free := hy
    rcases hy with hy | hy
    · exact absurd rfl (L.own _ (PySem.mem_of_lookup hy)).1
    · exact look hy
  · have z : false = true := z
    cases z
  · have e3 : Vis scope y := e3
    rcases e3 with k | k | k
    · have ey := (L.own _ (PySem.mem_of_lookup k)).2 rfl
      have ey : y = pn := ey
      exact absurd (List.mem_of_getElem? (show X.N[i]? = some y from e1)) (by rw [ey]; exact L.notin)
    · exact absurd rfl (L.own _ (PySem.mem_of_lookup k)).1
    · obtain ⟨m, hn, hl⟩ := I.loc
      have hvis : Vis X.env.scope y := (L.free _ (PySem.mem_of_lookup k) rfl).elim (fun k => .inr (.inl k)) (fun k => .inr (.inr k))
      obtain ⟨w', r, q⟩ := hl i y v e1 e2 hvis
      obtain ⟨c2, h2⟩ := look k
      refine ⟨w', r, .inr ⟨.inr k, c2, h2, ?_⟩⟩
      have c1 := cm h2
      rcases q with ⟨k', _⟩ | ⟨_, c3, e', z⟩
      · have k' : X.env.scope.names.lookup y = some .local := k'
        rcases L.free _ (PySem.mem_of_lookup k) rfl with k2 | k2 <;> rw [show X.env.scope.names.lookup y = _ from k2] at k' <;> cases k'
      · rw [c1] at e'
        cases e'
        exact cellK (I.freeC y _ c1) z
  · obtain ⟨w', z⟩ := I.cell y c (cm e)
    exact ⟨w', cellK (I.freeC y c (cm e)) z⟩
  · obtain ⟨v, o, ho, hd⟩ := I.cell y c (cm e)
    exact un.free c o ho (I.freeC y c (cm e)) (by simp)
/-- x(), in the def that got the lambda: Z is that def's context, entered at s -/
theorem pe_actD {pn : Str} {pp : Pos} {de : Expr} {u : Value} {tt : Addr} {CXg : CXT} {Eg : XK} {Ng : List Str} {qg : Str} {sg : Scope} {g f c' : Addr} {cdg pm ctv : Value} {body : Expr} {scope : Scope} {k i : Nat} {a : Str} {pl : List (Addr × Obj)} {xe : Value → Shared → Prop} {W : WX} {E : XK} {tb : TE} {p1 p2 : Pos}
    (I : Inv X pins σ H s) (L : LamDS X.env.scope scope X.N pn) (hf : s.heap.get? f = some (objD "<lambda>" (X.env.qual ++ "<lambda>") (dPar pn pp de) body scope (cloFrom X.env.cells scope.names []) pm c' ctv (.ref tt))) (hfn : H f = none) (hfr : f ∉ frs X.stack)
    (hft : s.heap.get? tt = some (tupD u)) (htn : H tt = none) (htr : tt ∉ frs X.stack)
    (tk : Takes ((cxOf CXg X.prog X.w X.K X.mg X.base Ng qg sg g cdg X.A X.stack s H Eg).tr pl xe) W) (hW : ∀ cls d σ' H', E cls d H' → W cls d σ' H') (hr : Room (k + 1) (X.A.deeper (envOfC qg sg s.heap.objs.size g cdg)))
    (hbody : ∀ (A : Around) (outer : List Env) (s : Shared) (H : Hp), Room k (A.deeper (lamEnv X scope s.heap.objs.size f c')) → PE (lamCx X A outer s H E scope f c') body tb)
    (hN : Ng[i]? = some a) (hv : Vis sg a) (hd : (a == ("__debug__" : Str)) = false := by decide) (hcd : (a == ("__classdict__" : Str)) = false := by decide) :
    PE ((cxOf CXg X.prog X.w X.K X.mg X.base Ng qg sg g cdg X.A X.stack s H Eg).tr pl xe) (.Call (.Name a p1) [] [] p2)
      (fun σZ HZ Q => σZ[i]? = some (some (.ref f)) ∧ HZ c' = some (CodeO c' (X.env.qual ++ "<lambda>")) ∧ tb σ HZ Q) := by
  refine ⟨fun pinsZ sZ σZ HZ Q IZ h => ?_⟩
  obtain ⟨hs, hc, ht⟩ := h
  refine wpAny_Call_Name_kw (thn ((pe_var (pos := p1) (i := i) hN hv hd hcd).run pinsZ sZ σZ HZ (fun v H1 => v = .ref f ∧ H1 = HZ) IZ ⟨.ref f, hs, rfl, rfl⟩) fun u s1 ⟨v, H1, I1, r1, q1⟩ => ?_)
  obtain ⟨ev, eH⟩ := q1
  subst ev
  rw [eH] at I1
  obtain rfl : u = Value.ref f := r1
  have of1 : s1.heap.get? f = some (objD "<lambda>" (X.env.qual ++ "<lambda>") (dPar pn pp de) body scope (cloFrom X.env.cells scope.names []) pm c' ctv (.ref tt)) := I1.base.keep f _ hf hfn hfr (fun z => nomatch (show f ∈ ([] : List Addr) from z))
  refine PySem.W.callWith_F0 ⟨_, _, _, _, of1⟩ ?_
  have un : Un (frs X.stack) [] H HZ s.heap s1.heap := I1.base
  obtain ⟨⟨oc, vs, t, hoc, hdc, hvc⟩, _, _⟩ := I1.hok c' _ hc
  have rc : codeAny (model X.prog X.w) (X.A.deeper (envOfC qg sg s.heap.objs.size g cdg)) (.call (.ref f) ⟨[], []⟩) (CR (L2.CX X.prog X.w) (envOfC qg sg s.heap.objs.size g cdg :: X.stack) X.prog X.w HZ s1 Q E) s1 := by
    refine PySem.W.kla_callFunE hr.depth of1 rfl L.co L.gen rfl ⟨c', oc, vs, t, rfl, hoc, hdc, hvc⟩ ?_
    have ot1 : s1.heap.get? tt = some (tupD u) := I1.base.keep tt _ hft htn htr (fun z => nomatch (show tt ∈ ([] : List Addr) from z))
    refine bindD ot1 _ _ _ _ (wpAny_newFunctionEnv (fun y hy => (L.own y hy).1) (fun y hy => by rw [List.mem_singleton.mp hy]; exact L.par) (fun h₁ hns hsb => ⟨I1.nolimit.fresh _ hsb, ?_⟩) L.kind)
    show codeAny _ _ (.expr body (lamEnv X scope s1.heap.objs.size f c')) _ _
    have kp : ∀ b o, s1.heap.get? b = some o → h₁.get? b = some o := fun b o e => hsb.extBut b o (Nat.ne_of_lt (Heap.lt_size e)) (Heap.get?_push_of_some _ e)
    have J : Inv (lamCx X (X.A.deeper (envOfC qg sg s.heap.objs.size g cdg)) (envOfC qg sg s.heap.objs.size g cdg :: X.stack) s1 HZ E scope f c') [] σ HZ { s1 with heap := h₁, toks := s1.toks + [(pn, u)].length } :=
      lam_start2D I L I1.env0 hr.hd un hns kp
    refine PySem.W.kla_codeExpr (wpAny_mono ((hbody _ _ s1 HZ (hr.deeper _)).run [] _ _ HZ Q J ht) (fun v s' hq => ?_) fun e s' hq => hq)
    obtain ⟨w', H', J', rv, q⟩ := hq
    exact ⟨w', H', J'.os, J'.bare, J'.base, J'.hok, rv, q⟩
  have hx : Passes (L2.CX X.prog X.w) ((cxOf CXg X.prog X.w X.K X.mg X.base Ng qg sg g cdg X.A X.stack s H Eg).tr pl xe) E := passes_call tk hW
  refine wpAny_call (codeAny_mono rc fun r s' hq => ?_)
  cases r with
  | error e => exact hx pinsZ σZ HZ s1 e s' I1 hq
  | ok fl =>
    cases fl with
    | ret u => exact I1.after hq
    | next => exact False.elim hq
    | brk => exact False.elim hq
    | cont => exact False.elim hq
end
section
variable {X : Cx}
theorem pe_lamcallD {pn : Str} {pp : Pos} {de : Expr} {T : List (Addr × Str)} {TT : (XK → Hp → VK → Prop) → Hp → VK → Prop} {x a : Str} {g c P : Addr} {k : Nat} {pg : Arguments} {bg : List Stmt} {sg : Scope} {dV kV doc pm cdv ct oc : Value} {an od : Option Addr} {osl : Array (Option Value)} {Ng : List Str}
    {body : Expr} {scope : Scope} {t : XK → TE} {p lpos pos : Pos} (hg : Gl X x) (hm : X.mg x = some (.ref g)) (hk : PySem.W.keepIn X.K (.ref g) = true)
    (lk : X.K.lookup g = some ⟨oc, od, .func (PySem.W.fnOf x x pg bg sg dV kV doc pm an cdv ct), osl⟩) (hcg : PySem.W.codeIn X.K cdv x = true) (hb : L2.Binds X.K (PySem.W.fnOf x x pg bg sg dV kV doc pm an cdv ct) [a] []) (Sg : FnScope Ng [a] sg) (hNg : Ng[0]? = some a) (hva : Vis sg a)
    (hG : GivesTo X Ng x sg g cdv bg a (X.env.qual ++ "<lambda>") TT)
    (TB : TabB X.base X.mg c P) (hcode : X.env.code = .ref c) (hmT : (P, X.env.qual ++ "<lambda>") ∈ T) (hu : ∀ p ∈ T, p.1 = P → p.2 = X.env.qual ++ "<lambda>") (hr : Room (k + 2) X.A) (L : LamDS X.env.scope scope X.N pn) (hde : ∀ (s : Shared) (Q : Value → Shared → Prop) (E : Value → Shared → Prop), (∀ u tk, Q u { s with toks := tk }) → wpAny (model X.prog X.w) X.A (eval de X.env) Q E s)
    (hbody : ∀ (A : Around) (outer : List Env) (s : Shared) (H : Hp) (E : XK) (f c' : Addr), Room k (A.deeper (lamEnv X scope s.heap.objs.size f c')) → PE (lamCx X A outer s H E scope f c') body (t E))
    (hdb : (x == ("__debug__" : Str)) = false := by decide) (hd : (a == ("__debug__" : Str)) = false := by decide) (hcd : (a == ("__classdict__" : Str)) = false := by decide) :
    PE X (.Call (.Name x p) [.Lambda (dPar pn pp de) body scope lpos] [] pos) (tLam T TT t) := by
  refine ⟨fun pins s σ H Q I h => ?_⟩
  obtain ⟨hT, h⟩ := h
  refine wpAny_Call_Name_kw (ld_glob I hg hm ?_ hdb)
  refine PySem.W.callWith_K (h₀ := X.base) I.ok.mod.kin hk ?_ (by rfl) (by rfl)
  show wpAny _ _ (spliced ((false, eval (.Lambda (dPar pn pp de) body scope lpos) X.env) :: backTo pos (starEach [] X.env))) _ _ s
  refine Calls.spliced_cons (lam_make2D I TB hcode hmT hu hT (hde s) (L.has I.ok) fun f c' tt u pm' ctv H1 s' I1 eN T1 hf hfn hfr hco hft htn htr => ?_)
  refine Calls.spliced_nil ⟨I1.kIn, ?_⟩
  have rc : codeAny (model X.prog X.w) X.A (.call (.ref g) ⟨[.ref f], []⟩) (CR C8.CX0 X.stack X.prog X.w H1 s' Q C8.E0) s' := by
    refine run_ofS (N := Ng) (ps := [a]) (us := [.ref f]) (vs := [.ref f]) lk hcg Sg hr I1.env0 (hb s' [.ref f] I1.kIn rfl) (.cons rfl .nil) rfl fun hr' => ?_
    obtain ⟨t', ht', hq'⟩ := hG f c' s' H1 Q (fun E H' Q' => t E σ H' Q') (fun W pn xe E p1 p2 tk hW => pe_actD (i := 0) I1 L hf hfn hfr hft htn htr tk hW hr' (fun A outer s H hr2 => hbody A outer s H E f c' hr2) hNg hva hd hcd) hco (h H1 eN T1)
    exact ⟨t', ht'.nox, hq'⟩
  refine wpAny_call (codeAny_mono rc fun r s2 hq => ?_)
  cases r with
  | error e => exact (show False from hq).elim
  | ok fl =>
    cases fl with
    | ret u => exact I1.after hq
    | next => exact False.elim hq
    | brk => exact False.elim hq
    | cont => exact False.elim hq
end
end LamD
namespace D3
open PySem PySem.Spec PyProof.Rows L2
section
variable {X : Cx} {B : Bs} {RR : Tell} {te : WXd → TEd} {x a e n q : Str} {g c P SE : Addr} {k i : Nat} {st : Stmt} {fd : FuncData} {Ng : List Str} {body : Expr} {scope sg : Scope} {cdg : Value} {p lpos pos p1 p2 p3 p4 p5 p6 : Pos} {G : Cf}
theorem pResTD {pn : Str} {pp : Pos} {dn : Int} {dk : Nat} {dp : Pos} (TO : TellOk RR) (F : Fun X.K x x st g fd) (hb : Binds X.K fd [a] []) (Sg : FnScope Ng [a] (defScope st)) (hg : Gl X x) (hm : X.mg x = some (.ref g)) (hNg : Ng[0]? = some a) (hva : Vis (defScope st) a)
    (hG : ∀ cdg, LamX.GivesTo X Ng x (defScope st) g cdg (defBody st) a (X.env.qual ++ "<lambda>") (TResT B.G RR))
    (TB : LamX.TabB X.base X.mg c P) (hcode : X.env.code = .ref c) (hmT : (P, X.env.qual ++ "<lambda>") ∈ B.G.T) (hu : ∀ p ∈ B.G.T, p.1 = P → p.2 = X.env.qual ++ "<lambda>") (hr : Room (k + 2) X.A) (L : LamD.LamDS X.env.scope scope X.N pn)
    (hbody : ∀ (π0 : List Addr) (H0 : Hp) (Wd : WXd) (A : Around) (outer : List Env) (s : Shared) (H : Hp) (E : XK) (f c' : Addr), Room k (A.deeper (LamX.lamEnv X scope s.heap.objs.size f c')) → Takes (LamX.lamCx X A outer s H E scope f c') (LW ⟨B.G, π0, H0⟩ Wd) →
      PE (LamX.lamCx X A outer s H E scope f c') body (LE ⟨B.G, π0, H0⟩ (te Wd)))
    (hdb : (x == ("__debug__" : Str)) = false := by decide) (hd : (a == ("__debug__" : Str)) = false := by decide) (hcd : (a == ("__classdict__" : Str)) = false := by decide) :
    PE X (.Call (.Name x p) [.Lambda (LamD.dPar pn pp (.Constant (.int dn) dk dp)) body scope lpos] [] pos) (LE B (eResT RR te)) := by
  obtain ⟨oc, od, kV, doc, pm, an, cdv, ct, osl, rfl, lk, hcd'⟩ := F.ex
  refine PE_imp (LamD.pe_lamcallD (T := B.G.T) (TT := TResT B.G RR) (t := tL B.G te) (k := k) hg hm F.kp lk hcd' hb Sg hNg hva (hG cdv) TB hcode hmT hu hr L (fun s Q E h => wpAny_Constant_int (h _ _)) (fun A outer s H E f c' hr2 => ?_) hdb hd hcd) ?_
  · refine ⟨fun pins s' σ H' Q I h => ?_⟩
    obtain ⟨π, S, σd, Qd, Ed, R, rs, h, kq, kx⟩ := h
    have tk : Takes (LamX.lamCx X A outer s H E scope f c') (LW ⟨B.G, π, H'⟩ fun x _ S' => Ed x S') :=
      (takes_of rfl rfl rfl rfl).imp fun cls d σ' H'' q => by
        obtain ⟨π', S', σd', x, R', r, q⟩ := q
        exact kx π' H'' S' x cls d R'.ext R'.sto r q
    exact (hbody π H' _ A outer s H E f c' hr2 tk).run pins s' σ H' Q I ⟨π, S, σd, Qd, ⟨Ext.refl _ _ _, R, rs⟩, h, kq⟩
  · rintro σ H Q ⟨π, S, σd, Qd, R, h, k⟩
    refine ⟨R.sto.tab, fun H1 eN T1 => ?_⟩
    obtain ⟨R1, x1⟩ := step_N R.sto eN T1
    refine ⟨π, S, σd, Qd, fun x S' => resT RR x S' Qd, R1, R.slt.mono x1, h, k.to x1, ?_⟩
    intro π' H' S' x cls dd e R' r q
    obtain ⟨d, hr, q⟩ := q
    have hx : ExR B.G [] H' x cls dd := by
      obtain ⟨r1, r2⟩ := r
      refine ⟨r1, ?_⟩
      split at r2
      · exact r2
      · rename_i fs hfs
        obtain ⟨d1, vs, e1, e2, e3⟩ := r2
        exact ⟨d1, vs, e1, e2, fun f y hy => by
          obtain ⟨v, q1, q2⟩ := e3 f y hy
          exact ⟨v, q1, rep_to (TO.f x d fs hr hfs _ (lookup_mem hy)) q2⟩⟩
    refine ⟨x, d, hx, hr, R'.tab, fun π'' H'' S'' v e2 R2 rv => ?_⟩
    obtain ⟨R3, x3⟩ := step_N R' (extN_of e2) R2.tab
    exact k π' H'' S' _ v (x1.trans (e.trans x3)) R3 (rep_to (TO.d x d hr) rv) q
end
end D3
set_option Elab.async false
set_option linter.all false
set_option maxRecDepth 100000
set_option maxHeartbeats 2000000
namespace K01
open PySem PySem.Spec PyProof.Rows L2 D3
abbrev c_LETTERS : Dv := .str "abcdefghijklmnopqrstuvwxyz"
abbrev c_MAX_ITEMS : Dv := .int 6
abbrev c_MAX_LETTERS : Dv := .int 8
abbrev c_MAX_REFRAINS : Dv := .int 60
abbrev c_MAX_VERSES : Dv := .int 4
def t_Lbegun (Wd : WXd) : TSd :=
    (sSeq (sAsg (eC (.int 0)) (gNm 1))
    (sSeq (sFor (iSeq (eVar 0)) (gNm 2) (sAsg (eOp dMod (eOp dAdd (eOp dAdd (eOp dMul (eVar 1) (eC (.int 48271))) (eOp dMul (eVar 2) (eC (.int 69621)))) (eC (.int 11))) (eC (.int 2147483647))) (gNm 1)))
    (sRet (eLst (aCons (eArgs dList (aCons (eVar 0) aNil)) (aCons (eOp dMul (eVar 1) (eArgs dInt (aCons (eOp dGt (eArgs dLen (aCons (eVar 0) aNil)) (eC (.int 2))) aNil))) aNil))))))
def t_Ltake (Wd : WXd) : TSd :=
    (sSeq (sIf (cVal (eOp dEq (eOp dIx (eVar 0) (eC (.int 0))) (eLst aNil))) (sSeq (sAsg (eOp dMod (eArgs dInt (aCons (eOp dMul (eOp dIx (eVar 0) (eC (.int 1))) (eC (.int 48271))) aNil)) (eC (.int 2147483647))) (gSb (eVar 0) (eC (.int 1)) dSetL))
    (sRet (eOp dMod (eOp dDiv (eOp dIx (eVar 0) (eC (.int 1))) (eC (.int 7))) (eVar 1)))) sNext)
    (sSeq (sAsg (eOp dIx (eOp dIx (eVar 0) (eC (.int 0))) (eC (.int 0))) (gNm 2))
    (sSeq (sAsg (eOp dDiv (eVar 2) (eVar 1)) (gSb (eOp dIx (eVar 0) (eC (.int 0))) (eC (.int 0)) dSetL))
    (sSeq (sIf (cOr (cVal (eOp dEq (eOp dIx (eOp dIx (eVar 0) (eC (.int 0))) (eC (.int 0))) (eC (.int 0)))) (cVal (eOp dEq (eOp dIx (eOp dIx (eVar 0) (eC (.int 0))) (eC (.int 0))) (eUn dNeg (eC (.int 1)))))) (sDrop (eBM "list" dPop (eOp dIx (eVar 0) (eC (.int 0))) (aCons (eC (.int 0)) aNil))) sNext)
    (sRet (eOp dMod (eArgs dInt (aCons (eVar 2) aNil)) (eVar 1)))))))
def t_Lbook (sp_Ltake : Spd) (Wd : WXd) : TSd :=
    (sSeq (sPar 2 3 (aCons (eOp dAdd (eC (.int 1)) (eCall sp_Ltake Wd (aCons (eVar 0) (aCons (eVar 1) aNil)))) (aCons (eLst aNil) aNil)))
    (sSeq (sAsg (eLst (aCons (eC (.str "la")) (aCons (eC (.str "lu")) (aCons (eC (.str "lo")) (aCons (eC (.str "a")) (aCons (eC (.str "zzzzzzzz")) (aCons (eC (.str "la")) aNil))))))) (gNm 4))
    (sSeq (sFor (iRg1 (aCons (eVar 2) aNil)) (gNm 5) (sSeq (sAsg (eLst aNil) (gNm 6))
    (sSeq (sFor (iRg1 (aCons (eOp dIx (eLst (aCons (eC (.int 1)) (aCons (eC (.int 2)) (aCons (eC (.int 2)) (aCons (eC (.int 3)) (aCons (eC (.int 4)) aNil)))))) (eCall sp_Ltake Wd (aCons (eVar 0) (aCons (eC (.int 5)) aNil)))) aNil)) (gNm 7) (sSeq (sAsg (eLst aNil) (gNm 8))
    (sSeq (sFor (iRg1 (aCons (eOp dIx (eLst (aCons (eC (.int 1)) (aCons (eC (.int 2)) (aCons (eC (.int 2)) (aCons (eC (.int 3)) (aCons (eC (.int 6)) aNil)))))) (eCall sp_Ltake Wd (aCons (eVar 0) (aCons (eC (.int 5)) aNil)))) aNil)) (gNm 9) (sSeq (sAsg (eOp dSub (eOp dSub (eVar 2) (eVar 5)) (eC (.int 1))) (gNm 10))
    (sSeq (sAsg (eOp dIx (eLst (aCons (eOp dAdd (eC (.int 1)) (eCall sp_Ltake Wd (aCons (eVar 0) (aCons (eArgs dMax (aCons (eC (.int 1)) (aCons (eVar 10) aNil))) aNil)))) (aCons (eC (.int 1)) aNil))) (eCall sp_Ltake Wd (aCons (eVar 0) (aCons (eC (.int 2)) aNil)))) (gNm 11))
    (sDrop (eBM "list" dAppend (eVar 8) (aCons (eIf (cAnd (cVal (eOp dGt (eVar 10) (eC (.int 0)))) (cVal (eOp dGt (eCall sp_Ltake Wd (aCons (eVar 0) (aCons (eC (.int 3)) aNil))) (eC (.int 0))))) (eOp dAdd (eVar 5) (eVar 11)) (eOp dIx (eVar 4) (eCall sp_Ltake Wd (aCons (eVar 0) (aCons (eC (.int 6)) aNil))))) aNil))))))
    (sDrop (eBM "list" dAppend (eVar 6) (aCons (eArgs dTuple (aCons (eVar 8) aNil)) aNil))))))
    (sDrop (eBM "list" dAppend (eVar 3) (aCons (eArgs dTuple (aCons (eVar 6) aNil)) aNil))))))
    (sRet (eArgs dTuple (aCons (eVar 3) aNil))))))
def t_Ldamaged (sp_Ltake : Spd) (Wd : WXd) : TSd :=
    (sSeq (sAsg (eCall sp_Ltake Wd (aCons (eVar 0) (aCons (eArgs dLen (aCons (eVar 1) aNil)) aNil))) (gNm 2))
    (sSeq (sAsg (eArgs dList (aCons (eOp dIx (eVar 1) (eVar 2)) aNil)) (gNm 3))
    (sSeq (sIf (cVal (eOp dEq (eVar 3) (eLst aNil))) (sRet (eVar 1)) sNext)
    (sSeq (sPar 4 5 (aCons (eCall sp_Ltake Wd (aCons (eVar 0) (aCons (eC (.int 8)) aNil))) (aCons (eCall sp_Ltake Wd (aCons (eVar 0) (aCons (eArgs dLen (aCons (eVar 3) aNil)) aNil))) aNil)))
    (sSeq (sAsg (eLst (aCons (eC (.str "")) (aCons (eC (.str "abcdefghi")) (aCons (eC (.str "A")) (aCons (eC (.str "a b")) (aCons (eUn dNeg (eC (.int 1))) (aCons (eC (.int 0)) (aCons (eVar 2) (aCons (eArgs dLen (aCons (eVar 1) aNil)) (aCons (eOp dAdd (eVar 2) (eC (.int 1))) (aCons (eC (.str "z")) aNil))))))))))) (gNm 6))
    (sSeq (sAsg (eOp dAdd (eArgs dList (aCons (eOp dIx (eVar 3) (eVar 5)) aNil)) (eOp dMul (eLst (aCons (eC (.str "")) aNil)) (eArgs dInt (aCons (eOp dEq (eOp dIx (eVar 3) (eVar 5)) (eTup aNil)) aNil)))) (gNm 7))
    (sSeq (sAsg (eOp dIx (eVar 6) (eCall sp_Ltake Wd (aCons (eVar 0) (aCons (eC (.int 10)) aNil)))) (gSb (eVar 7) (eCall sp_Ltake Wd (aCons (eVar 0) (aCons (eArgs dLen (aCons (eVar 7) aNil)) aNil))) dSetL))
    (sSeq (sIf (cVal (eOp dLt (eVar 4) (eC (.int 4)))) (sAsg (eArgs dTuple (aCons (eVar 7) aNil)) (gSb (eVar 3) (eVar 5) dSetL)) (sIf (cVal (eOp dEq (eVar 4) (eC (.int 4)))) (sAsg (eOp dIx (eLst (aCons (eTup aNil) (aCons (eOp dMulT (eTup (aCons (eC (.str "a")) aNil)) (eC (.int 7))) (aCons (eOp dMulT (eTup (aCons (eC (.str "a")) aNil)) (eC (.int 6))) aNil)))) (eCall sp_Ltake Wd (aCons (eVar 0) (aCons (eC (.int 3)) aNil)))) (gSb (eVar 3) (eVar 5) dSetL)) (sAsg (eOp dIx (eLst (aCons (eLst aNil) (aCons (eOp dMul (eVar 3) (eC (.int 5))) (aCons (eSl dSlice (eVar 3) oNo (oSome (eC (.int 1)))) aNil)))) (eOp dSub (eVar 4) (eC (.int 5)))) (gNm 3))))
    (sRet (eOp dAdd (eOp dAdd (eSl dSlice (eVar 1) oNo (oSome (eVar 2))) (eTup (aCons (eArgs dTuple (aCons (eVar 3) aNil)) aNil))) (eSl dSlice (eVar 1) (oSome (eOp dAdd (eVar 2) (eC (.int 1)))) oNo)))))))))))
def t_Ldefect (Wd : WXd) : TSd :=
    (sSeq (sIf (cVal (eOp dEq (eArgs dLen (aCons (eVar 0) aNil)) (eC (.int 0)))) (sRet (eTup (aCons (eC (.str "BadBook")) (aCons (eC (.int 0)) (aCons (eUn dNeg (eC (.int 1))) aNil))))) sNext)
    (sSeq (sFor (iRg1 (aCons (eArgs dLen (aCons (eVar 0) aNil)) aNil)) (gNm 1) (sSeq (sIf (cOr (cVal (eOp dEq (eVar 1) (eC (.int 60)))) (cNot (cVal (eChain dLe dLe (eC (.int 1)) (eArgs dLen (aCons (eOp dIx (eVar 0) (eVar 1)) aNil)) (eC (.int 4)))))) (sRet (eTup (aCons (eC (.str "BadBook")) (aCons (eVar 1) (aCons (eUn dNeg (eC (.int 1))) aNil))))) sNext)
    (sFor (iRg1 (aCons (eArgs dLen (aCons (eOp dIx (eVar 0) (eVar 1)) aNil)) aNil)) (gNm 2) (sSeq (sAsg (eOp dIx (eOp dIx (eVar 0) (eVar 1)) (eVar 2)) (gNm 3))
    (sSeq (sIf (cNot (cVal (eChain dLe dLe (eC (.int 1)) (eArgs dLen (aCons (eVar 3) aNil)) (eC (.int 6))))) (sRet (eTup (aCons (eC (.str "BadBook")) (aCons (eVar 1) (aCons (eVar 2) aNil))))) sNext)
    (sFor (iSeq (eVar 3)) (gNm 4) (sSeq (sIf (cVal (eArgs dIsi (aCons (eVar 4) (aCons (eC (.ty "str")) aNil)))) (sAsg (eAnd (eChain dLe dLe (eC (.int 1)) (eArgs dLen (aCons (eVar 4) aNil)) (eC (.int 8))) (eOp dEq (eLc (iStr (eVar 4)) (Tg.one 6) (cNot (cVal (eChain dLeS dLeS (eC (.str "a")) (eVar 6) (eC (.str "z"))))) (eVar 6) [6]) (eLst aNil))) (gNm 5)) (sAsg (eChain dLt dLt (eVar 1) (eVar 4) (eArgs dLen (aCons (eVar 0) aNil))) (gNm 5)))
    (sIf (cNot (cVal (eVar 5))) (sRet (eTup (aCons (eC (.str "BadBook")) (aCons (eVar 1) (aCons (eVar 2) aNil))))) sNext))))))))
    (sRet (eC .non))))
def t_Lreached (Wd : WXd) : TSd :=
    (sSeq (sPar 1 2 (aCons (eLst aNil) (aCons (eLst (aCons (eC (.int 0)) aNil)) aNil)))
    (sSeq (sWhile (cVal (eOp dNe (eVar 2) (eLst aNil))) (sSeq (sAsg (eBM "list" dPop (eVar 2) aNil) (gNm 3))
    (sIf (cVal (eOp (dIn true) (eVar 3) (eVar 1))) (sSeq (sDrop (eBM "list" dAppend (eVar 1) (aCons (eVar 3) aNil)))
    (sFor (iSeq (eOp dIx (eVar 0) (eVar 3))) (gNm 4) (sAsg (eOp dAdd (eVar 2) (eLc (iSeq (eVar 4)) (Tg.one 5) (cNot (cVal (eArgs dIsi (aCons (eVar 5) (aCons (eC (.ty "str")) aNil))))) (eVar 5) [5])) (gNm 2)))) sNext)))
    (sRet (eArgs dSortedI (aCons (eVar 1) aNil)))))
def t_is_word (Wd : WXd) : TSd :=
    (sRet (eArgs dIsi (aCons (eVar 0) (aCons (eC (.ty "str")) aNil))))
def t_is_valid_item (sp_is_word : Spd) (Wd : WXd) : TSd :=
    (sSeq (sIf (cVal (eCall sp_is_word Wd (aCons (eVar 2) aNil))) (sRet (eAnd (eChain dLe dLe (eC (.int 1)) (eArgs dLen (aCons (eVar 2) aNil)) (eC c_MAX_LETTERS)) (eArgs dAll (aCons (eLc (iStr (eVar 2)) (Tg.one 3) cYes (eOp (dIn false) (eVar 3) (eC c_LETTERS)) [3]) aNil)))) sNext)
    (sRet (eChain dLt dLt (eVar 1) (eVar 2) (eArgs dLen (aCons (eVar 0) aNil)))))
def t_first_invalid_verse (sp_is_valid_item : Spd) (Wd : WXd) : TSd :=
    (sSeq (sAsg (eOp dIx (eVar 0) (eVar 1)) (gNm 2))
    (sSeq (sIf (cNot (cVal (eChain dLe dLe (eC (.int 1)) (eArgs dLen (aCons (eVar 2) aNil)) (eC c_MAX_VERSES)))) (sRet (eUn dNeg (eC (.int 1)))) sNext)
    (sSeq (sFor (iEnumD (aCons (eVar 2) aNil)) (gUnp 2 (gsCons (gNm 3) (gsCons (gNm 4) gsNil))) (sIf (cOr (cNot (cVal (eChain dLe dLe (eC (.int 1)) (eArgs dLen (aCons (eVar 4) aNil)) (eC c_MAX_ITEMS)))) (cNot (cVal (eArgs dAll (aCons (eLc (iSeq (eVar 4)) (Tg.one 5) cYes (eCall sp_is_valid_item WNo (aCons (eVar 0) (aCons (eVar 1) (aCons (eVar 5) aNil)))) [5]) aNil))))) (sRet (eVar 3)) sNext))
    (sRet (eC .non)))))
def t_validate_book (C_BadBook : Addr) (sp_first_invalid_verse : Spd) (Wd : WXd) : TSd :=
    (sSeq (sIf (cVal (eOp dEq (eArgs dLen (aCons (eVar 0) aNil)) (eC (.int 0)))) (sRaiseK C_BadBook ["refrain", "verse"] (aCons (eC (.int 0)) (aCons (eUn dNeg (eC (.int 1))) aNil)) Wd) sNext)
    (sFor (iRg1 (aCons (eArgs dLen (aCons (eVar 0) aNil)) aNil)) (gNm 1) (sSeq (sAsg (eIf (cVal (eOp dEq (eVar 1) (eC c_MAX_REFRAINS))) (eUn dNeg (eC (.int 1))) (eCall sp_first_invalid_verse Wd (aCons (eVar 0) (aCons (eVar 1) aNil)))) (gNm 2))
    (sIf (cVal (eOp dIsNot (eVar 2) (eC .non))) (sRaiseK C_BadBook ["refrain", "verse"] (aCons (eVar 1) (aCons (eVar 2) aNil)) Wd) sNext))))
def t_initial_state (sp_validate_book : Spd) (Wd : WXd) : TSd :=
    (sSeq (sDrop (eCall sp_validate_book Wd (aCons (eVar 0) aNil)))
    (sRet (eTup (aCons (eOp dMulT (eTup (aCons (eC (.int 0)) aNil)) (eArgs dLen (aCons (eVar 0) aNil))) (aCons (eTup aNil) aNil)))))
def t_all_items (Wd : WXd) : TSd :=
    (sRet (eLc2 (iSeq (eVar 0)) (Tg.one 1) cYes (iSeq (eVar 1)) (Tg.one 2) cYes (eVar 2) [1, 2] [2]))
def t_find_reachable (sp_all_items : Spd) (sp_is_word : Spd) (Wd : WXd) : TSd :=
    (sSeq (sAsg (eOp dAdd (eLst (aCons (eC (.bl true)) aNil)) (eOp dMul (eLst (aCons (eC (.bl false)) aNil)) (eOp dSub (eArgs dLen (aCons (eVar 0) aNil)) (eC (.int 1))))) (gNm 1))
    (sSeq (sFor (iEnumD (aCons (eVar 0) aNil)) (gUnp 2 (gsCons (gNm 2) (gsCons (gNm 3) gsNil))) (sIf (cVal (eOp dIx (eVar 1) (eVar 2))) (sFor (iSeq (eCall sp_all_items Wd (aCons (eVar 3) aNil))) (gNm 4) (sIf (cNot (cVal (eCall sp_is_word Wd (aCons (eVar 4) aNil)))) (sAsg (eC (.bl true)) (gSb (eVar 1) (eVar 4) dSetL)) sNext)) sNext))
    (sRet (eLc (iEnumD (aCons (eVar 1) aNil)) (Tg.many [2, 5]) (cVal (eVar 5)) (eVar 2) [2, 5]))))
def t_reachable_refrains (sp_validate_book : Spd) (sp_find_reachable : Spd) (Wd : WXd) : TSd :=
    (sSeq (sDrop (eCall sp_validate_book Wd (aCons (eVar 0) aNil)))
    (sRet (eCall sp_find_reachable Wd (aCons (eVar 0) aNil))))
def t_Lalike (sp_Lalike_rec : Spd) (Wd : WXd) : TSd :=
    (sSeq (sIf (cVal (eOp dIs (eVar 1) (eC .non))) (sRet (eOp dIs (eVar 0) (eC .non))) sNext)
    (sSeq (sIf (cVal (eArgs dIsi (aCons (eVar 1) (aCons (eC (.ty "bool")) aNil)))) (sRet (eAnd (eArgs dIsi (aCons (eVar 0) (aCons (eC (.ty "bool")) aNil))) (eOp dEq (eVar 0) (eVar 1)))) sNext)
    (sSeq (sIf (cVal (eArgs dIsi (aCons (eVar 1) (aCons (eC (.ty "int")) aNil)))) (sRet (eAnd (eArgs dIsi (aCons (eVar 0) (aCons (eC (.ty "int")) aNil))) (eAnd (eNot (eArgs dIsi (aCons (eVar 0) (aCons (eC (.ty "bool")) aNil)))) (eOp dEq (eVar 0) (eVar 1))))) sNext)
    (sSeq (sIf (cVal (eArgs dIsi (aCons (eVar 1) (aCons (eC (.ty "str")) aNil)))) (sRet (eAnd (eArgs dIsi (aCons (eVar 0) (aCons (eC (.ty "str")) aNil))) (eOp dEq (eVar 0) (eVar 1)))) sNext)
    (sSeq (sIf (cOr (cVal (eOp dNe (eArgs dIsi (aCons (eVar 1) (aCons (eC (.ty "tuple")) aNil))) (eArgs dIsi (aCons (eVar 0) (aCons (eC (.ty "tuple")) aNil))))) (cVal (eOp dNe (eArgs dIsi (aCons (eVar 1) (aCons (eC (.ty "list")) aNil))) (eArgs dIsi (aCons (eVar 0) (aCons (eC (.ty "list")) aNil)))))) (sRet (eC (.bl false))) sNext)
    (sSeq (sIf (cVal (eOp dNe (eArgs dLen (aCons (eVar 0) aNil)) (eArgs dLen (aCons (eVar 1) aNil)))) (sRet (eC (.bl false))) sNext)
    (sSeq (sFor (iRg1 (aCons (eArgs dLen (aCons (eVar 1) aNil)) aNil)) (gNm 2) (sIf (cNot (cVal (eCall sp_Lalike_rec Wd (aCons (eOp dIx (eVar 0) (eVar 2)) (aCons (eOp dIx (eVar 1) (eVar 2)) aNil))))) (sRet (eC (.bl false))) sNext))
    (sRet (eC (.bl true))))))))))
def t_law (RR : Tell) (sp_Lbegun : Spd) (sp_Lbook : Spd) (sp_Ltake : Spd) (sp_Ldamaged : Spd) (sp_Ldefect : Spd) (sp_Lreached : Spd) (sp_initial_state : Spd) (sp_reachable_refrains : Spd) (sp_Lalike : Spd) (Wd : WXd) : TSd :=
    (sSeq (sAsg (eCall sp_Lbegun Wd (aCons (eVar 0) aNil)) (gNm 1))
    (sSeq (sFor (iRg1 (aCons (eC (.int 6)) aNil)) (gNm 2) (sSeq (sAsg (eCall sp_Lbook Wd (aCons (eVar 1) (aCons (eC (.int 9)) aNil))) (gNm 3))
    (sSeq (sFor (iRg1 (aCons (eCall sp_Ltake Wd (aCons (eVar 1) (aCons (eC (.int 3)) aNil))) aNil)) (gNm 4) (sAsg (eCall sp_Ldamaged Wd (aCons (eVar 1) (aCons (eVar 3) aNil))) (gNm 3)))
    (sSeq (sIf (cVal (eOp dEq (eCall sp_Ltake Wd (aCons (eVar 1) (aCons (eC (.int 9)) aNil))) (eC (.int 0)))) (sAsg (eOp dIx (eLst (aCons (eTup aNil) (aCons (eOp dMulT (eTup (aCons (eTup (aCons (eTup (aCons (eC (.str "a")) aNil)) aNil)) aNil)) (eOp dAdd (eC (.int 59)) (eCall sp_Ltake Wd (aCons (eVar 1) (aCons (eC (.int 3)) aNil))))) aNil))) (eCall sp_Ltake Wd (aCons (eVar 1) (aCons (eC (.int 2)) aNil)))) (gNm 3)) sNext)
    (sSeq (sAsg (eCall sp_Ldefect Wd (aCons (eVar 3) aNil)) (gNm 5))
    (sSeq (sAsg (eIf (cVal (eOp dIsNot (eVar 5) (eC .non))) (eLst (aCons (eVar 5) (aCons (eVar 5) aNil))) (eLst (aCons (eTup (aCons (eOp dMulT (eTup (aCons (eC (.int 0)) aNil)) (eArgs dLen (aCons (eVar 3) aNil))) (aCons (eTup aNil) aNil))) (aCons (eCall sp_Lreached Wd (aCons (eVar 3) aNil)) aNil)))) (gNm 6))
    (sFor (iRg1 (aCons (eC (.int 2)) aNil)) (gNm 7) (sSeq (sAsg (eLst (aCons (eResT RR (fun Wd => (eCall sp_initial_state Wd (aCons (eVar 3) aNil)))) (aCons (eResT RR (fun Wd => (eCall sp_reachable_refrains Wd (aCons (eVar 3) aNil)))) aNil))) (gNm 8))
    (sIf (cNot (cVal (eCall sp_Lalike Wd (aCons (eVar 8) (aCons (eVar 6) aNil))))) (sRet (eC (.bl false))) sNext)))))))))
    (sRet (eC (.bl true)))))
end K01
set_option Elab.async false
set_option linter.all false
set_option maxRecDepth 100000
set_option maxHeartbeats 2000000
set_option exponentiation.threshold 5000
namespace K01
open PySem PySem.Spec D3 K20 K11
open K16 (defV Defect firstBad_or defV_or ok_or_defect ok_defV inAZ wordL LawW eqv_nil_s flt_nil)
def LawV (y : Str) : Prop := LawW y ∧ PyData.canLay0 (.str y) = true
def GB (m : Nat) (B : Bk) : Prop := B.length ≤ 61 ∧ ∀ r ∈ B, r.length ≤ m ∧ ∀ v ∈ r, v.length ≤ 7 ∧ ∀ y, Itm.wd y ∈ v → LawV y
theorem GB.small {m : Nat} {B : Bk} (h : GB m B) (hm : m < 1000) : Small B := by
  obtain ⟨h1, h2⟩ := h
  refine ⟨by omega, fun r hr => ?_⟩
  obtain ⟨h3, h4⟩ := h2 r hr
  refine ⟨by omega, fun v hv => ?_⟩
  obtain ⟨h5, h6⟩ := h4 v hv
  refine ⟨by omega, fun x hx => ?_⟩
  cases x with
  | ref n => trivial
  | wd y =>
    have := (h6 y hx).1.1
    show y.length ≤ _
    omega
theorem dEq_nil_s {S : Store} {b c : Nat} {ys : List Str} {Q : KD} (hy : ∀ y ∈ ys, PyData.canLay0 (.str y) = true) (hb : getL S b = some (ys.map Dv.str)) (hc : getL S c = some []) (h : Q (.bl (decide (ys = []))) S) : dEq (.obj b) (.obj c) S Q := by
  refine ⟨_, _, K09.fO_strs hb, K09.fO_strs (ys := []) hc, K09.shaped_strs _ hy, K09.shaped_strs [] (fun y hy => by cases hy), ?_⟩
  rw [List.map_nil, eqv_nil_s]
  exact h
def spDefectL : Spd := fun ds S Q E => ∃ (m : Nat) (B : Bk), ds = [bkD B] ∧ GB m B ∧ m < 1000 ∧ (BkOk B → Q .non S) ∧ ∀ r v, Defect B r v → Q (.tup [.str "BadBook", .int r, .int v]) S
theorem r_defect : ∀ ds S Qd Ed, spDefectL ds S Qd Ed → StClo S → t_Ldefect (WEx S.length Ed) { nx := fun _ S' => Gc S.length Qd .non S', rt := Gc S.length Qd } (startD 7 ds) S := by
  rintro _ S Qd Ed ⟨m, B, rfl, hG, hm, h1, h2⟩ hc
  have hS := hG.small hm
  obtain ⟨g1, g2⟩ := hG
  unfold t_Ldefect
  by_cases h0 : B.length = 0
  · have hB : B = [] := List.eq_nil_of_length_eq_zero h0
    have h0' : (B.length : Int) = 0 := by omega
    refine seqI (ifI ?_)
    simp! only [bkD, List.length_map, h0', decide_true]
    exact .inl (h2 0 (-1) (.inl ⟨hB, rfl, rfl⟩))
  have h0' : ¬ (B.length : Int) = 0 := by omega
  refine seqI (ifI ?_)
  simp! only [bkD, List.length_map, h0', decide_false]
  refine seqI ?_
  refine sFor_inv (S1 := S) (jRg B.length) (fun i σ S' => S' = S ∧ (∀ j, j < i → defV B j = .non) ∧ ∃ o1 o2 o3 o4 o5, σ = [some (bkD B), o1, o2, o3, o4, o5, none]) (hw_rg1 (fun R hR => ?_) (by omega)) ⟨rfl, fun j hj => by omega, _, _, _, _, _, rfl⟩ (fun _ _ _ _ _ => trivial) ?_ ?_
  · dsimp! only [List.length_map]
    exact hR
  · rintro k d σ S' hd ⟨rfl, hno, o1, o2, o3, o4, o5, rfl⟩ KK hKK
    obtain ⟨hk, rfl⟩ := jRg_get hd
    obtain ⟨r, hr⟩ : ∃ r, B[k]? = some r := ⟨_, List.getElem?_eq_getElem hk⟩
    have hgd : B.getD k [] = r := by rw [List.getD_eq_getElem?_getD, hr]; rfl
    have hbk : L2.atI (B.map rfD) (k : Int) = some (rfD r) := atI_nat (by rw [List.getElem?_map, hr]; rfl)
    obtain ⟨g3, g4⟩ := g2 r (List.mem_of_getElem? hr)
    have bad : ∀ v : Int, defV B k = .int v → ∀ T, Gc S'.length Qd (.tup [.str "BadBook", .int k, .int v]) (S' ++ T) := fun v hv T => gc_drop (h2 k v (.inr ⟨k, hk, rfl, hv, hno⟩)) rfl hc
    have bad0 : ∀ v : Int, defV B k = .int v → Gc S'.length Qd (.tup [.str "BadBook", .int k, .int v]) S' := fun v hv => by
      have := bad v hv []
      rwa [List.append_nil] at this
    simp! only []
    refine seqI (ifI ?_)
    by_cases c60 : k = 60
    · have c' : (k : Int) = 60 := by omega
      simp! only [c', decide_true]
      have := bad0 (-1) (by unfold K16.defV; rw [if_pos c60])
      rw [c'] at this
      exact this
    have c' : ¬ (k : Int) = 60 := by omega
    have hdv : defV B k = firstBad B.length k r := by unfold K16.defV; rw [if_neg c60, hgd]
    by_cases q1 : 1 ≤ r.length
    rotate_left
    · have q1' : ¬ (1 : Int) ≤ (r.length : Int) := by omega
      simp! only [c', bkD, hbk, rfD, List.length_map, q1', decide_false]
      exact bad0 (-1) (by rw [hdv]; unfold firstBad; rw [if_neg (fun z => q1 z.1)])
    by_cases q2 : r.length ≤ 4
    rotate_left
    · have q1' : (1 : Int) ≤ (r.length : Int) := by omega
      have q2' : ¬ (r.length : Int) ≤ 4 := by omega
      simp! only [c', bkD, hbk, rfD, List.length_map, q1', q2', decide_false, decide_true]
      exact bad0 (-1) (by rw [hdv]; unfold firstBad; rw [if_neg (fun z => q2 z.2)])
    have q1' : (1 : Int) ≤ (r.length : Int) := by omega
    have q2' : (r.length : Int) ≤ 4 := by omega
    have hfb : ∀ i, (r.findIdx? fun v => !verseOk B.length k v) = some i → firstBad B.length k r = .int (i : Nat) := fun i e => by unfold firstBad; rw [if_pos ⟨q1, q2⟩, e]
    have hfn : (r.findIdx? fun v => !verseOk B.length k v) = none → firstBad B.length k r = .non := fun e => by unfold firstBad; rw [if_pos ⟨q1, q2⟩, e]
    simp! only [c', bkD, hbk, rfD, List.length_map, q1', q2', decide_false, decide_true]
    refine sFor_inv (S1 := S') (jRg r.length) (fun j σ S'' => S'' = S' ∧ (∀ v ∈ r.take j, verseOk B.length k v = true) ∧ ∃ o2 o3 o4 o5, σ = [some (bkD B), some (.int k), o2, o3, o4, o5, none]) (hw_rg1 (fun R hR => ?_) (by omega)) ⟨rfl, fun v hv => by simp at hv, _, _, _, _, rfl⟩ (fun _ _ _ _ _ => trivial) ?_ ?_
    · dsimp! only [bkD, hbk, rfD, List.length_map]
      exact hR
    · rintro j d σ S'' hd ⟨rfl, hpj, o2, o3, o4, o5, rfl⟩ K2 hK2
      obtain ⟨hj, rfl⟩ := jRg_get hd
      obtain ⟨v, hv⟩ : ∃ v, r[j]? = some v := ⟨_, List.getElem?_eq_getElem hj⟩
      have hvk : L2.atI (r.map vsD) (j : Int) = some (vsD v) := atI_nat (by rw [List.getElem?_map, hv]; rfl)
      obtain ⟨g5, g6⟩ := g4 v (List.mem_of_getElem? hv)
      have badv : verseOk B.length k v = false → ∀ T, Gc S''.length Qd (.tup [.str "BadBook", .int k, .int j]) (S'' ++ T) := fun hvb T => by
        refine bad j ?_ T
        rw [hdv, hfb j (find_first (i := j) (a := v) (fun b hb => by rw [hpj b hb]; rfl) hv (by rw [hvb]; rfl))]
      simp! only []
      refine seqI ?_
      simp! only [bkD, hbk, rfD, hvk]
      refine seqI (ifI ?_)
      by_cases p1 : 1 ≤ v.length
      rotate_left
      · have p1' : ¬ (1 : Int) ≤ (v.length : Int) := by omega
        simp! only [vsD, List.length_map, p1', decide_false]
        have := badv (by unfold verseOk; rw [decide_eq_false p1]; rfl) []
        rwa [List.append_nil] at this
      by_cases p2 : v.length ≤ 6
      rotate_left
      · have p1' : (1 : Int) ≤ (v.length : Int) := by omega
        have p2' : ¬ (v.length : Int) ≤ 6 := by omega
        simp! only [vsD, List.length_map, p1', p2', decide_false, decide_true]
        have := badv (by unfold verseOk; rw [decide_eq_false p2]; simp) []
        rwa [List.append_nil] at this
      have p1' : (1 : Int) ≤ (v.length : Int) := by omega
      have p2' : (v.length : Int) ≤ 6 := by omega
      have hvo : verseOk B.length k v = v.all (itemOk B.length k) := by unfold verseOk; rw [decide_eq_true p1, decide_eq_true p2]; rfl
      simp! only [vsD, List.length_map, p1', p2', decide_true]
      refine sFor_inv (S1 := S'') (jSeq (vsD v) (v.map Itm.d)) (fun i σ S3 => S3 = S'' ∧ (∀ x ∈ v.take i, itemOk B.length k x = true) ∧ ∃ o4 o5, σ = [some (bkD B), some (.int k), some (.int j), some (vsD v), o4, o5, none]) (hw_seq (fun R hR => ?_) rfl) ⟨rfl, fun x hx => by simp at hx, _, _, rfl⟩ (fun _ _ _ _ _ => rfl) ?_ ?_
      · dsimp! only []
        exact hR
      · rintro i d σ S3 hd ⟨rfl, hi, o4, o5, rfl⟩ K hK
        obtain ⟨x, hx, rfl⟩ := jSeq_get hd
        have hgo : itemOk B.length k x = true → ∀ T', K [some (bkD B), some (.int k), some (.int j), some (vsD v), some x.d, some (.bl true), none] (S3 ++ T') := fun hx1 T' => hK _ _ (wk_drop ⟨rfl, fun z hz => by
          rw [take_succ hx] at hz
          rcases List.mem_append.mp hz with c | c
          · exact hi z c
          · rw [List.mem_singleton.mp c]; exact hx1, _, _, rfl⟩ (by simp [cloSl, bkD_clo, vsD_clo, Itm.clo, Dv.clo]) hc)
        have hst : itemOk B.length k x = false → ∀ T', Gc S3.length Qd (.tup [.str "BadBook", .int k, .int j]) (S3 ++ T') := fun hx1 T' => badv (by
          rw [hvo, ← Bool.not_eq_true, List.all_eq_true]
          intro z
          have := z x (List.mem_of_getElem? hx)
          rw [hx1] at this; cases this) T'
        simp! only []
        refine seqI (ifI ?_)
        cases x with
        | ref n =>
          simp! only [Itm.d]
          by_cases c1 : (k : Int) < n
          · by_cases c2 : n < (B.length : Int)
            · simp! only [c1, c2, bkD, List.length_map, decide_true]
              refine ifI ?_
              simp! only []
              exact app_nil (hgo (by show (decide _ && decide _) = true; rw [decide_eq_true c1, decide_eq_true c2]; rfl))
            · simp! only [c1, c2, bkD, List.length_map, decide_true, decide_false]
              refine ifI ?_
              simp! only []
              exact app_nil (hst (by show (decide _ && decide _) = false; rw [decide_eq_false c2]; simp))
          · simp! only [c1, decide_false]
            refine ifI ?_
            simp! only []
            exact app_nil (hst (by show (decide _ && decide _) = false; rw [decide_eq_false c1]; rfl))
        | wd y =>
          obtain ⟨⟨y1, y2, y3⟩, _⟩ := g6 y (List.mem_of_getElem? hx)
          have hxy : itemOk B.length k (.wd y) = wordL y := y3
          rw [hxy] at hgo hst
          have hln : y.length ≤ sizeLine := Nat.le_of_lt (small_line (by omega))
          simp! only [Itm.d]
          by_cases c1 : 1 ≤ y.length
          rotate_left
          · have d1 : ¬ (1 : Int) ≤ y.length := by omega
            simp! only [d1, decide_false]
            refine ⟨hln, ?_⟩
            refine ifI ?_
            simp! only []
            exact app_nil (hst (by unfold K16.wordL; rw [decide_eq_false c1]; rfl))
          by_cases c2 : y.length ≤ 8
          rotate_left
          · have d1 : (1 : Int) ≤ y.length := by omega
            have d2 : ¬ (y.length : Int) ≤ 8 := by omega
            simp! only [d1, d2, decide_true, decide_false]
            refine ⟨hln, ?_⟩
            refine ifI ?_
            simp! only []
            exact app_nil (hst (by unfold K16.wordL; rw [decide_eq_false c2]; simp))
          have d1 : (1 : Int) ≤ y.length := by omega
          have d2 : (y.length : Int) ≤ 8 := by omega
          have hwl : wordL y = y.cps.toList.all inAZ := by unfold K16.wordL; rw [decide_eq_true c1, decide_eq_true c2]; rfl
          rw [hwl] at hgo hst
          simp! only [d1, d2, decide_true]
          refine ⟨hln, ?_⟩
          refine eLc_opt (S1 := S3) ⟨y.cps.toList.map fun c => .str ⟨#[c]⟩, fun _ => True⟩ y.cps.toList (fun c => .str ⟨#[c]⟩) (fun c => if inAZ c = true then none else some (.str ⟨#[c]⟩)) ?_ rfl trivial ?_ hc ?_ ?_ ?_
          · intro R hR
            dsimp! only [iStr]
            exact hR
          · have : y.cps.toList.length = y.length := by simp [Str.length]
            omega
          · intro c _ z hz
            split at hz
            · cases hz
            · cases hz; rfl
          · intro c _ K1 K0 hK1 hK0
            dsimp! only [dLeS]
            by_cases a1 : ([c] : List Nat) < ("a" : Str).cps.toList
            · have hz : inAZ c = false := by unfold K16.inAZ; rw [decide_eq_true a1]; rfl
              dsimp! only [a1]
              exact app_nil (hK1 _ (by rw [if_neg (by rw [hz]; exact Bool.false_ne_true)]))
            · by_cases a2 : ("z" : Str).cps.toList < ([c] : List Nat)
              · have hz : inAZ c = false := by unfold K16.inAZ; rw [decide_eq_true a2]; simp
                dsimp! only [a1, a2]
                exact app_nil (hK1 _ (by rw [if_neg (by rw [hz]; exact Bool.false_ne_true)]))
              · have hz : inAZ c = true := by unfold K16.inAZ; rw [decide_eq_false a1, decide_eq_false a2]; rfl
                dsimp! only [a1, a2]
                exact app_nil (hK0 (by rw [if_pos hz]))
          · have e : (y.cps.toList.filterMap fun c => if inAZ c = true then none else some (Dv.str ⟨#[c]⟩)) = ((y.cps.toList.filter fun c => !inAZ c).map fun c => (⟨#[c]⟩ : Str)).map Dv.str := by
              generalize y.cps.toList = cs
              induction cs with
              | nil => rfl
              | cons c cs ih =>
                cases hc : inAZ c with
                | true => rw [List.filterMap_cons_none (by rw [hc]; rfl), List.filter_cons_of_neg (by rw [hc]; simp), ih]
                | false => rw [List.filterMap_cons_some (b := Dv.str ⟨#[c]⟩) (by rw [hc]; rfl), List.filter_cons_of_pos (by rw [hc]; rfl), ih]; rfl
            rw [e]
            refine dEq_nil_s (ys := (y.cps.toList.filter fun c => !inAZ c).map fun c => (⟨#[c]⟩ : Str)) (fun z hz => ?_) (by rw [List.append_assoc]; exact getL_at) (by first | exact getL_at | (rw [List.length_append]; exact getL_at)) ?_
            · obtain ⟨c, hc1, rfl⟩ := List.mem_map.mp hz
              exact y2 c (List.mem_filter.mp hc1).1
            rw [flt_nil]
            refine ifI ?_
            cases ha : y.cps.toList.all inAZ with
            | true =>
              rw [ha] at hgo
              have := hgo rfl
              rw [List.append_assoc]
              simp! only []
              exact this _
            | false =>
              rw [ha] at hst
              have := hst rfl
              rw [List.append_assoc]
              simp! only []
              exact this _
      · rintro σ S3 ⟨rfl, hall, o4, o5, rfl⟩
        refine hK2 _ _ (.inl ⟨rfl, fun z hz => ?_, _, _, _, _, rfl⟩)
        rw [take_succ hv] at hz
        rcases List.mem_append.mp hz with c | c
        · exact hpj z c
        · rw [List.mem_singleton.mp c, hvo, List.all_eq_true]
          intro x hx
          refine hall x ?_
          have e : (jSeq (vsD v) (v.map Itm.d)).items.length = v.length := by show (v.map Itm.d).length = _; rw [List.length_map]
          rw [e, List.take_length]; exact hx
    · rintro σ S'' ⟨rfl, hall, o2, o3, o4, o5, rfl⟩
      rw [jRg_len, List.take_length] at hall
      refine hKK _ _ (.inl ⟨rfl, fun i hi => ?_, _, _, _, _, _, rfl⟩)
      by_cases e : i = k
      · subst e
        rw [hdv, hfn (List.findIdx?_eq_none_iff.mpr fun x hx => by rw [hall x hx]; rfl)]
      · exact hno i (by omega)
  · rintro σ S' ⟨rfl, hno, o1, o2, o3, o4, o5, rfl⟩
    rw [jRg_len] at hno
    simp! only []
    rcases ok_or_defect hS with hok | ⟨r, v, hd⟩
    · exact .inl (h1 hok)
    · rcases hd with ⟨hB, _⟩ | ⟨k, hk, rfl, hv, hn⟩
      · rw [hB] at h0; exact absurd rfl h0
      · have := hno k hk; rw [this] at hv; cases hv
end K01
set_option Elab.async false
set_option linter.all false
set_option maxRecDepth 100000
set_option maxHeartbeats 4000000
set_option exponentiation.threshold 5000
namespace K16
open PySem PySem.Spec D3 K20 K11
open K03 hiding Sc SMv scF Imm r_law
open K13 (cut_to)
abbrev sg (o0 : Option Dv) (a : Nat) (i : Int) (B : Bk) (s : Ps) (r v : Int) (o9 o10 o11 o12 o13 o14 o15 : Option Dv) : Sl := [o0, some (.obj a), some (.int i), some (bkD B), some (stD s), some (tsD s.1), some (pathD s.2), some (.int r), some (.int v), o9, o10, o11, o12, o13, o14, o15]
end K16
set_option Elab.async false
set_option linter.all false
set_option maxRecDepth 100000
set_option maxHeartbeats 4000000
set_option exponentiation.threshold 5000
namespace K16
open PySem PySem.Spec D3 K20 K11
open K03 hiding Sc SMv scF Imm r_law
open K13 (cut_to)
end K16
set_option Elab.async false
set_option linter.all false
set_option maxRecDepth 100000
set_option maxHeartbeats 2000000
set_option exponentiation.threshold 5000
namespace K01
open PySem PySem.Spec D3 K20 K11
open K16 (defV Defect inAZ wordL LawW lawW_of lawWB splice splice_len)
open K03 (bup_frm bx_frm)
def itP : Itm → PyData
  | .wd y => .str y
  | .ref n => .int n
def vP (v : List Itm) : PyData := .tuple (v.map itP)
def CanV (v : List Itm) : Prop := ∀ y, Itm.wd y ∈ v → PyData.canLay0 (.str y) = true
theorem denL_its {f : Nat → Option PyData} : ∀ v : List Itm, denL f (v.map Itm.d) = some (v.map itP)
  | [] => rfl
  | x :: v => by
    have ih := denL_its (f := f) v
    rw [List.map_cons, List.map_cons]
    unfold denL
    rw [ih]
    cases x <;> rfl
theorem den_v {f : Nat → Option PyData} (v : List Itm) : den f (vsD v) = some (vP v) := by
  show (denL f (v.map Itm.d)).map PyData.tuple = _
  rw [denL_its]; rfl
theorem denL_vs {f : Nat → Option PyData} : ∀ r : List (List Itm), denL f (r.map vsD) = some (r.map vP)
  | [] => rfl
  | v :: r => by
    have ih := denL_vs (f := f) r
    rw [List.map_cons, List.map_cons]
    unfold denL
    rw [ih, den_v]
theorem can_v {v : List Itm} (h : CanV v) : PyData.canLayAll0 (v.map itP) = true ∧ PyData.depthAll (v.map itP) ≤ 1 := by
  induction v with
  | nil => simp [PyData.canLayAll0, PyData.depthAll]
  | cons x v ih =>
    obtain ⟨a1, a2⟩ := ih fun y hy => h y (List.mem_cons_of_mem _ hy)
    cases x with
    | wd y =>
      have hy := h y List.mem_cons_self
      rw [List.map_cons, PyData.canLayAll0, PyData.depthAll]
      refine ⟨by rw [show itP (.wd y) = PyData.str y from rfl, hy, a1]; rfl, ?_⟩
      show max (PyData.depth (.str y)) _ ≤ 1
      simp [PyData.depth]; omega
    | ref n =>
      rw [List.map_cons, PyData.canLayAll0, PyData.depthAll]
      refine ⟨by rw [show itP (.ref n) = PyData.int n from rfl, a1]; rfl, ?_⟩
      show max (PyData.depth (.int n)) _ ≤ 1
      simp [PyData.depth]; omega
theorem can_vs {r : List (List Itm)} (h : ∀ v ∈ r, CanV v) : PyData.canLayAll0 (r.map vP) = true ∧ PyData.depthAll (r.map vP) ≤ 2 := by
  induction r with
  | nil => simp [PyData.canLayAll0, PyData.depthAll]
  | cons v r ih =>
    obtain ⟨a1, a2⟩ := ih fun w hw => h w (List.mem_cons_of_mem _ hw)
    obtain ⟨b1, b2⟩ := can_v (h v List.mem_cons_self)
    rw [List.map_cons, PyData.canLayAll0, PyData.depthAll]
    refine ⟨?_, ?_⟩
    · show (PyData.canLay0 (.tuple (v.map itP)) && _) = true
      rw [PyData.canLay0, b1, a1]; rfl
    · show max (PyData.depth (.tuple (v.map itP))) _ ≤ 2
      rw [PyData.depth]; omega
theorem shaped_of {d : PyData} (h1 : PyData.canLay0 d = true) (h2 : PyData.depth d ≤ 64) : SeqAt.shaped d = true := by
  unfold SeqAt.shaped
  rw [h1, decide_eq_true h2]; rfl
theorem dEq_v {v : List Itm} {S : Store} {Q : KD} (hv : CanV v) (h : Q (.bl (decide (v = []))) S) : dEq (vsD v) (.tup []) S Q := by
  obtain ⟨a1, a2⟩ := can_v hv
  refine ⟨_, _, den_v v, rfl, shaped_of (d := .tuple (v.map itP)) (by rw [PyData.canLay0, a1]) (by rw [PyData.depth]; omega), by decide, ?_⟩
  have : PyData.eqv (vP v) (.tuple []) = decide (v = []) := by cases v <;> simp [PyData.eqv, PyData.eqvAll, vP]
  rw [this]; exact h
theorem dEq_vs {r : List (List Itm)} {S : Store} {b c : Nat} {Q : KD} (hr : ∀ v ∈ r, CanV v) (hb : getL S b = some (r.map vsD)) (hc : getL S c = some []) (h : Q (.bl (decide (r = []))) S) : dEq (.obj b) (.obj c) S Q := by
  obtain ⟨a1, a2⟩ := can_vs hr
  have e1 : den (fO S 4) (.obj b) = some (.list (r.map vP)) := by
    show fO S 4 b = _
    rw [fO, hb]
    show (denL (fO S 3) _).map PyData.list = _
    rw [denL_vs]; rfl
  refine ⟨_, _, e1, fO_ints (ns := []) hc, shaped_of (d := .list (r.map vP)) (by rw [PyData.canLay0, a1]) (by rw [PyData.depth]; omega), shaped_ints [], ?_⟩
  have : PyData.eqv (.list (r.map vP)) (.list ([].map PyData.int)) = decide (r = []) := by cases r <;> simp [PyData.eqv, PyData.eqvAll]
  rw [this]; exact h
def lawVB (y : Str) : Bool := lawWB y && PyData.canLay0 (.str y)
theorem lawV_of {y : Str} (h : lawVB y = true) : LawV y := by
  unfold lawVB at h
  rw [Bool.and_eq_true] at h
  exact ⟨lawW_of h.1, h.2⟩
theorem five_v : ∀ y ∈ five, lawVB y = true := by decide +kernel
def odds (k n : Nat) : List Itm := [.wd "", .wd "abcdefghi", .wd "A", .wd "a b", .ref (-1), .ref 0, .ref k, .ref n, .ref ((k : Int) + 1), .wd "z"]
theorem odd_v : ∀ y ∈ (["", "abcdefghi", "A", "a b", "z", "a"] : List Str), lawVB y = true := by decide +kernel
theorem odds_v (k n : Nat) : ∀ y, Itm.wd y ∈ odds k n → LawV y := fun y hy => by
  simp only [odds, List.mem_cons, List.not_mem_nil, or_false, Itm.wd.injEq, reduceCtorEq, false_or] at hy
  refine lawV_of (odd_v y ?_)
  simp only [List.mem_cons, List.not_mem_nil, or_false]
  rcases hy with h | h | h | h | h <;> simp [h]
theorem vs_can {v : List Itm} (h : ∀ y, Itm.wd y ∈ v → LawV y) : CanV v := fun y hy => (h y hy).2
theorem bg {a b : Nat} {S S' : Store} {i : Nat} {xs : List Dv} (hu : Bup a b S S') (hi : a < i ∧ b < i) (h : getL S i = some xs) : getL S' i = some xs :=
  getL_iff.mpr ((bup_frm hu).at (getL_iff.mp h) (by simp; omega))
def spDamB : Spd := fun ds S Q E => ∃ (a b m : Nat) (B : Bk), ds = [.obj a, bkD B] ∧ Bx a b S ∧ 1 ≤ B.length ∧ GB m B ∧ 1 ≤ m ∧ m ≤ 100 ∧ ∀ B' S', GB (5 * m) B' → B'.length = B.length → Bx a b S' → Q (bkD B') S'
theorem r_damaged : ∀ ds S Qd Ed, spDamB ds S Qd Ed → StClo S → t_Ldamaged K11.spTake (WEx S.length Ed) { nx := fun _ S' => Gc S.length Qd .non S', rt := Gc S.length Qd } (startD 8 ds) S := by
  rintro _ S Qd Ed ⟨a, b, m, B, rfl, hx, hpos, hG, hm1, hm2, h⟩ hc
  obtain ⟨hB61, hBr⟩ := hG
  obtain ⟨la, lb⟩ := hx.lt
  unfold t_Ldamaged
  refine seqI ?_
  simp! only [bkD, List.length_map]
  refine ⟨a, b, _, rfl, hx, by omega, by omega, fun r S1 r0 r1 hu1 => ?_⟩
  obtain ⟨k, rfl⟩ := Int.eq_ofNat_of_zero_le r0
  have hk : k < B.length := by omega
  have hx1 := hu1.bx
  have hl1 := hu1.len
  obtain ⟨vs, hvs⟩ : ∃ vs, B[k]? = some vs := ⟨_, List.getElem?_eq_getElem hk⟩
  have hbk : L2.atI (B.map rfD) (k : Int) = some (rfD vs) := atI_nat (by rw [List.getElem?_map, hvs]; rfl)
  obtain ⟨g3, g4⟩ := hBr vs (List.mem_of_getElem? hvs)
  refine seqI ?_
  simp! only [hbk, rfD]
  have hx2 : Bx a b (S1 ++ [.lst (vs.map vsD)]) := hx1.app
  refine seqI (ifI ?_)
  simp! only []
  refine dEq_vs (r := vs) (fun v hv => vs_can (g4 v hv).2) (by rw [getL_iff]; simp [st_get0]) (by rw [getL_iff]; simp [st_getk]) ?_
  have mono : ∀ r ∈ B, r.length ≤ 5 * m ∧ ∀ v ∈ r, v.length ≤ 7 ∧ ∀ y, Itm.wd y ∈ v → LawV y := fun r hr => ⟨by have := (hBr r hr).1; omega, (hBr r hr).2⟩
  by_cases c0 : vs = []
  · refine ⟨_, rfl, ?_⟩
    rw [if_pos (decide_eq_true c0)]
    exact .inl (h B _ ⟨hB61, mono⟩ rfl hx1.app)
  refine ⟨_, rfl, ?_⟩
  rw [if_neg (by rw [decide_eq_false c0]; exact Bool.false_ne_true)]
  have hvl : 1 ≤ vs.length := List.length_pos_iff.mpr c0
  have gv2 : getL (S1 ++ [Mo.lst (vs.map vsD), .lst []]) S1.length = some (vs.map vsD) := by rw [getL_iff]; simp [st_get0]
  have hx2 : Bx a b (S1 ++ [Mo.lst (vs.map vsD), .lst []]) := hx1.app
  have la1 : a < S1.length ∧ b < S1.length := hx1.lt
  have hl2 : S1.length < (S1 ++ [Mo.lst (vs.map vsD), Mo.lst []]).length := by rw [List.length_append]; show _ < S1.length + 2; omega
  generalize S1 ++ [Mo.lst (vs.map vsD), Mo.lst []] = S2 at *
  generalize S1.length = i3 at *
  refine seqI ?_
  simp! only []
  refine ⟨a, b, 8, rfl, hx2, by decide, by decide, fun way S3 w0 w1 hu3 => ?_⟩
  have gv3 := bg hu3 la1 gv2
  have hx3 := hu3.bx
  have hl3 := hu3.len
  simp! only [gv3, List.length_map]
  refine ⟨a, b, _, rfl, hx3, by omega, by omega, fun r4 S4 r40 r41 hu4 => ?_⟩
  obtain ⟨j, rfl⟩ := Int.eq_ofNat_of_zero_le r40
  have hj : j < vs.length := by omega
  have gv4 := bg hu4 la1 gv3
  have hx4 := hu4.bx
  have hl4 := hu4.len
  obtain ⟨v, hv⟩ : ∃ v, vs[j]? = some v := ⟨_, List.getElem?_eq_getElem hj⟩
  obtain ⟨g5, g6⟩ := g4 v (List.mem_of_getElem? hv)
  have hvj : L2.atI (vs.map vsD) (j : Int) = some (vsD v) := atI_nat (by rw [List.getElem?_map, hv]; rfl)
  refine seqI ?_
  simp! only [bkD, List.length_map]
  refine ⟨Nat.le_of_lt (small_line (by decide)), ?_⟩
  have hodd : [Dv.str (Str.ofString ""), .str (Str.ofString "abcdefghi"), .str (Str.ofString "A"), .str (Str.ofString "a b"), .int (-1), .int 0, .int k, .int B.length, .int ((k : Int) + 1), .str (Str.ofString "z")] = (odds k B.length).map Itm.d := rfl
  rw [hodd]
  have go5 : getL (S4 ++ [.lst ((odds k B.length).map Itm.d)]) S4.length = some ((odds k B.length).map Itm.d) := getL_at
  have gv5 : getL (S4 ++ [.lst ((odds k B.length).map Itm.d)]) i3 = some (vs.map vsD) := getL_old gv4
  have hx5 : Bx a b (S4 ++ [.lst ((odds k B.length).map Itm.d)]) := hx4.app
  have la4 : a < S4.length ∧ b < S4.length := by omega
  have hl5 : S4.length < (S4 ++ [Mo.lst ((odds k B.length).map Itm.d)]).length := by rw [List.length_append]; show _ < S4.length + 1; omega
  have i34 : i3 < S4.length := by omega
  generalize S4 ++ [Mo.lst ((odds k B.length).map Itm.d)] = S5 at *
  generalize S4.length = i6 at *
  refine seqI ?_
  simp! only []
  refine ⟨_, gv5, _, hvj, _, rfl, _, getL_old gv5, _, hvj, ?_⟩
  refine dEq_v (vs_can g6) ?_
  dsimp only
  obtain ⟨its, hits, t1, t2, t3⟩ : ∃ its : List Itm, v.map Itm.d ++ (List.replicate (if decide (v = []) = true then (1 : Int) else 0).toNat [Dv.str (Str.ofString "")]).flatten = its.map Itm.d ∧ 1 ≤ its.length ∧ its.length ≤ 7 ∧ ∀ y, Itm.wd y ∈ its → LawV y := by
    by_cases cv : v = []
    · refine ⟨[.wd ""], by rw [cv]; rfl, by decide, by decide, fun y hy => ?_⟩
      have := List.mem_singleton.mp hy
      cases this
      exact lawV_of (odd_v _ (by simp))
    · refine ⟨v, by rw [if_neg (by rw [decide_eq_false cv]; exact Bool.false_ne_true)]; simp, List.length_pos_iff.mpr cv, g5, g6⟩
  have hb2 : -2 ^ 63 ≤ (if decide (v = []) = true then (1 : Int) else 0) ∧ (if decide (v = []) = true then (1 : Int) else 0) < 2 ^ 63 ∧ (if decide (v = []) = true then (1 : Int) else 0).toNat ≤ 1 := by
    split <;> exact ⟨by decide, by decide, by decide⟩
  generalize (if decide (v = []) = true then (1 : Int) else 0) = n7 at *
  refine ⟨[Dv.str (Str.ofString "")], by rw [getL_iff, st_getk]; rfl, hb2.1, hb2.2.1, Nat.le_of_lt (small_line (by show 1 * n7.toNat < 100000; omega)), v.map Itm.d, by rw [getL_iff]; simp [st_get0], Nat.le_of_lt (small_line (by rw [← List.length_append, hits, List.length_map]; omega)), ?_⟩
  rw [hits]
  have gi6 : getL (S5 ++ [Mo.lst (v.map Itm.d), .lst [Dv.str (Str.ofString "")]] ++ [Mo.lst (List.replicate n7.toNat [Dv.str (Str.ofString "")]).flatten, Mo.lst (its.map Itm.d)]) ((S5 ++ [Mo.lst (v.map Itm.d), .lst [Dv.str (Str.ofString "")]]).length + 1) = some (its.map Itm.d) := by rw [getL_iff, st_getk]; rfl
  have gv6 : getL (S5 ++ [Mo.lst (v.map Itm.d), .lst [Dv.str (Str.ofString "")]] ++ [Mo.lst (List.replicate n7.toNat [Dv.str (Str.ofString "")]).flatten, Mo.lst (its.map Itm.d)]) i3 = some (vs.map vsD) := getL_old (getL_old gv5)
  have go6 : getL (S5 ++ [Mo.lst (v.map Itm.d), .lst [Dv.str (Str.ofString "")]] ++ [Mo.lst (List.replicate n7.toNat [Dv.str (Str.ofString "")]).flatten, Mo.lst (its.map Itm.d)]) i6 = some ((odds k B.length).map Itm.d) := getL_old (getL_old go5)
  have hx6 : Bx a b (S5 ++ [Mo.lst (v.map Itm.d), .lst [Dv.str (Str.ofString "")]] ++ [Mo.lst (List.replicate n7.toNat [Dv.str (Str.ofString "")]).flatten, Mo.lst (its.map Itm.d)]) := hx5.app.app
  have i67 : i6 < (S5 ++ [Mo.lst (v.map Itm.d), Mo.lst [Dv.str (Str.ofString "")]]).length + 1 := by rw [List.length_append]; omega
  generalize S5 ++ [Mo.lst (v.map Itm.d), .lst [Dv.str (Str.ofString "")]] ++ [Mo.lst (List.replicate n7.toNat [Dv.str (Str.ofString "")]).flatten, Mo.lst (its.map Itm.d)] = S6 at *
  generalize (S5 ++ [Mo.lst (v.map Itm.d), .lst [Dv.str (Str.ofString "")]]).length + 1 = i7 at *
  have la7 : a < i7 ∧ b < i7 := by omega
  refine seqI ?_
  simp! only []
  refine ⟨a, b, 10, rfl, hx6, by decide, by decide, fun r8 S7 r80 r81 hu7 => ?_⟩
  have gi7 := bg hu7 la7 gi6
  have gv7 := bg hu7 la1 gv6
  have go7 := bg hu7 la4 go6
  have hx7 := hu7.bx
  obtain ⟨j8, rfl⟩ := Int.eq_ofNat_of_zero_le r80
  obtain ⟨x8, hx8⟩ : ∃ x8, (odds k B.length)[j8]? = some x8 := ⟨_, List.getElem?_eq_getElem (by show j8 < 10; omega)⟩
  simp! only []
  refine ⟨_, go7, x8.d, atI_nat (by rw [List.getElem?_map, hx8]; rfl), ?_⟩
  simp! only [gi7, List.length_map]
  refine ⟨a, b, _, rfl, hx7, by omega, by omega, fun r9 S8 r90 r91 hu8 => ?_⟩
  have gi8 := bg hu8 la7 gi7
  have gv8 := bg hu8 la1 gv7
  have hx8' := hu8.bx
  obtain ⟨j9, rfl⟩ := Int.eq_ofNat_of_zero_le r90
  refine ⟨_, gi8, j9, ixN_nat (by rw [List.length_map]; omega), ?_⟩
  have hset : (its.map Itm.d).set j9 x8.d = (its.set j9 x8).map Itm.d := by rw [List.map_set]
  rw [hset]
  have u1 : (its.set j9 x8).length ≤ 7 := by rw [List.length_set]; exact t2
  have u2 : ∀ y, Itm.wd y ∈ its.set j9 x8 → LawV y := fun y hy => by
    rcases List.mem_or_eq_of_mem_set hy with z | z
    · exact t3 y z
    · exact odds_v k B.length y (by rw [z]; exact List.mem_of_getElem? hx8)
  generalize its.set j9 x8 = its2 at *
  have ne37 : i7 ≠ i3 := by omega
  have gi9 : getL (S8.set i7 (.lst (its2.map Itm.d))) i7 = some (its2.map Itm.d) := getL_iff.mpr (List.getElem?_set_self (at_lt (getL_iff.mp gi8)))
  have gv9 : getL (S8.set i7 (.lst (its2.map Itm.d))) i3 = some (vs.map vsD) := getL_iff.mpr (by rw [List.getElem?_set_ne ne37]; exact getL_iff.mp gv8)
  have hx9 : Bx a b (S8.set i7 (.lst (its2.map Itm.d))) := bx_frm hx8' (.set (F := [i7]) List.mem_cons_self) ⟨by simp; omega, by simp; omega⟩
  generalize S8.set i7 (.lst (its2.map Itm.d)) = S9 at *
  have hkB : k < (B.map rfD).length := by rw [List.length_map]; exact hk
  obtain ⟨s1, s2⟩ := splice_len (l := B.map rfD) (i := k)
  rw [List.length_map] at s1 s2
  have hfd : (B.map fun r => Dv.tup (r.map vsD)) = B.map rfD := rfl
  have ret : ∀ (r' : List (List Itm)) (i : Nat) (o4 o5 o6 o7 : Option Dv) S', Bx a b S' → getL S' i = some (r'.map vsD) → r'.length ≤ 5 * m → (∀ v ∈ r', v.length ≤ 7 ∧ ∀ y, Itm.wd y ∈ v → LawV y) → (sRet (eOp dAdd (eOp dAdd (eSl dSlice (eVar 1) oNo (oSome (eVar 2))) (eTup (aCons (eArgs dTuple (aCons (eVar 3) aNil)) aNil))) (eSl dSlice (eVar 1) (oSome (eOp dAdd (eVar 2) (eC (.int 1)))) oNo)))
      { nx := fun x S' => Gc S.length Qd Dv.non S', rt := Gc S.length Qd } [some (.obj a), some (bkD B), some (.int k), some (.obj i), o4, o5, o6, o7] S' := by
    intro r' i o4 o5 o6 o7 S' hx' hg hl hr'
    have hs := splice hkB (rfD r')
    rw [List.append_assoc] at hs
    have hs : cutD (B.map rfD) none (some (k : Int)) ++ Dv.tup (r'.map vsD) :: cutD (B.map rfD) (some ((k : Int) + 1)) none = _ := hs
    simp! only [eSl, oSome, oNo, bkD, hg]
    refine ⟨Nat.le_of_lt (small_line (by omega)), Nat.le_of_lt (small_line (by omega)), ?_⟩
    rw [hs]
    have e : (B.map rfD).set k (rfD r') = (B.set k r').map rfD := by rw [List.map_set]
    rw [e]
    refine .inl (h (B.set k r') _ ⟨by rw [List.length_set]; exact hB61, fun r hr => ?_⟩ (by rw [List.length_set]) hx')
    rcases List.mem_or_eq_of_mem_set hr with z | z
    · exact mono r z
    · rw [z]; exact ⟨hl, hr'⟩
  have setv : ∀ w : List Itm, w.length ≤ 7 → (∀ y, Itm.wd y ∈ w → LawV y) → (vs.set j w).length ≤ 5 * m ∧ ∀ v ∈ vs.set j w, v.length ≤ 7 ∧ ∀ y, Itm.wd y ∈ v → LawV y := fun w w1 w2 => ⟨by rw [List.length_set]; omega, fun v hv => by
    rcases List.mem_or_eq_of_mem_set hv with z | z
    · exact g4 v z
    · rw [z]; exact ⟨w1, w2⟩⟩
  have put : ∀ (w : List Itm) S' (o4 o5 o6 o7 : Option Dv), Bx a b S' → getL S' i3 = some (vs.map vsD) → w.length ≤ 7 → (∀ y, Itm.wd y ∈ w → LawV y) → (sRet (eOp dAdd (eOp dAdd (eSl dSlice (eVar 1) oNo (oSome (eVar 2))) (eTup (aCons (eArgs dTuple (aCons (eVar 3) aNil)) aNil))) (eSl dSlice (eVar 1) (oSome (eOp dAdd (eVar 2) (eC (.int 1)))) oNo)))
      { nx := fun x S' => Gc S.length Qd Dv.non S', rt := Gc S.length Qd } [some (.obj a), some (bkD B), some (.int k), some (.obj i3), o4, o5, o6, o7] (S'.set i3 (.lst ((vs.map vsD).set j (vsD w)))) := by
    intro w S' o4 o5 o6 o7 hx' hg w1 w2
    obtain ⟨z1, z2⟩ := setv w w1 w2
    refine ret (vs.set j w) i3 _ _ _ _ _ (bx_frm hx' (.set (F := [i3]) List.mem_cons_self) ⟨by simp; omega, by simp; omega⟩) ?_ z1 z2
    rw [getL_iff, List.getElem?_set_self (at_lt (getL_iff.mp hg)), List.map_set]
  have hjl : j < (vs.map vsD).length := by rw [List.length_map]; exact hj
  generalize (sRet (eOp dAdd (eOp dAdd (eSl dSlice (eVar 1) oNo (oSome (eVar 2))) (eTup (aCons (eArgs dTuple (aCons (eVar 3) aNil)) aNil))) (eSl dSlice (eVar 1) (oSome (eOp dAdd (eVar 2) (eC (.int 1)))) oNo))) = tl at *
  refine seqI (ifI ?_)
  by_cases c4 : way < 4
  · simp! only [c4, decide_true, gi9]
    exact ⟨_, gv9, j, ixN_nat hjl, put its2 S9 _ _ _ _ hx9 gv9 u1 u2⟩
  simp! only [c4, decide_false]
  refine ifI ?_
  by_cases c5 : way = 4
  · simp! only [c5, decide_true, dMulT]
    refine ⟨by simp, by decide, by decide, by simp, by decide, by decide, a, b, 3, rfl, hx9.app, by decide, by decide, fun r S10' q0 q1 hup => ?_⟩
    obtain ⟨S10, rfl, hu10⟩ := bup_app hx9 hup
    have hl10 : S9.length = S10.length := hu10.len.symm
    rw [hl10]
    have gv10 : getL S10 i3 = some (vs.map vsD) := bg hu10 la1 gv9
    obtain ⟨q, rfl⟩ := Int.eq_ofNat_of_zero_le q0
    have hq : q < 3 := by omega
    obtain ⟨w, hw, w1, w2⟩ : ∃ w : List Itm, L2.atI [Dv.tup [], .tup (List.replicate (Int.toNat 7) (Dv.str (Str.ofString "a"))), .tup (List.replicate (Int.toNat 6) (Dv.str (Str.ofString "a")))] (q : Int) = some (vsD w) ∧ w.length ≤ 7 ∧ ∀ y, Itm.wd y ∈ w → LawV y := by
      have hav : ∀ n : Nat, ∀ y, Itm.wd y ∈ List.replicate n (Itm.wd "a") → LawV y := fun n y hy => by
        have := List.eq_of_mem_replicate hy
        cases this
        exact lawV_of (odd_v _ (by simp))
      have : q = 0 ∨ q = 1 ∨ q = 2 := by omega
      rcases this with rfl | rfl | rfl
      · exact ⟨[], rfl, by decide, fun y hy => by cases hy⟩
      · exact ⟨List.replicate 7 (.wd "a"), rfl, by decide, hav 7⟩
      · exact ⟨List.replicate 6 (.wd "a"), rfl, by decide, hav 6⟩
    simp! only []
    refine ⟨_, hw, _, getL_old gv10, j, ixN_nat hjl, put w _ _ _ _ _ hu10.bx.app (getL_old gv10) w1 w2⟩
  · have h57 : way = 5 ∨ way = 6 ∨ way = 7 := by omega
    simp! only [c5, decide_false, gv9]
    have e5 : (List.replicate (Int.toNat 5) (vs.map vsD)).flatten = (vs ++ (vs ++ (vs ++ (vs ++ vs)))).map vsD := by
      show (List.replicate 5 (vs.map vsD)).flatten = _
      simp [List.replicate, List.flatten]
    have e1 : cutD (vs.map vsD) none (some 1) = (vs.take 1).map vsD := by
      have := K13.cut_to (vs.map vsD) (j := 1) (by rw [List.length_map]; omega)
      rw [List.map_take]
      exact this
    refine ⟨_, getL_old gv9, by decide, by decide, Nat.le_of_lt (small_line (by rw [List.length_map]; show vs.length * 5 < 100000; omega)), _, getL_old gv9, ?_⟩
    rw [e5, e1]
    have hxT : Bx a b (S9 ++ [Mo.lst [], Mo.lst ((vs ++ (vs ++ (vs ++ (vs ++ vs)))).map vsD), Mo.lst ((vs.take 1).map vsD), Mo.lst [Dv.obj S9.length, .obj (S9.length + 1), .obj (S9.length + 2)]]) := hx9.app
    have hall : ∀ v ∈ vs ++ (vs ++ (vs ++ (vs ++ vs))), v.length ≤ 7 ∧ ∀ y, Itm.wd y ∈ v → LawV y := fun v hv => by
      simp only [List.mem_append, or_self] at hv
      exact g4 v hv
    rcases h57 with rfl | rfl | rfl
    · refine ⟨_, rfl, ret [] _ _ _ _ _ _ hxT (by rw [getL_iff, st_get0]; rfl) (Nat.zero_le _) fun v hv => by cases hv⟩
    · refine ⟨_, rfl, ret _ _ _ _ _ _ _ hxT (by rw [getL_iff, st_getk]; rfl) ?_ hall⟩
      simp only [List.length_append]; omega
    · refine ⟨_, rfl, ret _ _ _ _ _ _ _ hxT (by rw [getL_iff, st_getk]; rfl) ?_ fun v hv => g4 v (List.mem_of_mem_take hv)⟩
      rw [List.length_take]; omega
end K01
set_option Elab.async false
set_option linter.all false
set_option maxRecDepth 100000
set_option maxHeartbeats 2000000
set_option exponentiation.threshold 5000
namespace K01
open PySem PySem.Spec D3 K20 K11
open K16 (defV Defect ok_or_defect)
open K03 (bup_frm bx_frm SameD spAl same_refl alS)
open K09 (spReach reachL mem_reach)
def st0 (B : Bk) : Dv := .tup [tsD (List.replicate B.length 0), .tup []]
def spInit (CB : Addr) : Spd := fun ds S Q E => ∃ B : Bk, ds = [bkD B] ∧ Small B ∧ ((BkOk B ∧ Q (st0 B) S) ∨ ∃ r v, Defect B r v ∧ E ⟨CB, some (bbF r v)⟩ S)
theorem zeros_D (n : Nat) : (List.replicate n [Dv.int 0]).flatten = (List.replicate n (0 : Int)).map Dv.int := by
  induction n with
  | zero => rfl
  | succ n ih => rw [List.replicate_succ, List.flatten_cons, ih, List.replicate_succ]; rfl
theorem r_init (CB : Addr) : ∀ ds S Qd Ed, spInit CB ds S Qd Ed → StClo S → t_initial_state (K16.spVBook CB) (WEx S.length Ed) { nx := fun _ S' => Gc S.length Qd .non S', rt := Gc S.length Qd } (startD 1 ds) S := by
  rintro _ S Qd Ed ⟨B, rfl, hS, h⟩ hc
  unfold t_initial_state
  refine seqI ?_
  simp! only []
  refine ⟨B, rfl, hS, ?_⟩
  rcases h with ⟨hok, h⟩ | ⟨r, v, hd, h⟩
  · refine .inl ⟨hok, ?_⟩
    have hp := hok.pos
    have h6 := hok.le
    simp! only [dMulT, bkD, List.length_map]
    refine ⟨by simp, by omega, by omega, ?_⟩
    have e := zeros_D B.length
    refine .inl ?_
    unfold st0 tsD at h
    rw [← e] at h
    simpa using h
  · exact .inr ⟨r, v, hd, .inl h⟩
def spReachR (CB : Addr) : Spd := fun ds S Q E => ∃ B : Bk, ds = [bkD B] ∧ Small B ∧ ((BkOk B ∧ ∀ T i, getL (S ++ T) i = some ((reachL B).map fun j : Nat => Dv.int j) → Q (.obj i) (S ++ T)) ∨ ∃ r v, Defect B r v ∧ E ⟨CB, some (bbF r v)⟩ S)
theorem r_reachR (CB : Addr) : ∀ ds S Qd Ed, spReachR CB ds S Qd Ed → StClo S → t_reachable_refrains (K16.spVBook CB) spReach (WEx S.length Ed) { nx := fun _ S' => Gc S.length Qd .non S', rt := Gc S.length Qd } (startD 1 ds) S := by
  rintro _ S Qd Ed ⟨B, rfl, hS, h⟩ hc
  unfold t_reachable_refrains
  refine seqI ?_
  simp! only []
  refine ⟨B, rfl, hS, ?_⟩
  rcases h with ⟨hok, h⟩ | ⟨r, v, hd, h⟩
  · exact .inl ⟨hok, B, rfl, hok, fun T i hcl hg => .inl (h T i hg)⟩
  · exact .inr ⟨r, v, hd, .inl h⟩
theorem sort_eq : ∀ {l m : List Int}, l.Pairwise (· < ·) → m.Pairwise (· < ·) → (∀ x, x ∈ l ↔ x ∈ m) → l = m
  | [], [], _, _, _ => rfl
  | [], b :: m, _, _, h => absurd ((h b).mpr List.mem_cons_self) List.not_mem_nil
  | a :: l, [], _, _, h => absurd ((h a).mp List.mem_cons_self) List.not_mem_nil
  | a :: l, b :: m, h1, h2, h => by
    obtain ⟨p1, p2⟩ := List.pairwise_cons.mp h1
    obtain ⟨q1, q2⟩ := List.pairwise_cons.mp h2
    have e : a = b := by
      rcases List.mem_cons.mp ((h a).mp List.mem_cons_self) with z | z
      · exact z
      · rcases List.mem_cons.mp ((h b).mpr List.mem_cons_self) with w | w
        · exact w.symm
        · have := q1 a z
          have := p1 b w
          omega
    subst e
    congr 1
    refine sort_eq p2 q2 fun x => ?_
    constructor
    · intro hx
      rcases List.mem_cons.mp ((h x).mp (List.mem_cons_of_mem _ hx)) with z | z
      · have := p1 x hx; omega
      · exact z
    · intro hx
      rcases List.mem_cons.mp ((h x).mpr (List.mem_cons_of_mem _ hx)) with z | z
      · have := q1 x hx; omega
      · exact z
theorem reach_list {B : Bk} (hB : BkOk B) {R : List Int} (h1 : R.Pairwise (· ≤ ·)) (h2 : R.Nodup) (h3 : ∀ x, x ∈ R ↔ Rch B x) : R.map Dv.int = (reachL B).map fun j : Nat => Dv.int j := by
  have e : R = (reachL B).map fun j : Nat => (j : Int) := by
    refine sort_eq ?_ ?_ fun x => ?_
    · have := List.Pairwise.and h1 h2
      exact this.imp fun {a b} h => by omega
    · rw [List.pairwise_map]
      have : (reachL B).Pairwise (· < ·) := List.Pairwise.filter _ List.pairwise_lt_range
      exact this.imp fun {a b} h => by omega
    · rw [h3, List.mem_map]
      constructor
      · intro hx
        obtain ⟨x0, x1⟩ := rch_in hB hx
        have e : ((x.toNat : Nat) : Int) = x := by omega
        exact ⟨x.toNat, (mem_reach hB).mpr ⟨by omega, by rw [e]; exact hx⟩, e⟩
      · rintro ⟨j, hj, rfl⟩
        exact ((mem_reach hB).mp hj).2
  rw [e, List.map_map]; rfl
theorem same_ints {S : Store} {i j n : Nat} {xs : List Dv} (h1 : getL S i = some xs) (h2 : getL S j = some xs) (hl : xs.length < 100000) (hx : ∀ x ∈ xs, ∃ k, x = .int k) : SameD S (n + 1) (.obj i) (.obj j) :=
  ⟨xs, xs, h1, h2, hl, rfl, fun k x y hx' hy => by
    rw [hx'] at hy
    cases hy
    obtain ⟨q, rfl⟩ := hx x (List.mem_of_getElem? hx')
    cases n <;> rfl⟩
theorem st0_al (B : Bk) (h : B.length < 1000) (n : Nat) : alS (n + 3) (st0 B) = true := by
  show (decide (2 < 100000) && (alS (n + 2) (tsD (List.replicate B.length 0)) && ((decide (0 < 100000) && true) && true))) = true
  rw [K03.alS_ts (by rw [List.length_replicate]; omega)]; rfl
theorem r_law (RR : Tell) (CB : Addr) (hT : ∀ r v : Int, RR ⟨CB, some (bbF r v)⟩ (.tup [.str "BadBook", .int r, .int v])) : ∀ ds S Qd Ed, D3.spLaw 63 ds S Qd Ed → StClo S → t_law RR K11.spBegun K11.spBook K11.spTake spDamB spDefectL K11.spReached (spInit CB) (spReachR CB) (spAl 5) (WEx S.length Ed) { nx := fun _ S' => Gc S.length Qd .non S', rt := Gc S.length Qd } (startD 9 ds) S := by
  rintro _ S Qd Ed ⟨x, ns, rfl, hx, hl, hcl, h⟩ hc
  unfold t_law
  refine seqI ?_
  simp! only []
  refine ⟨x, ns, rfl, hx, hl, fun z => ?_⟩
  have hh : Bx (S.length + 1) S.length (S ++ [.lst (ns.map Dv.int), .lst [.obj S.length, .int z]]) := ⟨z, ns, st_getk, st_get0⟩
  have hret : ∀ T, Gc S.length Qd (.bl true) T := fun T => .inl (h T)
  generalize S ++ [.lst (ns.map Dv.int), .lst [.obj S.length, .int z]] = S0 at *
  generalize ha : S.length + 1 = a at *
  generalize hb : S.length = b at *
  refine seqI ?_
  refine sFor_inv (S1 := S0) (jRg 6) (fun i σ S' => Bx a b S' ∧ ∃ o0 o2 o3 o4 o5 o6 o7 o8 : Option Dv, σ = [o0, some (.obj a), o2, o3, o4, o5, o6, o7, o8]) (hw_rg1 (fun R hR => ?_) (by decide)) ⟨hh, some x, _, _, _, _, _, _, _, rfl⟩ (fun _ _ _ _ _ => trivial) ?_ ?_
  · dsimp! only []
    exact hR
  · rintro i d σ S1 hd ⟨hx1, o0, o2, o3, o4, o5, o6, o7, o8, rfl⟩ K hK
    obtain ⟨hi, rfl⟩ := jRg_get hd
    simp! only []
    refine seqI ?_
    simp! only []
    refine ⟨a, b, 9, rfl, hx1, by decide, by decide, fun B0 S3 hB0 hF hBl hu3 => ?_⟩
    have hx3 := hu3.bx
    have hG0 : GB 4 B0 := by
      refine ⟨by have := hB0.le; omega, fun r hr => ?_⟩
      obtain ⟨k, hk⟩ := List.getElem?_of_mem hr
      refine ⟨(hB0.row hk).2, fun v hv => ⟨by have := (hB0.verse hk hv).2.1; omega, fun y hy => lawV_of (five_v y (hF r hr v hv y hy))⟩⟩
    have hp0 := hB0.pos
    refine seqI ?_
    refine sFor_rg (fun n S1 => n ≤ 2 ∧ Bx a b S1) (fun R hR => ?_) (fun n S1 hP => by have := hP.1; omega) fun n S4 hP => ?_
    · simp! only []
      refine ⟨a, b, 3, rfl, hx3, by decide, by decide, fun r S4 r0 r1 hu4 => ?_⟩
      obtain ⟨n, rfl⟩ := Int.eq_ofNat_of_zero_le r0
      exact hR n _ ⟨by omega, hu4.bx⟩
    obtain ⟨hn2, hx4⟩ := hP
    refine for_ex (S1 := S4) (jRg n) (fun k σ S' => Bx a b S' ∧ ∃ (B : Bk) (o4 : Option Dv), GB (4 * 5 ^ k) B ∧ 1 ≤ B.length ∧ σ = [o0, some (.obj a), some (.int i), some (bkD B), o4, o5, o6, o7, o8]) ⟨hx4, B0, _, hG0, hp0, rfl⟩ (fun _ _ _ _ _ => trivial) ?_ ?_
    · rintro k d σ S5 hd5 ⟨hx5, B, o4', hG, hp, rfl⟩ K2 hK2
      obtain ⟨hk, rfl⟩ := jRg_get hd5
      have hk5 : 5 ^ k ≤ 5 := by
        have : k = 0 ∨ k = 1 := by omega
        rcases this with rfl | rfl <;> decide
      have hk1 : 1 ≤ 5 ^ k := Nat.pos_of_ne_zero (by
        have : k = 0 ∨ k = 1 := by omega
        rcases this with rfl | rfl <;> decide)
      simp! only []
      refine ⟨a, b, 4 * 5 ^ k, B, rfl, hx5, hp, hG, by omega, by omega, fun B' S6 hG' hl' hx6 => ?_⟩
      refine hK2 _ _ (.inl ⟨hx6, B', _, ?_, by omega, rfl⟩)
      rw [Nat.pow_succ]
      have e : 4 * (5 ^ k * 5) = 5 * (4 * 5 ^ k) := by omega
      rw [e]; exact hG'
    rintro σ S5 ⟨hx5, B1, o4', hG1, hp1, rfl⟩
    rw [jRg_len] at hG1
    have hG100 : GB 100 B1 := by
      have : 4 * 5 ^ n ≤ 100 := by
        have : n = 0 ∨ n = 1 ∨ n = 2 := by omega
        rcases this with rfl | rfl | rfl <;> decide
      exact ⟨hG1.1, fun r hr => ⟨by have := (hG1.2 r hr).1; omega, (hG1.2 r hr).2⟩⟩
    dsimp only
    -- what follows, for the book that is asked
    have after : ∀ (B : Bk) (o5 o6 o7 o8 : Option Dv) (S6 : Store), GB 100 B → Bx a b S6 → (sSeq (sAsg (eCall spDefectL (WEx b Ed) (aCons (eVar 3) aNil)) (gNm 5))
    (sSeq (sAsg (eIf (cVal (eOp dIsNot (eVar 5) (eC .non))) (eLst (aCons (eVar 5) (aCons (eVar 5) aNil))) (eLst (aCons (eTup (aCons (eOp dMulT (eTup (aCons (eC (.int 0)) aNil)) (eArgs dLen (aCons (eVar 3) aNil))) (aCons (eTup aNil) aNil))) (aCons (eCall K11.spReached (WEx b Ed) (aCons (eVar 3) aNil)) aNil)))) (gNm 6))
    (sFor (iRg1 (aCons (eC (.int 2)) aNil)) (gNm 7) (sSeq (sAsg (eLst (aCons (eResT RR (fun Wd => (eCall (spInit CB) Wd (aCons (eVar 3) aNil)))) (aCons (eResT RR (fun Wd => (eCall (spReachR CB) Wd (aCons (eVar 3) aNil)))) aNil))) (gNm 8))
    (sIf (cNot (cVal (eCall (spAl 5) (WEx b Ed) (aCons (eVar 8) (aCons (eVar 6) aNil))))) (sRet (eC (.bl false))) sNext)))))
      { nx := K, rt := Gc b Qd, ct := K } [o0, some (.obj a), some (.int i), some (bkD B), o4', o5, o6, o7, o8] S6 := by
      intro B o5 o6 o7 o8 S6 hG hx6
      have hS := hG.small (by decide)
      have h61 := hG.1
      refine seqI ?_
      simp! only []
      refine ⟨100, B, rfl, hG, by decide, fun hok => ?_, fun r v hdf => ?_⟩
      · refine seqI ?_
        have hp := hok.pos
        have h6 := hok.le
        have ez := zeros_D B.length
        simp! only [dMulT, bkD, List.length_map]
        refine ⟨by simp, by omega, by omega, ?_⟩
        have e0 : (List.replicate B.length (Dv.int 0)) = (List.replicate B.length (0 : Int)).map Dv.int := by rw [List.map_replicate]
        refine ⟨B, rfl, hok, fun R T j hs hnd hlen hmem hcl2 hg => ?_⟩
        have hrl := reach_list hok hs hnd hmem
        have hRl : (R.map Dv.int).length < 100000 := by rw [List.length_map]; omega
        have hx7 : Bx a b (S6 ++ T) := hx6.app
        generalize S6 ++ T = S7 at *
        have hst : Dv.tup [.tup (List.replicate B.length (Dv.int 0)), .tup []] = st0 B := by unfold st0 tsD; rw [e0]
        simp only [hst]
        have g8 : getL (S7 ++ [.lst [st0 B, .obj j]]) S7.length = some [st0 B, .obj j] := getL_at
        have gj8 : getL (S7 ++ [.lst [st0 B, .obj j]]) j = some (R.map Dv.int) := getL_old hg
        have hx8 : Bx a b (S7 ++ [.lst [st0 B, .obj j]]) := hx7.app
        generalize S7 ++ [Mo.lst [st0 B, .obj j]] = S8 at *
        generalize S7.length = e6 at *
        refine sFor_inv (S1 := S8) (jRg 2) (fun k σ S' => (Bx a b S' ∧ getL S' e6 = some [st0 B, .obj j] ∧ getL S' j = some (R.map Dv.int)) ∧ ∃ o7 o8 : Option Dv, σ = [o0, some (.obj a), some (.int i), some (bkD B), o4', some .non, some (.obj e6), o7, o8]) (hw_rg1 (fun R hR => ?_) (by decide)) ⟨⟨hx8, g8, gj8⟩, _, _, rfl⟩ (fun _ _ _ _ _ => trivial) ?_ ?_
        · dsimp! only []
          exact hR
        · rintro k d σ S9 hd9 ⟨⟨hx9, g9, gj9⟩, o7, o8, rfl⟩ K2 hK2
          obtain ⟨hk, rfl⟩ := jRg_get hd9
          simp! only []
          refine seqI ?_
          simp! only [eResT]
          refine ⟨B, rfl, hS, .inl ⟨hok, ?_⟩⟩
          refine ⟨B, rfl, hS, .inl ⟨hok, fun T2 i2 hg2 => ?_⟩⟩
          rw [← hrl] at hg2
          have hx10 : Bx a b (S9 ++ T2) := hx9.app
          have g10 : getL (S9 ++ T2) e6 = some [st0 B, .obj j] := getL_old g9
          have gj10 : getL (S9 ++ T2) j = some (R.map Dv.int) := getL_old gj9
          generalize S9 ++ T2 = S10 at *
          refine ifI ?_
          simp! only []
          have hal : SameD (S10 ++ [.lst [st0 B, .obj i2]]) 5 (.obj S10.length) (.obj e6) := by
            refine ⟨[st0 B, .obj i2], [st0 B, .obj j], getL_at, getL_old g10, by show 2 < 100000; decide, rfl, fun q x y hx hy => ?_⟩
            have hq : q = 0 ∨ q = 1 := by
              have := at_lt hx
              have : q < 2 := this
              omega
            rcases hq with rfl | rfl
            · cases hx; cases hy
              exact same_refl 4 _ (st0_al B (by omega) 1)
            · cases hx; cases hy
              refine same_ints (xs := R.map Dv.int) (n := 3) (getL_old hg2) (getL_old gj10) hRl fun x hx => ?_
              obtain ⟨q, _, rfl⟩ := List.mem_map.mp hx
              exact ⟨q, rfl⟩
          refine ⟨_, _, rfl, hal, true, rfl, ?_⟩
          simp! only []
          exact hK2 _ _ (.inl ⟨⟨hx10.app, getL_old g10, getL_old gj10⟩, _, _, rfl⟩)
        · rintro σ S9 ⟨⟨hx9, _, _⟩, o7, o8, rfl⟩
          exact hK _ _ (.inl ⟨hx9, _, _, _, _, _, _, _, _, rfl⟩)
      · refine seqI ?_
        simp! only [isNon]
        have g8 : getL (S6 ++ [.lst [.tup [.str (Str.ofString "BadBook"), .int r, .int v], .tup [.str (Str.ofString "BadBook"), .int r, .int v]]]) S6.length = some [.tup [.str (Str.ofString "BadBook"), .int r, .int v], .tup [.str (Str.ofString "BadBook"), .int r, .int v]] := getL_at
        have hx8 : Bx a b (S6 ++ [.lst [.tup [.str (Str.ofString "BadBook"), .int r, .int v], .tup [.str (Str.ofString "BadBook"), .int r, .int v]]]) := hx6.app
        generalize S6 ++ [Mo.lst [.tup [.str (Str.ofString "BadBook"), .int r, .int v], .tup [.str (Str.ofString "BadBook"), .int r, .int v]]] = S8 at *
        generalize S6.length = e6 at *
        refine sFor_inv (S1 := S8) (jRg 2) (fun k σ S' => (Bx a b S' ∧ getL S' e6 = some [.tup [.str (Str.ofString "BadBook"), .int r, .int v], .tup [.str (Str.ofString "BadBook"), .int r, .int v]]) ∧ ∃ o7 o8 : Option Dv, σ = [o0, some (.obj a), some (.int i), some (bkD B), o4', some (.tup [.str (Str.ofString "BadBook"), .int r, .int v]), some (.obj e6), o7, o8]) (hw_rg1 (fun R hR => ?_) (by decide)) ⟨⟨hx8, g8⟩, _, _, rfl⟩ (fun _ _ _ _ _ => trivial) ?_ ?_
        · dsimp! only []
          exact hR
        · rintro k d σ S9 hd9 ⟨⟨hx9, g9⟩, o7, o8, rfl⟩ K2 hK2
          obtain ⟨hk, rfl⟩ := jRg_get hd9
          simp! only []
          refine seqI ?_
          simp! only [eResT]
          refine ⟨B, rfl, hS, .inr ⟨r, v, hdf, _, hT r v, ?_⟩⟩
          refine ⟨B, rfl, hS, .inr ⟨r, v, hdf, _, hT r v, ?_⟩⟩
          refine ifI ?_
          simp! only []
          have hal : SameD (S9 ++ [.lst [.tup [.str (Str.ofString "BadBook"), .int r, .int v], .tup [.str (Str.ofString "BadBook"), .int r, .int v]]]) 5 (.obj S9.length) (.obj e6) := by
            refine ⟨_, _, getL_at, getL_old g9, by show 2 < 100000; decide, rfl, fun q x y hx hy => ?_⟩
            rw [hx] at hy
            cases hy
            have hm := List.mem_of_getElem? hx
            simp only [List.mem_cons, List.not_mem_nil, or_false, or_self] at hm
            rw [hm]
            exact same_refl 4 _ rfl
          refine ⟨_, _, rfl, hal, true, rfl, ?_⟩
          simp! only []
          exact hK2 _ _ (.inl ⟨⟨hx9.app, getL_old g9⟩, _, _, rfl⟩)
        · rintro σ S9 ⟨⟨hx9, _⟩, o7, o8, rfl⟩
          exact hK _ _ (.inl ⟨hx9, _, _, _, _, _, _, _, _, rfl⟩)
    refine seqI (ifI ?_)
    simp! only []
    refine ⟨a, b, 9, rfl, hx5, by decide, by decide, fun r9 S6 r90 r91 hu6 => ?_⟩
    have hx6 := hu6.bx
    by_cases c9 : r9 = 0
    · simp! only [c9, decide_true, dMulT]
      refine ⟨a, b, 3, rfl, hx6, by decide, by decide, fun r10 S7 r100 r101 hu7 => ?_⟩
      have hx7 := hu7.bx
      dsimp only
      obtain ⟨n10, hn10, hn1, hn2⟩ : ∃ n10 : Nat, (59 : Int) + r10 = (n10 : Int) ∧ 59 ≤ n10 ∧ n10 ≤ 61 := ⟨((59 : Int) + r10).toNat, by omega, by omega, by omega⟩
      rw [hn10]
      refine ⟨by simp, by omega, by omega, a, b, 2, rfl, hx7.app, by decide, by decide, fun r11 S8' r110 r111 hup8 => ?_⟩
      obtain ⟨S8, rfl, hu8⟩ := bup_app hx7 hup8
      have hl8 : S7.length = S8.length := hu8.len.symm
      rw [hl8]
      obtain ⟨B, hBa, hGB⟩ : ∃ B : Bk, L2.atI [Dv.tup [], .tup (List.replicate (n10 : Int).toNat (Dv.tup [Dv.tup [Dv.str (Str.ofString "a")]]))] r11 = some (bkD B) ∧ GB 100 B := by
        rw [at_two r110 r111]
        by_cases c : r11 = 0
        · refine ⟨[], by rw [if_pos c]; rfl, by decide, fun r hr => by cases hr⟩
        · refine ⟨List.replicate n10 [[.wd "a"]], ?_, by rw [List.length_replicate]; omega, fun r hr => ?_⟩
          · rw [if_neg c, Int.toNat_natCast]
            unfold bkD
            rw [List.map_replicate]; rfl
          · rw [List.eq_of_mem_replicate hr]
            refine ⟨by decide, fun v hv => ?_⟩
            rw [List.mem_singleton.mp hv]
            refine ⟨by decide, fun y hy => ?_⟩
            have := List.mem_singleton.mp hy
            cases this
            exact lawV_of (odd_v _ (by simp))
      simp! only []
      exact ⟨_, hBa, after B _ _ _ _ _ hGB hu8.bx.app⟩
    · simp! only [c9, decide_false]
      exact after B1 _ _ _ _ _ hG100 hx6
  · rintro σ S' ⟨hx', o0, o2, o3, o4, o5, o6, o7, o8, rfl⟩
    dsimp! only []
    exact hret _
end K01
set_option Elab.async false
set_option linter.all false
set_option maxRecDepth 100000
set_option maxHeartbeats 2000000
namespace K01
open PySem PySem.Spec PyProof.Rows L2 D3
def topS (i : Nat) : Stmt := PySem.Challenge.pw_sungbyturns_k01_books_validated.main.body.getD i (.Pass ⟨0, 0, 0, 0⟩)
abbrev s_Lbegun : Stmt := topS 27
abbrev N_Lbegun : List Str := ["_law_script", "_law_stirred", "_law_cell"]
theorem sc_Lbegun : FnScope N_Lbegun ["_law_script"] (defScope s_Lbegun) := ⟨rfl, rfl, rfl, by decide +kernel, rfl, by decide +kernel, by decide +kernel⟩
abbrev s_Ltake : Stmt := topS 28
abbrev N_Ltake : List Str := ["_law_box", "_law_size", "_law_figure"]
theorem sc_Ltake : FnScope N_Ltake ["_law_box", "_law_size"] (defScope s_Ltake) := ⟨rfl, rfl, rfl, by decide +kernel, rfl, by decide +kernel, by decide +kernel⟩
abbrev s_Lbook : Stmt := topS 31
abbrev N_Lbook : List Str := ["_law_box", "_law_most", "_law_size", "_law_book_here", "_law_words_here", "_law_k", "_law_verses", "_law_verse", "_law_items", "_law_item", "_law_later", "_law_step"]
theorem sc_Lbook : FnScope N_Lbook ["_law_box", "_law_most"] (defScope s_Lbook) := ⟨rfl, rfl, rfl, by decide +kernel, rfl, by decide +kernel, by decide +kernel⟩
abbrev s_Ldamaged : Stmt := topS 38
abbrev N_Ldamaged : List Str := ["_law_box", "_law_book_here", "_law_k", "_law_verses", "_law_way", "_law_j", "_law_odd", "_law_items"]
theorem sc_Ldamaged : FnScope N_Ldamaged ["_law_box", "_law_book_here"] (defScope s_Ldamaged) := ⟨rfl, rfl, rfl, by decide +kernel, rfl, by decide +kernel, by decide +kernel⟩
abbrev s_Ldefect : Stmt := topS 37
abbrev N_Ldefect : List Str := ["_law_book_here", "_law_k", "_law_verse", "_law_items", "_law_item", "_law_valid", "_law_sign"]
theorem sc_Ldefect : FnScope N_Ldefect ["_law_book_here"] (defScope s_Ldefect) := ⟨rfl, rfl, rfl, by decide +kernel, rfl, by decide +kernel, by decide +kernel⟩
abbrev s_Lreached : Stmt := topS 35
abbrev N_Lreached : List Str := ["_law_book_here", "_law_found", "_law_pending", "_law_k", "_law_verse", "_law_item"]
theorem sc_Lreached : FnScope N_Lreached ["_law_book_here"] (defScope s_Lreached) := ⟨rfl, rfl, rfl, by decide +kernel, rfl, by decide +kernel, by decide +kernel⟩
abbrev s_is_word : Stmt := topS 17
abbrev N_is_word : List Str := ["item"]
theorem sc_is_word : FnScope N_is_word ["item"] (defScope s_is_word) := ⟨rfl, rfl, rfl, by decide +kernel, rfl, by decide +kernel, by decide +kernel⟩
abbrev s_is_valid_item : Stmt := topS 18
abbrev N_is_valid_item : List Str := ["book", "refrain", "item", "letter"]
theorem sc_is_valid_item : FnScope N_is_valid_item ["book", "refrain", "item"] (defScope s_is_valid_item) := ⟨rfl, rfl, rfl, by decide +kernel, rfl, by decide +kernel, by decide +kernel⟩
abbrev s_first_invalid_verse : Stmt := topS 19
abbrev N_first_invalid_verse : List Str := ["book", "refrain", "verses", "index", "verse", "item"]
theorem sc_first_invalid_verse : FnScope N_first_invalid_verse ["book", "refrain"] (defScope s_first_invalid_verse) := ⟨rfl, rfl, rfl, by decide +kernel, rfl, by decide +kernel, by decide +kernel⟩
abbrev s_validate_book : Stmt := topS 20
abbrev N_validate_book : List Str := ["book", "refrain", "verse"]
theorem sc_validate_book : FnScope N_validate_book ["book"] (defScope s_validate_book) := ⟨rfl, rfl, rfl, by decide +kernel, rfl, by decide +kernel, by decide +kernel⟩
abbrev s_initial_state : Stmt := topS 25
abbrev N_initial_state : List Str := ["book"]
theorem sc_initial_state : FnScope N_initial_state ["book"] (defScope s_initial_state) := ⟨rfl, rfl, rfl, by decide +kernel, rfl, by decide +kernel, by decide +kernel⟩
abbrev s_all_items : Stmt := topS 21
abbrev N_all_items : List Str := ["verses", "verse", "item"]
theorem sc_all_items : FnScope N_all_items ["verses"] (defScope s_all_items) := ⟨rfl, rfl, rfl, by decide +kernel, rfl, by decide +kernel, by decide +kernel⟩
abbrev s_find_reachable : Stmt := topS 22
abbrev N_find_reachable : List Str := ["book", "reached", "refrain", "verses", "item", "is_reached"]
theorem sc_find_reachable : FnScope N_find_reachable ["book"] (defScope s_find_reachable) := ⟨rfl, rfl, rfl, by decide +kernel, rfl, by decide +kernel, by decide +kernel⟩
abbrev s_reachable_refrains : Stmt := topS 23
abbrev N_reachable_refrains : List Str := ["book"]
theorem sc_reachable_refrains : FnScope N_reachable_refrains ["book"] (defScope s_reachable_refrains) := ⟨rfl, rfl, rfl, by decide +kernel, rfl, by decide +kernel, by decide +kernel⟩
abbrev s_Lalike : Stmt := topS 29
abbrev N_Lalike : List Str := ["_law_found", "_law_due", "_law_k"]
theorem sc_Lalike : FnScope N_Lalike ["_law_found", "_law_due"] (defScope s_Lalike) := ⟨rfl, rfl, rfl, by decide +kernel, rfl, by decide +kernel, by decide +kernel⟩
abbrev s_law : Stmt := topS 39
abbrev N_law : List Str := ["_law_script", "_law_box", "_law_turn", "_law_book_here", "_law_change", "_law_error", "_law_expected", "_law_once", "_law_found"]
theorem sc_law : FnScope N_law ["_law_script"] (defScope s_law) := ⟨rfl, rfl, rfl, by decide +kernel, rfl, by decide +kernel, by decide +kernel⟩
abbrev s_Lresult : Stmt := topS 30
abbrev N_Lresult : List Str := ["_law_call", "e", "_law_kinds", "_law_name"]
theorem sc_Lresult : FnScope N_Lresult ["_law_call"] (defScope s_Lresult) := ⟨rfl, rfl, rfl, by decide +kernel, rfl, by decide +kernel, by decide +kernel⟩
abbrev s_BadBook_init : Stmt := inClass (topS 2) 0
theorem sc_BadBook_init : FnScope ["self", "refrain", "verse"] ["self", "refrain", "verse"] (defScope s_BadBook_init) := ⟨rfl, rfl, rfl, by decide +kernel, rfl, by decide +kernel, by decide +kernel⟩
abbrev lam_law : Str := ((("law" : Str) ++ ".<locals>.") ++ "<lambda>")
structure Ad where
  f_Lbegun : Addr
  d_Lbegun : FuncData
  f_Ltake : Addr
  d_Ltake : FuncData
  f_Lbook : Addr
  d_Lbook : FuncData
  f_Ldamaged : Addr
  d_Ldamaged : FuncData
  f_Ldefect : Addr
  d_Ldefect : FuncData
  f_Lreached : Addr
  d_Lreached : FuncData
  f_is_word : Addr
  d_is_word : FuncData
  f_is_valid_item : Addr
  d_is_valid_item : FuncData
  f_first_invalid_verse : Addr
  d_first_invalid_verse : FuncData
  f_validate_book : Addr
  d_validate_book : FuncData
  f_initial_state : Addr
  d_initial_state : FuncData
  f_all_items : Addr
  d_all_items : FuncData
  f_find_reachable : Addr
  d_find_reachable : FuncData
  f_reachable_refrains : Addr
  d_reachable_refrains : FuncData
  f_Lalike : Addr
  d_Lalike : FuncData
  f_law : Addr
  d_law : FuncData
  k_LETTERS : Value
  w_LETTERS : V
  k_MAX_ITEMS : Value
  w_MAX_ITEMS : V
  k_MAX_LETTERS : Value
  w_MAX_LETTERS : V
  k_MAX_REFRAINS : Value
  w_MAX_REFRAINS : V
  k_MAX_VERSES : Value
  w_MAX_VERSES : V
  c_BadBook : Addr
  c_BadCertificate : Addr
  c_BadCount : Addr
  c_BadRefrain : Addr
  c_BadState : Addr
  c_BadTurns : Addr
  c_RefrainBusy : Addr
  c_SongError : Addr
  c_TooManyCandidates : Addr
  c_TooManyWords : Addr
  fi_BadBook : Addr
  di_BadBook : FuncData
  f_Lresult : Addr
  d_Lresult : FuncData
  lc_law : Addr
  lp_law : Addr
structure Sps where
  Lbegun : Spd
  Ltake : Spd
  Lbook : Spd
  Ldamaged : Spd
  Ldefect : Spd
  Lreached : Spd
  is_word : Spd
  is_valid_item : Spd
  first_invalid_verse : Spd
  validate_book : Spd
  initial_state : Spd
  all_items : Spd
  find_reachable : Spd
  reachable_refrains : Spd
  Lalike : Spd
  law : Spd
  Lalike_rec : Spd
abbrev clsL (ad : Ad) : List Addr := [ad.c_BadBook, ad.c_BadCertificate, ad.c_BadCount, ad.c_BadRefrain, ad.c_BadState, ad.c_BadTurns, ad.c_RefrainBusy, ad.c_TooManyCandidates, ad.c_TooManyWords]
abbrev csL (ad : Ad) : List (Addr × Addr) := [(ad.lc_law, ad.lp_law)]
abbrev ttL (ad : Ad) : List (Addr × Str) := [(ad.lp_law, lam_law)]
structure Txt (K : PySem.W.Frag) (mg : Str → Option Value) (ad : Ad) : Prop where
  no_ValueError : mg "ValueError" = none
  no_all : mg "all" = none
  no_bool : mg "bool" = none
  no_enumerate : mg "enumerate" = none
  no_int : mg "int" = none
  no_isinstance : mg "isinstance" = none
  no_len : mg "len" = none
  no_list : mg "list" = none
  no_max : mg "max" = none
  no_range : mg "range" = none
  no_sorted : mg "sorted" = none
  no_str : mg "str" = none
  no_tuple : mg "tuple" = none
  gk_LETTERS : mg "LETTERS" = some ad.k_LETTERS
  v_LETTERS : RelV ad.w_LETTERS ad.k_LETTERS
  r_LETTERS : ∀ (TT : List (Addr × Str)) (π : List Addr) (H : Hp), Rep ⟨K, TT⟩ π H c_LETTERS ad.w_LETTERS
  gk_MAX_ITEMS : mg "MAX_ITEMS" = some ad.k_MAX_ITEMS
  v_MAX_ITEMS : RelV ad.w_MAX_ITEMS ad.k_MAX_ITEMS
  r_MAX_ITEMS : ∀ (TT : List (Addr × Str)) (π : List Addr) (H : Hp), Rep ⟨K, TT⟩ π H c_MAX_ITEMS ad.w_MAX_ITEMS
  gk_MAX_LETTERS : mg "MAX_LETTERS" = some ad.k_MAX_LETTERS
  v_MAX_LETTERS : RelV ad.w_MAX_LETTERS ad.k_MAX_LETTERS
  r_MAX_LETTERS : ∀ (TT : List (Addr × Str)) (π : List Addr) (H : Hp), Rep ⟨K, TT⟩ π H c_MAX_LETTERS ad.w_MAX_LETTERS
  gk_MAX_REFRAINS : mg "MAX_REFRAINS" = some ad.k_MAX_REFRAINS
  v_MAX_REFRAINS : RelV ad.w_MAX_REFRAINS ad.k_MAX_REFRAINS
  r_MAX_REFRAINS : ∀ (TT : List (Addr × Str)) (π : List Addr) (H : Hp), Rep ⟨K, TT⟩ π H c_MAX_REFRAINS ad.w_MAX_REFRAINS
  gk_MAX_VERSES : mg "MAX_VERSES" = some ad.k_MAX_VERSES
  v_MAX_VERSES : RelV ad.w_MAX_VERSES ad.k_MAX_VERSES
  r_MAX_VERSES : ∀ (TT : List (Addr × Str)) (π : List Addr) (H : Hp), Rep ⟨K, TT⟩ π H c_MAX_VERSES ad.w_MAX_VERSES
  gc_BadBook : mg "BadBook" = some (.ref ad.c_BadBook)
  gc_BadCertificate : mg "BadCertificate" = some (.ref ad.c_BadCertificate)
  gc_BadCount : mg "BadCount" = some (.ref ad.c_BadCount)
  gc_BadRefrain : mg "BadRefrain" = some (.ref ad.c_BadRefrain)
  gc_BadState : mg "BadState" = some (.ref ad.c_BadState)
  gc_BadTurns : mg "BadTurns" = some (.ref ad.c_BadTurns)
  gc_RefrainBusy : mg "RefrainBusy" = some (.ref ad.c_RefrainBusy)
  gc_SongError : mg "SongError" = some (.ref ad.c_SongError)
  gc_TooManyCandidates : mg "TooManyCandidates" = some (.ref ad.c_TooManyCandidates)
  gc_TooManyWords : mg "TooManyWords" = some (.ref ad.c_TooManyWords)
  sg : SgC K ad.c_SongError
  x_BadBook : XfOk K mg "BadBook" ad.c_BadBook ad.fi_BadBook
  Fi_BadBook : Fun K "__init__" "BadBook.__init__" s_BadBook_init ad.fi_BadBook ad.di_BadBook
  kb_BadBook : KBn K ad.di_BadBook ["self", "refrain", "verse"] 1 ["refrain", "verse"] (fun us ws => us ++ ws) (fun us ws => us ++ ws)
  nf_BadBook : ∀ y ∈ (["refrain", "verse"] : List Str), PySem.W.findIn K (.ref ad.c_BadBook) y = some none
  res : resBB K ad.c_SongError (clsL ad) = true
  F_Lresult : Fun K "_law_result" "_law_result" s_Lresult ad.f_Lresult ad.d_Lresult
  b_Lresult : Binds K ad.d_Lresult ["_law_call"] []
  g_Lresult : mg "_law_result" = some (.ref ad.f_Lresult)
  FC_law : FunC K "law" "law" s_law ad.f_law ad.d_law ad.lc_law
  F_Lbegun : Fun K "_law_begun" "_law_begun" s_Lbegun ad.f_Lbegun ad.d_Lbegun
  b_Lbegun : Binds K ad.d_Lbegun ["_law_script"] []
  g_Lbegun : mg "_law_begun" = some (.ref ad.f_Lbegun)
  F_Ltake : Fun K "_law_take" "_law_take" s_Ltake ad.f_Ltake ad.d_Ltake
  b_Ltake : Binds K ad.d_Ltake ["_law_box", "_law_size"] []
  g_Ltake : mg "_law_take" = some (.ref ad.f_Ltake)
  F_Lbook : Fun K "_law_book" "_law_book" s_Lbook ad.f_Lbook ad.d_Lbook
  b_Lbook : Binds K ad.d_Lbook ["_law_box", "_law_most"] []
  g_Lbook : mg "_law_book" = some (.ref ad.f_Lbook)
  F_Ldamaged : Fun K "_law_damaged" "_law_damaged" s_Ldamaged ad.f_Ldamaged ad.d_Ldamaged
  b_Ldamaged : Binds K ad.d_Ldamaged ["_law_box", "_law_book_here"] []
  g_Ldamaged : mg "_law_damaged" = some (.ref ad.f_Ldamaged)
  F_Ldefect : Fun K "_law_defect" "_law_defect" s_Ldefect ad.f_Ldefect ad.d_Ldefect
  b_Ldefect : Binds K ad.d_Ldefect ["_law_book_here"] []
  g_Ldefect : mg "_law_defect" = some (.ref ad.f_Ldefect)
  F_Lreached : Fun K "_law_reached" "_law_reached" s_Lreached ad.f_Lreached ad.d_Lreached
  b_Lreached : Binds K ad.d_Lreached ["_law_book_here"] []
  g_Lreached : mg "_law_reached" = some (.ref ad.f_Lreached)
  F_is_word : Fun K "is_word" "is_word" s_is_word ad.f_is_word ad.d_is_word
  b_is_word : Binds K ad.d_is_word ["item"] []
  g_is_word : mg "is_word" = some (.ref ad.f_is_word)
  F_is_valid_item : Fun K "is_valid_item" "is_valid_item" s_is_valid_item ad.f_is_valid_item ad.d_is_valid_item
  b_is_valid_item : Binds K ad.d_is_valid_item ["book", "refrain", "item"] []
  g_is_valid_item : mg "is_valid_item" = some (.ref ad.f_is_valid_item)
  F_first_invalid_verse : Fun K "first_invalid_verse" "first_invalid_verse" s_first_invalid_verse ad.f_first_invalid_verse ad.d_first_invalid_verse
  b_first_invalid_verse : Binds K ad.d_first_invalid_verse ["book", "refrain"] []
  g_first_invalid_verse : mg "first_invalid_verse" = some (.ref ad.f_first_invalid_verse)
  F_validate_book : Fun K "validate_book" "validate_book" s_validate_book ad.f_validate_book ad.d_validate_book
  b_validate_book : Binds K ad.d_validate_book ["book"] []
  g_validate_book : mg "validate_book" = some (.ref ad.f_validate_book)
  F_initial_state : Fun K "initial_state" "initial_state" s_initial_state ad.f_initial_state ad.d_initial_state
  b_initial_state : Binds K ad.d_initial_state ["book"] []
  g_initial_state : mg "initial_state" = some (.ref ad.f_initial_state)
  F_all_items : Fun K "all_items" "all_items" s_all_items ad.f_all_items ad.d_all_items
  b_all_items : Binds K ad.d_all_items ["verses"] []
  g_all_items : mg "all_items" = some (.ref ad.f_all_items)
  F_find_reachable : Fun K "find_reachable" "find_reachable" s_find_reachable ad.f_find_reachable ad.d_find_reachable
  b_find_reachable : Binds K ad.d_find_reachable ["book"] []
  g_find_reachable : mg "find_reachable" = some (.ref ad.f_find_reachable)
  F_reachable_refrains : Fun K "reachable_refrains" "reachable_refrains" s_reachable_refrains ad.f_reachable_refrains ad.d_reachable_refrains
  b_reachable_refrains : Binds K ad.d_reachable_refrains ["book"] []
  g_reachable_refrains : mg "reachable_refrains" = some (.ref ad.f_reachable_refrains)
  F_Lalike : Fun K "_law_alike" "_law_alike" s_Lalike ad.f_Lalike ad.d_Lalike
  b_Lalike : Binds K ad.d_Lalike ["_law_found", "_law_due"] []
  g_Lalike : mg "_law_alike" = some (.ref ad.f_Lalike)
  F_law : Fun K "law" "law" s_law ad.f_law ad.d_law
  b_law : Binds K ad.d_law ["_law_script"] []
section
variable {P : Program} {w : World} {K : PySem.W.Frag} {mg : Str → Option Value} {base : Heap} {ad : Ad} {sp : Sps} {TT : List (Addr × Str)}
theorem okx_BadBook (T : Txt K mg ad) : FnOk P w K mg base (L2.CX P w) 1 ad.fi_BadBook ad.di_BadBook ["self", "refrain", "verse"] (spXI ad.c_BadBook ["refrain", "verse"]) :=
  init_ok T.Fi_BadBook sc_BadBook_init T.x_BadBook.o T.gc_SongError T.sg T.nf_BadBook rfl (by decide) rfl (.cons rfl (.cons rfl .nil)) (by first | exact .inl rfl | exact .inr (.inl rfl)) (fun _ _ => ⟨_, rfl⟩) (by intro y hy; simp only [List.mem_cons, List.not_mem_nil, or_false] at hy; rcases hy with rfl | rfl <;> exact ⟨by first | exact .inl rfl | exact .inr (.inl rfl), by decide, by decide⟩)
theorem give_Lresult (X : Cx) (T : Txt X.K X.mg ad) (hu1 : ∀ env : Env, (X.A.deeper env).units + 64 < cLine) (cdg : Value) (q : Str) : LamX.GivesTo X N_Lresult "_law_result" (defScope s_Lresult) ad.f_Lresult cdg (defBody s_Lresult) "_law_call" q (TResT ⟨X.K, TT⟩ (tellB (clsL ad))) :=
  res_givesT (OK := OkB X.K) (i := 1) (tres := tResB X.K ad.c_BadBook ad.c_BadCertificate ad.c_BadCount ad.c_BadRefrain ad.c_BadState ad.c_BadTurns ad.c_RefrainBusy ad.c_TooManyCandidates ad.c_TooManyWords) rfl T.gc_SongError sc_Lresult.nd rfl (fun _ => rfl) (resBB_table T.res).1 (resBB_table T.res).2 (fun s H b y cls dd oe pn H0 hh hz hf hC => by
    have nd := sc_Lresult.nd
    have hu64 : ((cxOf C8.CX0 X.prog X.w X.K X.mg X.base N_Lresult "_law_result" (defScope s_Lresult) ad.f_Lresult cdg X.A X.stack s H C8.E0).nox.suite b ((b, oe) :: pn)).A.units + 64 < cLine := hu1 (envOfC "_law_result" (defScope s_Lresult) s.heap.objs.size ad.f_Lresult cdg)
    exact (bCons (sSet' (i := 2) nd rfl (by first | exact .inl rfl | exact .inr rfl) (pLst (aCons' (pIsH hh hC.e hz hf (by rfl) T.no_isinstance (by decide +kernel) (aCons' (pv' 1) (aCons' (pGlob (v := .ref ad.c_BadBook) (by rfl) T.gc_BadBook rfl (fun _ _ => .adr _)) aNil'))) (aCons' (pIsH hh hC.e hz hf (by rfl) T.no_isinstance (by decide +kernel) (aCons' (pv' 1) (aCons' (pGlob (v := .ref ad.c_BadCertificate) (by rfl) T.gc_BadCertificate rfl (fun _ _ => .adr _)) aNil'))) (aCons' (pIsH hh hC.e hz hf (by rfl) T.no_isinstance (by decide +kernel) (aCons' (pv' 1) (aCons' (pGlob (v := .ref ad.c_BadCount) (by rfl) T.gc_BadCount rfl (fun _ _ => .adr _)) aNil'))) aNil')))))
    (bCons (sSet' (i := 2) nd rfl (by first | exact .inl rfl | exact .inr rfl) (pOp oAdd (pv' 2) (pLst (aCons' (pIsH hh hC.e hz hf (by rfl) T.no_isinstance (by decide +kernel) (aCons' (pv' 1) (aCons' (pGlob (v := .ref ad.c_BadRefrain) (by rfl) T.gc_BadRefrain rfl (fun _ _ => .adr _)) aNil'))) (aCons' (pIsH hh hC.e hz hf (by rfl) T.no_isinstance (by decide +kernel) (aCons' (pv' 1) (aCons' (pGlob (v := .ref ad.c_BadState) (by rfl) T.gc_BadState rfl (fun _ _ => .adr _)) aNil'))) (aCons' (pIsH hh hC.e hz hf (by rfl) T.no_isinstance (by decide +kernel) (aCons' (pv' 1) (aCons' (pGlob (v := .ref ad.c_BadTurns) (by rfl) T.gc_BadTurns rfl (fun _ _ => .adr _)) aNil'))) aNil'))))))
    (bCons (sSet' (i := 2) nd rfl (by first | exact .inl rfl | exact .inr rfl) (pOp oAdd (pv' 2) (pLst (aCons' (pIsH hh hC.e hz hf (by rfl) T.no_isinstance (by decide +kernel) (aCons' (pv' 1) (aCons' (pGlob (v := .ref ad.c_RefrainBusy) (by rfl) T.gc_RefrainBusy rfl (fun _ _ => .adr _)) aNil'))) (aCons' (pIsH hh hC.e hz hf (by rfl) T.no_isinstance (by decide +kernel) (aCons' (pv' 1) (aCons' (pGlob (v := .ref ad.c_TooManyCandidates) (by rfl) T.gc_TooManyCandidates rfl (fun _ _ => .adr _)) aNil'))) (aCons' (pIsH hh hC.e hz hf (by rfl) T.no_isinstance (by decide +kernel) (aCons' (pv' 1) (aCons' (pGlob (v := .ref ad.c_TooManyWords) (by rfl) T.gc_TooManyWords rfl (fun _ _ => .adr _)) aNil'))) aNil'))))))
    (bCons (sIf' (PW.pt (wOr (tCmp' (oNe (hu := hu64)) (pBM PySem.F.plainAttrs_list PySem.F.slot_list_count PySem.F.type_list_count (mCount hu64) (pv' 2) (aCons' pBl aNil')) pInt) (wOr1 (tNot' (tVal (pIsH hh hC.e hz hf (by rfl) T.no_isinstance (by decide +kernel) (aCons' (pv' 1) (aCons' (pTy (by rfl) T.no_ValueError (by decide +kernel)) aNil')))))))) (bOne (sRet' (pTup (aCons' pStr (aCons' pInt aNil'))))) bNil)
    (bCons (sSet' (i := 3) nd rfl (by first | exact .inl rfl | exact .inr rfl) (pIx oIx (pLst (aCons' pStr (aCons' pStr (aCons' pStr (aCons' pStr (aCons' pStr (aCons' pStr (aCons' pStr (aCons' pStr (aCons' pStr aNil')))))))))) (pBM PySem.F.plainAttrs_list PySem.F.slot_list_index PySem.F.type_list_index mIndexB (pv' 2) (aCons' pBl aNil'))))
    (bOne (sRet' (pIfE (tCmp' (oEq (hu := hu64)) (pv' 3) pStr) (pTup (aCons' (pv' 3) (aCons' (pXf hh hC.e hC.r hz hf (pv' 1)) (aCons' (pXf hh hC.e hC.v hz hf (pv' 1)) aNil')))) (pTup (aCons' (pv' 3) aNil')))))))))))
theorem ok_Lbegun (T : Txt K mg ad) 
    (len : ∀ ds S Q E, sp.Lbegun ds S Q E → ds.length = 1)
    (hR : ∀ ds S Qd Ed, sp.Lbegun ds S Qd Ed → StClo S → t_Lbegun (WEx S.length Ed) { nx := fun _ S' => Gc S.length Qd .non S', rt := Gc S.length Qd } (startD 3 ds) S) :
    FnOk P w K mg base (L2.CX P w) (0 + 1) ad.f_Lbegun ad.d_Lbegun ["_law_script"] (LSp ⟨K, TT⟩ sp.Lbegun) :=
  okD T.F_Lbegun sc_Lbegun len (t_Lbegun) (fun π0 H0 Wd cdv A outer s H E hr tk => by
    have nd := sc_Lbegun.nd
    have hu64 := hr.units
    exact (bCons (sSet' (i := 1) nd rfl (by first | exact .inl rfl | exact .inr rfl) pInt)
    (bCons (sFor' (passes_of rfl) rfl (iSeq' (hl := (pv' 0))) (gName' (i := 2) nd rfl (by first | exact .inl rfl | exact .inr rfl)) (bOne (sSet' (i := 1) nd rfl (by first | exact .inl rfl | exact .inr rfl) (pOp oMod (pOp oAdd (pOp oAdd (pOp oMul (pv' 1) pInt) (pOp oMul (pv' 2) pInt)) pInt) pInt))))
    (bOne (sRet' (pLst (aCons' (pBT kList (by rfl) T.no_list (by decide +kernel) (aCons' (pv' 0) aNil')) (aCons' (pOp oMul (pv' 1) (pBT kInt (by rfl) T.no_int (by decide +kernel) (aCons' (pCmp oGt (pB kLen (by rfl) T.no_len (by decide +kernel) (aCons' (pv' 0) aNil')) pInt) aNil'))) aNil')))))))) hR
theorem ok_Ltake (T : Txt K mg ad) 
    (len : ∀ ds S Q E, sp.Ltake ds S Q E → ds.length = 2)
    (hR : ∀ ds S Qd Ed, sp.Ltake ds S Qd Ed → StClo S → t_Ltake (WEx S.length Ed) { nx := fun _ S' => Gc S.length Qd .non S', rt := Gc S.length Qd } (startD 3 ds) S) :
    FnOk P w K mg base (L2.CX P w) (0 + 1) ad.f_Ltake ad.d_Ltake ["_law_box", "_law_size"] (LSp ⟨K, TT⟩ sp.Ltake) :=
  okD T.F_Ltake sc_Ltake len (t_Ltake) (fun π0 H0 Wd cdv A outer s H E hr tk => by
    have nd := sc_Ltake.nd
    have hu64 := hr.units
    exact (bCons (sIf' (tCmp' (oEq (hu := hu64)) (pIx oIx (pv' 0) pInt) (pLst aNil')) (bCons (sAsg' (pOp oMod (pBT kInt (by rfl) T.no_int (by decide +kernel) (aCons' (pOp oMul (pIx oIx (pv' 0) pInt) pInt) aNil')) pInt) (gSub' (pv' 0) pInt stSetL))
    (bOne (sRet' (pOp oMod (pOp oDiv (pIx oIx (pv' 0) pInt) pInt) (pv' 1))))) bNil)
    (bCons (sSet' (i := 2) nd rfl (by first | exact .inl rfl | exact .inr rfl) (pIx oIx (pIx oIx (pv' 0) pInt) pInt))
    (bCons (sAsg' (pOp oDiv (pv' 2) (pv' 1)) (gSub' (pIx oIx (pv' 0) pInt) pInt stSetL))
    (bCons (sIf' (PW.pt (wOr (tCmp' (oEq (hu := hu64)) (pIx oIx (pIx oIx (pv' 0) pInt) pInt) pInt) (wOr1 (tCmp' (oEq (hu := hu64)) (pIx oIx (pIx oIx (pv' 0) pInt) pInt) (pUn oNeg pInt))))) (bOne (sExpr' (pBM PySem.F.plainAttrs_list PySem.F.slot_list_pop PySem.F.type_list_pop mPop (pIx oIx (pv' 0) pInt) (aCons' pInt aNil')))) bNil)
    (bOne (sRet' (pOp oMod (pBT kInt (by rfl) T.no_int (by decide +kernel) (aCons' (pv' 2) aNil')) (pv' 1))))))))) hR
theorem ok_Lbook (T : Txt K mg ad) (G_Ltake : FnOk P w K mg base (L2.CX P w) 1 ad.f_Ltake ad.d_Ltake ["_law_box", "_law_size"] (LSp ⟨K, TT⟩ sp.Ltake))
    (len : ∀ ds S Q E, sp.Lbook ds S Q E → ds.length = 2)
    (hR : ∀ ds S Qd Ed, sp.Lbook ds S Qd Ed → StClo S → t_Lbook sp.Ltake (WEx S.length Ed) { nx := fun _ S' => Gc S.length Qd .non S', rt := Gc S.length Qd } (startD 12 ds) S) :
    FnOk P w K mg base (L2.CX P w) (1 + 1) ad.f_Lbook ad.d_Lbook ["_law_box", "_law_most"] (LSp ⟨K, TT⟩ sp.Lbook) :=
  okD T.F_Lbook sc_Lbook len (t_Lbook sp.Ltake) (fun π0 H0 Wd cdv A outer s H E hr tk => by
    have nd := sc_Lbook.nd
    have hu64 := hr.units
    exact (bCons (sPar' (i := 2) (j := 3) rfl nd rfl rfl (by decide) rfl rfl (aCons' (pOp oAdd pInt (pCall G_Ltake (hr.mono (by decide)) (by rfl) T.g_Ltake T.F_Ltake.kp T.b_Ltake tk (aCons' (pv' 0) (aCons' (pv' 1) aNil')))) (aCons' (pLst aNil') aNil')) (by rfl))
    (bCons (sSet' (i := 4) nd rfl (by first | exact .inl rfl | exact .inr rfl) (pLst (aCons' pStr (aCons' pStr (aCons' pStr (aCons' pStr (aCons' pStr (aCons' pStr aNil'))))))))
    (bCons (sFor' (passes_of rfl) rfl (iRg1' (by rfl) T.no_range (aCons' (pv' 2) aNil')) (gName' (i := 5) nd rfl (by first | exact .inl rfl | exact .inr rfl)) (bCons (sSet' (i := 6) nd rfl (by first | exact .inl rfl | exact .inr rfl) (pLst aNil'))
    (bCons (sFor' (passes_of rfl) rfl (iRg1' (by rfl) T.no_range (aCons' (pIx oIx (pLst (aCons' pInt (aCons' pInt (aCons' pInt (aCons' pInt (aCons' pInt aNil')))))) (pCall G_Ltake (hr.mono (by decide)) (by rfl) T.g_Ltake T.F_Ltake.kp T.b_Ltake tk (aCons' (pv' 0) (aCons' pInt aNil')))) aNil')) (gName' (i := 7) nd rfl (by first | exact .inl rfl | exact .inr rfl)) (bCons (sSet' (i := 8) nd rfl (by first | exact .inl rfl | exact .inr rfl) (pLst aNil'))
    (bCons (sFor' (passes_of rfl) rfl (iRg1' (by rfl) T.no_range (aCons' (pIx oIx (pLst (aCons' pInt (aCons' pInt (aCons' pInt (aCons' pInt (aCons' pInt aNil')))))) (pCall G_Ltake (hr.mono (by decide)) (by rfl) T.g_Ltake T.F_Ltake.kp T.b_Ltake tk (aCons' (pv' 0) (aCons' pInt aNil')))) aNil')) (gName' (i := 9) nd rfl (by first | exact .inl rfl | exact .inr rfl)) (bCons (sSet' (i := 10) nd rfl (by first | exact .inl rfl | exact .inr rfl) (pOp oSub (pOp oSub (pv' 2) (pv' 5)) pInt))
    (bCons (sSet' (i := 11) nd rfl (by first | exact .inl rfl | exact .inr rfl) (pIx oIx (pLst (aCons' (pOp oAdd pInt (pCall G_Ltake (hr.mono (by decide)) (by rfl) T.g_Ltake T.F_Ltake.kp T.b_Ltake tk (aCons' (pv' 0) (aCons' (pB (kMax rfl) (by rfl) T.no_max (by decide +kernel) (aCons' pInt (aCons' (pv' 10) aNil'))) aNil')))) (aCons' pInt aNil'))) (pCall G_Ltake (hr.mono (by decide)) (by rfl) T.g_Ltake T.F_Ltake.kp T.b_Ltake tk (aCons' (pv' 0) (aCons' pInt aNil')))))
    (bOne (sExpr' (pBM PySem.F.plainAttrs_list PySem.F.slot_list_append PySem.F.type_list_append mAppend (pv' 8) (aCons' (pIfE (PW.pt (wAnd (tCmp' oGt (pv' 10) pInt) (wAnd1 (tCmp' oGt (pCall G_Ltake (hr.mono (by decide)) (by rfl) T.g_Ltake T.F_Ltake.kp T.b_Ltake tk (aCons' (pv' 0) (aCons' pInt aNil'))) pInt)))) (pOp oAdd (pv' 5) (pv' 11)) (pIx oIx (pv' 4) (pCall G_Ltake (hr.mono (by decide)) (by rfl) T.g_Ltake T.F_Ltake.kp T.b_Ltake tk (aCons' (pv' 0) (aCons' pInt aNil'))))) aNil')))))))
    (bOne (sExpr' (pBM PySem.F.plainAttrs_list PySem.F.slot_list_append PySem.F.type_list_append mAppend (pv' 6) (aCons' (pBT kTuple (by rfl) T.no_tuple (by decide +kernel) (aCons' (pv' 8) aNil')) aNil')))))))
    (bOne (sExpr' (pBM PySem.F.plainAttrs_list PySem.F.slot_list_append PySem.F.type_list_append mAppend (pv' 3) (aCons' (pBT kTuple (by rfl) T.no_tuple (by decide +kernel) (aCons' (pv' 6) aNil')) aNil')))))))
    (bOne (sRet' (pBT kTuple (by rfl) T.no_tuple (by decide +kernel) (aCons' (pv' 3) aNil')))))))) hR
theorem ok_Ldamaged (T : Txt K mg ad) (G_Ltake : FnOk P w K mg base (L2.CX P w) 1 ad.f_Ltake ad.d_Ltake ["_law_box", "_law_size"] (LSp ⟨K, TT⟩ sp.Ltake))
    (len : ∀ ds S Q E, sp.Ldamaged ds S Q E → ds.length = 2)
    (hR : ∀ ds S Qd Ed, sp.Ldamaged ds S Qd Ed → StClo S → t_Ldamaged sp.Ltake (WEx S.length Ed) { nx := fun _ S' => Gc S.length Qd .non S', rt := Gc S.length Qd } (startD 8 ds) S) :
    FnOk P w K mg base (L2.CX P w) (1 + 1) ad.f_Ldamaged ad.d_Ldamaged ["_law_box", "_law_book_here"] (LSp ⟨K, TT⟩ sp.Ldamaged) :=
  okD T.F_Ldamaged sc_Ldamaged len (t_Ldamaged sp.Ltake) (fun π0 H0 Wd cdv A outer s H E hr tk => by
    have nd := sc_Ldamaged.nd
    have hu64 := hr.units
    exact (bCons (sSet' (i := 2) nd rfl (by first | exact .inl rfl | exact .inr rfl) (pCall G_Ltake (hr.mono (by decide)) (by rfl) T.g_Ltake T.F_Ltake.kp T.b_Ltake tk (aCons' (pv' 0) (aCons' (pB kLen (by rfl) T.no_len (by decide +kernel) (aCons' (pv' 1) aNil')) aNil'))))
    (bCons (sSet' (i := 3) nd rfl (by first | exact .inl rfl | exact .inr rfl) (pBT kList (by rfl) T.no_list (by decide +kernel) (aCons' (pIx oIx (pv' 1) (pv' 2)) aNil')))
    (bCons (sIf' (tCmp' (oEq (hu := hu64)) (pv' 3) (pLst aNil')) (bOne (sRet' (pv' 1))) bNil)
    (bCons (sPar' (i := 4) (j := 5) rfl nd rfl rfl (by decide) rfl rfl (aCons' (pCall G_Ltake (hr.mono (by decide)) (by rfl) T.g_Ltake T.F_Ltake.kp T.b_Ltake tk (aCons' (pv' 0) (aCons' pInt aNil'))) (aCons' (pCall G_Ltake (hr.mono (by decide)) (by rfl) T.g_Ltake T.F_Ltake.kp T.b_Ltake tk (aCons' (pv' 0) (aCons' (pB kLen (by rfl) T.no_len (by decide +kernel) (aCons' (pv' 3) aNil')) aNil'))) aNil')) (by rfl))
    (bCons (sSet' (i := 6) nd rfl (by first | exact .inl rfl | exact .inr rfl) (pLst (aCons' pStr (aCons' pStr (aCons' pStr (aCons' pStr (aCons' (pUn oNeg pInt) (aCons' pInt (aCons' (pv' 2) (aCons' (pB kLen (by rfl) T.no_len (by decide +kernel) (aCons' (pv' 1) aNil')) (aCons' (pOp oAdd (pv' 2) pInt) (aCons' pStr aNil'))))))))))))
    (bCons (sSet' (i := 7) nd rfl (by first | exact .inl rfl | exact .inr rfl) (pOp oAdd (pBT kList (by rfl) T.no_list (by decide +kernel) (aCons' (pIx oIx (pv' 3) (pv' 5)) aNil')) (pOp oMul (pLst (aCons' pStr aNil')) (pBT kInt (by rfl) T.no_int (by decide +kernel) (aCons' (pCmp (oEq (hu := hu64)) (pIx oIx (pv' 3) (pv' 5)) (pTup aNil')) aNil')))))
    (bCons (sAsg' (pIx oIx (pv' 6) (pCall G_Ltake (hr.mono (by decide)) (by rfl) T.g_Ltake T.F_Ltake.kp T.b_Ltake tk (aCons' (pv' 0) (aCons' pInt aNil')))) (gSub' (pv' 7) (pCall G_Ltake (hr.mono (by decide)) (by rfl) T.g_Ltake T.F_Ltake.kp T.b_Ltake tk (aCons' (pv' 0) (aCons' (pB kLen (by rfl) T.no_len (by decide +kernel) (aCons' (pv' 7) aNil')) aNil'))) stSetL))
    (bCons (sIf' (tCmp' oLt (pv' 4) pInt) (bOne (sAsg' (pBT kTuple (by rfl) T.no_tuple (by decide +kernel) (aCons' (pv' 7) aNil')) (gSub' (pv' 3) (pv' 5) stSetL))) (bOne (sIf' (tCmp' (oEq (hu := hu64)) (pv' 4) pInt) (bOne (sAsg' (pIx oIx (pLst (aCons' (pTup aNil') (aCons' (pOp oMulT (pTup (aCons' pStr aNil')) pInt) (aCons' (pOp oMulT (pTup (aCons' pStr aNil')) pInt) aNil')))) (pCall G_Ltake (hr.mono (by decide)) (by rfl) T.g_Ltake T.F_Ltake.kp T.b_Ltake tk (aCons' (pv' 0) (aCons' pInt aNil')))) (gSub' (pv' 3) (pv' 5) stSetL))) (bOne (sSet' (i := 3) nd rfl (by first | exact .inl rfl | exact .inr rfl) (pIx oIx (pLst (aCons' (pLst aNil') (aCons' (pOp oMul (pv' 3) pInt) (aCons' (pSl oSlice (pv' 3) poNo (poSome pInt)) aNil')))) (pOp oSub (pv' 4) pInt)))))))
    (bOne (sRet' (pOp oAdd (pOp oAdd (pSl oSlice (pv' 1) poNo (poSome (pv' 2))) (pTup (aCons' (pBT kTuple (by rfl) T.no_tuple (by decide +kernel) (aCons' (pv' 3) aNil')) aNil'))) (pSl oSlice (pv' 1) (poSome (pOp oAdd (pv' 2) pInt)) poNo))))))))))))) hR
theorem ok_Ldefect (T : Txt K mg ad) 
    (len : ∀ ds S Q E, sp.Ldefect ds S Q E → ds.length = 1)
    (hR : ∀ ds S Qd Ed, sp.Ldefect ds S Qd Ed → StClo S → t_Ldefect (WEx S.length Ed) { nx := fun _ S' => Gc S.length Qd .non S', rt := Gc S.length Qd } (startD 7 ds) S) :
    FnOk P w K mg base (L2.CX P w) (0 + 1) ad.f_Ldefect ad.d_Ldefect ["_law_book_here"] (LSp ⟨K, TT⟩ sp.Ldefect) :=
  okD T.F_Ldefect sc_Ldefect len (t_Ldefect) (fun π0 H0 Wd cdv A outer s H E hr tk => by
    have nd := sc_Ldefect.nd
    have hu64 := hr.units
    exact (bCons (sIf' (tCmp' (oEq (hu := hu64)) (pB kLen (by rfl) T.no_len (by decide +kernel) (aCons' (pv' 0) aNil')) pInt) (bOne (sRet' (pTup (aCons' pStr (aCons' pInt (aCons' (pUn oNeg pInt) aNil')))))) bNil)
    (bCons (sFor' (passes_of rfl) rfl (iRg1' (by rfl) T.no_range (aCons' (pB kLen (by rfl) T.no_len (by decide +kernel) (aCons' (pv' 0) aNil')) aNil')) (gName' (i := 1) nd rfl (by first | exact .inl rfl | exact .inr rfl)) (bCons (sIf' (PW.pt (wOr (tCmp' (oEq (hu := hu64)) (pv' 1) pInt) (wOr1 (tNot' (tChain' oLe oLe pInt (pB kLen (by rfl) T.no_len (by decide +kernel) (aCons' (pIx oIx (pv' 0) (pv' 1)) aNil')) pInt))))) (bOne (sRet' (pTup (aCons' pStr (aCons' (pv' 1) (aCons' (pUn oNeg pInt) aNil')))))) bNil)
    (bOne (sFor' (passes_of rfl) rfl (iRg1' (by rfl) T.no_range (aCons' (pB kLen (by rfl) T.no_len (by decide +kernel) (aCons' (pIx oIx (pv' 0) (pv' 1)) aNil')) aNil')) (gName' (i := 2) nd rfl (by first | exact .inl rfl | exact .inr rfl)) (bCons (sSet' (i := 3) nd rfl (by first | exact .inl rfl | exact .inr rfl) (pIx oIx (pIx oIx (pv' 0) (pv' 1)) (pv' 2)))
    (bCons (sIf' (tNot' (tChain' oLe oLe pInt (pB kLen (by rfl) T.no_len (by decide +kernel) (aCons' (pv' 3) aNil')) pInt)) (bOne (sRet' (pTup (aCons' pStr (aCons' (pv' 1) (aCons' (pv' 2) aNil')))))) bNil)
    (bOne (sFor' (passes_of rfl) rfl (iSeq' (hl := (pv' 3))) (gName' (i := 4) nd rfl (by first | exact .inl rfl | exact .inr rfl)) (bCons (sIf' (tVal (pB kIsi (by rfl) T.no_isinstance (by decide +kernel) (aCons' (pv' 4) (aCons' (pTy (by rfl) T.no_str (by decide +kernel)) aNil')))) (bOne (sSet' (i := 5) nd rfl (by first | exact .inl rfl | exact .inr rfl) (pAnd (pChain oLe oLe pInt (pB kLen (by rfl) T.no_len (by decide +kernel) (aCons' (pv' 4) aNil')) pInt) (pOne (pCmp (oEq (hu := hu64)) (pLc (own := [("_law_sign", 6)]) (g := (Tg.one 6)) (hc := rfl) (hN := nd) (hi := (iStr' (pv' 4))) (ok := (blkOk_by (own := [("_law_sign", 6)]) (N := N_Ldefect) (sc := defScope s_Ldefect) (by decide +kernel))) (hv := by decide) (hg := (fun _ _ _ _ _ => gOne (i := 6) nd rfl (.inl rfl))) (ht := (fun _ _ _ _ _ => ifOne (tNot' (tChain' oLeS oLeS pStr (pv' 6) pStr)))) (he := fun _ _ _ _ _ => (pv' 6))) (pLst aNil')))))) (bOne (sSet' (i := 5) nd rfl (by first | exact .inl rfl | exact .inr rfl) (pChain oLt oLt (pv' 1) (pv' 4) (pB kLen (by rfl) T.no_len (by decide +kernel) (aCons' (pv' 0) aNil'))))))
    (bOne (sIf' (tNot' (tVal (pv' 5))) (bOne (sRet' (pTup (aCons' pStr (aCons' (pv' 1) (aCons' (pv' 2) aNil')))))) bNil)))))))))))
    (bOne (sRet' pNon))))) hR
theorem ok_Lreached (T : Txt K mg ad) 
    (len : ∀ ds S Q E, sp.Lreached ds S Q E → ds.length = 1)
    (hR : ∀ ds S Qd Ed, sp.Lreached ds S Qd Ed → StClo S → t_Lreached (WEx S.length Ed) { nx := fun _ S' => Gc S.length Qd .non S', rt := Gc S.length Qd } (startD 6 ds) S) :
    FnOk P w K mg base (L2.CX P w) (0 + 1) ad.f_Lreached ad.d_Lreached ["_law_book_here"] (LSp ⟨K, TT⟩ sp.Lreached) :=
  okD T.F_Lreached sc_Lreached len (t_Lreached) (fun π0 H0 Wd cdv A outer s H E hr tk => by
    have nd := sc_Lreached.nd
    have hu64 := hr.units
    exact (bCons (sPar' (i := 1) (j := 2) rfl nd rfl rfl (by decide) rfl rfl (aCons' (pLst aNil') (aCons' (pLst (aCons' pInt aNil')) aNil')) (by rfl))
    (bCons (sWhile' (passes_of rfl) (tCmp' (oNe (hu := hu64)) (pv' 2) (pLst aNil')) (bCons (sSet' (i := 3) nd rfl (by first | exact .inl rfl | exact .inr rfl) (pBM0 PySem.F.plainAttrs_list PySem.F.slot_list_pop PySem.F.type_list_pop mPop (pv' 2)))
    (bOne (sIf' (tCmp' oNotIn (pv' 3) (pv' 1)) (bCons (sExpr' (pBM PySem.F.plainAttrs_list PySem.F.slot_list_append PySem.F.type_list_append mAppend (pv' 1) (aCons' (pv' 3) aNil')))
    (bOne (sFor' (passes_of rfl) rfl (iSeq' (hl := (pIx oIx (pv' 0) (pv' 3)))) (gName' (i := 4) nd rfl (by first | exact .inl rfl | exact .inr rfl)) (bOne (sSet' (i := 2) nd rfl (by first | exact .inl rfl | exact .inr rfl) (pOp oAdd (pv' 2) (pLc (own := [("_law_item", 5)]) (g := (Tg.one 5)) (hc := rfl) (hN := nd) (hi := (iSeq' (hl := (pv' 4)))) (ok := (blkOk_by (own := [("_law_item", 5)]) (N := N_Lreached) (sc := defScope s_Lreached) (by decide +kernel))) (hv := by decide) (hg := (fun _ _ _ _ _ => gOne (i := 5) nd rfl (.inl rfl))) (ht := (fun _ _ _ _ _ => ifOne (tNot' (tVal (pB kIsi (by rfl) T.no_isinstance (by decide +kernel) (aCons' (pv' 5) (aCons' (pTy (by rfl) T.no_str (by decide +kernel)) aNil'))))))) (he := fun _ _ _ _ _ => (pv' 5))))))))) bNil))))
    (bOne (sRet' (pB kSortedI (by rfl) T.no_sorted (by decide +kernel) (aCons' (pv' 1) aNil'))))))) hR
theorem ok_is_word (T : Txt K mg ad) 
    (len : ∀ ds S Q E, sp.is_word ds S Q E → ds.length = 1)
    (hR : ∀ ds S Qd Ed, sp.is_word ds S Qd Ed → StClo S → t_is_word (WEx S.length Ed) { nx := fun _ S' => Gc S.length Qd .non S', rt := Gc S.length Qd } (startD 1 ds) S) :
    FnOk P w K mg base (L2.CX P w) (0 + 1) ad.f_is_word ad.d_is_word ["item"] (LSp ⟨K, TT⟩ sp.is_word) :=
  okD T.F_is_word sc_is_word len (t_is_word) (fun π0 H0 Wd cdv A outer s H E hr tk => by
    have nd := sc_is_word.nd
    have hu64 := hr.units
    exact (bOne (sRet' (pB kIsi (by rfl) T.no_isinstance (by decide +kernel) (aCons' (pv' 0) (aCons' (pTy (by rfl) T.no_str (by decide +kernel)) aNil')))))) hR
theorem ok_is_valid_item (T : Txt K mg ad) (G_is_word : FnOk P w K mg base (L2.CX P w) 1 ad.f_is_word ad.d_is_word ["item"] (LSp ⟨K, TT⟩ sp.is_word))
    (len : ∀ ds S Q E, sp.is_valid_item ds S Q E → ds.length = 3)
    (hR : ∀ ds S Qd Ed, sp.is_valid_item ds S Qd Ed → StClo S → t_is_valid_item sp.is_word (WEx S.length Ed) { nx := fun _ S' => Gc S.length Qd .non S', rt := Gc S.length Qd } (startD 4 ds) S) :
    FnOk P w K mg base (L2.CX P w) (1 + 1) ad.f_is_valid_item ad.d_is_valid_item ["book", "refrain", "item"] (LSp ⟨K, TT⟩ sp.is_valid_item) :=
  okD T.F_is_valid_item sc_is_valid_item len (t_is_valid_item sp.is_word) (fun π0 H0 Wd cdv A outer s H E hr tk => by
    have nd := sc_is_valid_item.nd
    have hu64 := hr.units
    exact (bCons (sIf' (tVal (pCall G_is_word (hr.mono (by decide)) (by rfl) T.g_is_word T.F_is_word.kp T.b_is_word tk (aCons' (pv' 2) aNil'))) (bOne (sRet' (pAnd (pChain oLe oLe pInt (pB kLen (by rfl) T.no_len (by decide +kernel) (aCons' (pv' 2) aNil')) (pGlob (by rfl) T.gk_MAX_LETTERS T.v_MAX_LETTERS (T.r_MAX_LETTERS _))) (pOne (pB (kAll rfl) (by rfl) T.no_all (by decide +kernel) (aCons' (pLc (own := [("letter", 3)]) (g := (Tg.one 3)) (hc := rfl) (hN := nd) (hi := (iStr' (pv' 2))) (ok := (blkOk_by (own := [("letter", 3)]) (N := N_is_valid_item) (sc := defScope s_is_valid_item) (by decide +kernel))) (hv := by decide) (hg := (fun _ _ _ _ _ => gOne (i := 3) nd rfl (.inl rfl))) (ht := (fun _ _ _ _ _ => ifNo)) (he := fun _ _ _ _ _ => (pCmp oIn (pv' 3) (pGlob (by rfl) T.gk_LETTERS T.v_LETTERS (T.r_LETTERS _))))) aNil')))))) bNil)
    (bOne (sRet' (pChain oLt oLt (pv' 1) (pv' 2) (pB kLen (by rfl) T.no_len (by decide +kernel) (aCons' (pv' 0) aNil'))))))) hR
theorem ok_first_invalid_verse (T : Txt K mg ad) (G_is_valid_item : FnOk P w K mg base (L2.CX P w) 2 ad.f_is_valid_item ad.d_is_valid_item ["book", "refrain", "item"] (LSp ⟨K, TT⟩ sp.is_valid_item))
    (len : ∀ ds S Q E, sp.first_invalid_verse ds S Q E → ds.length = 2)
    (hR : ∀ ds S Qd Ed, sp.first_invalid_verse ds S Qd Ed → StClo S → t_first_invalid_verse sp.is_valid_item (WEx S.length Ed) { nx := fun _ S' => Gc S.length Qd .non S', rt := Gc S.length Qd } (startD 6 ds) S) :
    FnOk P w K mg base (L2.CX P w) (2 + 1) ad.f_first_invalid_verse ad.d_first_invalid_verse ["book", "refrain"] (LSp ⟨K, TT⟩ sp.first_invalid_verse) :=
  okD T.F_first_invalid_verse sc_first_invalid_verse len (t_first_invalid_verse sp.is_valid_item) (fun π0 H0 Wd cdv A outer s H E hr tk => by
    have nd := sc_first_invalid_verse.nd
    have hu64 := hr.units
    exact (bCons (sSet' (i := 2) nd rfl (by first | exact .inl rfl | exact .inr rfl) (pIx oIx (pv' 0) (pv' 1)))
    (bCons (sIf' (tNot' (tChain' oLe oLe pInt (pB kLen (by rfl) T.no_len (by decide +kernel) (aCons' (pv' 2) aNil')) (pGlob (by rfl) T.gk_MAX_VERSES T.v_MAX_VERSES (T.r_MAX_VERSES _)))) (bOne (sRet' (pUn oNeg pInt))) bNil)
    (bCons (sFor' (passes_of rfl) rfl (iEnum' (hg := by rfl) (hm := T.no_enumerate) (ha := (aCons' (pv' 2) aNil'))) (gUnp' (hc := rfl) (h := (gsCons' (gName' (i := 3) nd rfl (by first | exact .inl rfl | exact .inr rfl)) (gsCons' (gName' (i := 4) nd rfl (by first | exact .inl rfl | exact .inr rfl)) gsNil')))) (bOne (sIf' (PW.pt (wOr (tNot' (tChain' oLe oLe pInt (pB kLen (by rfl) T.no_len (by decide +kernel) (aCons' (pv' 4) aNil')) (pGlob (by rfl) T.gk_MAX_ITEMS T.v_MAX_ITEMS (T.r_MAX_ITEMS _)))) (wOr1 (tNot' (tVal (pB (kAll rfl) (by rfl) T.no_all (by decide +kernel) (aCons' (pLc (own := [("item", 5)]) (g := (Tg.one 5)) (hc := rfl) (hN := nd) (hi := (iSeq' (hl := (pv' 4)))) (ok := (blkOk_by (own := [("item", 5)]) (N := N_first_invalid_verse) (sc := defScope s_first_invalid_verse) (by decide +kernel))) (hv := by decide) (hg := (fun _ _ _ _ _ => gOne (i := 5) nd rfl (.inl rfl))) (ht := (fun _ _ _ _ _ => ifNo)) (he := fun _ _ _ _ _ => (pCall G_is_valid_item (hr.mono (by decide)) (by rfl) T.g_is_valid_item T.F_is_valid_item.kp T.b_is_valid_item tkNo (aCons' (pv' 0) (aCons' (pv' 1) (aCons' (pv' 5) aNil')))))) aNil'))))))) (bOne (sRet' (pv' 3))) bNil)))
    (bOne (sRet' pNon)))))) hR
theorem ok_validate_book (T : Txt K mg ad) (G_first_invalid_verse : FnOk P w K mg base (L2.CX P w) 3 ad.f_first_invalid_verse ad.d_first_invalid_verse ["book", "refrain"] (LSp ⟨K, TT⟩ sp.first_invalid_verse)) (GX_BadBook : FnOk P w K mg base (L2.CX P w) 1 ad.fi_BadBook ad.di_BadBook ["self", "refrain", "verse"] (spXI ad.c_BadBook ["refrain", "verse"]))
    (len : ∀ ds S Q E, sp.validate_book ds S Q E → ds.length = 1)
    (hR : ∀ ds S Qd Ed, sp.validate_book ds S Qd Ed → StClo S → t_validate_book ad.c_BadBook sp.first_invalid_verse (WEx S.length Ed) { nx := fun _ S' => Gc S.length Qd .non S', rt := Gc S.length Qd } (startD 3 ds) S) :
    FnOk P w K mg base (L2.CX P w) (3 + 1) ad.f_validate_book ad.d_validate_book ["book"] (LSp ⟨K, TT⟩ sp.validate_book) :=
  okD T.F_validate_book sc_validate_book len (t_validate_book ad.c_BadBook sp.first_invalid_verse) (fun π0 H0 Wd cdv A outer s H E hr tk => by
    have nd := sc_validate_book.nd
    have hu64 := hr.units
    exact (bCons (sIf' (tCmp' (oEq (hu := hu64)) (pB kLen (by rfl) T.no_len (by decide +kernel) (aCons' (pv' 0) aNil')) pInt) (bOne (sRaiseK' tk T.x_BadBook GX_BadBook (hr.mono (by decide)) T.kb_BadBook (kCons' pInt (kCons' (pUn oNeg pInt) kNil')))) bNil)
    (bOne (sFor' (passes_of rfl) rfl (iRg1' (by rfl) T.no_range (aCons' (pB kLen (by rfl) T.no_len (by decide +kernel) (aCons' (pv' 0) aNil')) aNil')) (gName' (i := 1) nd rfl (by first | exact .inl rfl | exact .inr rfl)) (bCons (sSet' (i := 2) nd rfl (by first | exact .inl rfl | exact .inr rfl) (pIfE (tCmp' (oEq (hu := hu64)) (pv' 1) (pGlob (by rfl) T.gk_MAX_REFRAINS T.v_MAX_REFRAINS (T.r_MAX_REFRAINS _))) (pUn oNeg pInt) (pCall G_first_invalid_verse (hr.mono (by decide)) (by rfl) T.g_first_invalid_verse T.F_first_invalid_verse.kp T.b_first_invalid_verse tk (aCons' (pv' 0) (aCons' (pv' 1) aNil')))))
    (bOne (sIf' (tCmp' oIsNot (pv' 2) pNon) (bOne (sRaiseK' tk T.x_BadBook GX_BadBook (hr.mono (by decide)) T.kb_BadBook (kCons' (pv' 1) (kCons' (pv' 2) kNil')))) bNil))))))) hR
theorem ok_initial_state (T : Txt K mg ad) (G_validate_book : FnOk P w K mg base (L2.CX P w) 4 ad.f_validate_book ad.d_validate_book ["book"] (LSp ⟨K, TT⟩ sp.validate_book))
    (len : ∀ ds S Q E, sp.initial_state ds S Q E → ds.length = 1)
    (hR : ∀ ds S Qd Ed, sp.initial_state ds S Qd Ed → StClo S → t_initial_state sp.validate_book (WEx S.length Ed) { nx := fun _ S' => Gc S.length Qd .non S', rt := Gc S.length Qd } (startD 1 ds) S) :
    FnOk P w K mg base (L2.CX P w) (4 + 1) ad.f_initial_state ad.d_initial_state ["book"] (LSp ⟨K, TT⟩ sp.initial_state) :=
  okD T.F_initial_state sc_initial_state len (t_initial_state sp.validate_book) (fun π0 H0 Wd cdv A outer s H E hr tk => by
    have nd := sc_initial_state.nd
    have hu64 := hr.units
    exact (bCons (sExpr' (pCall G_validate_book (hr.mono (by decide)) (by rfl) T.g_validate_book T.F_validate_book.kp T.b_validate_book tk (aCons' (pv' 0) aNil')))
    (bOne (sRet' (pTup (aCons' (pOp oMulT (pTup (aCons' pInt aNil')) (pB kLen (by rfl) T.no_len (by decide +kernel) (aCons' (pv' 0) aNil'))) (aCons' (pTup aNil') aNil'))))))) hR
theorem ok_all_items (T : Txt K mg ad) 
    (len : ∀ ds S Q E, sp.all_items ds S Q E → ds.length = 1)
    (hR : ∀ ds S Qd Ed, sp.all_items ds S Qd Ed → StClo S → t_all_items (WEx S.length Ed) { nx := fun _ S' => Gc S.length Qd .non S', rt := Gc S.length Qd } (startD 3 ds) S) :
    FnOk P w K mg base (L2.CX P w) (0 + 1) ad.f_all_items ad.d_all_items ["verses"] (LSp ⟨K, TT⟩ sp.all_items) :=
  okD T.F_all_items sc_all_items len (t_all_items) (fun π0 H0 Wd cdv A outer s H E hr tk => by
    have nd := sc_all_items.nd
    have hu64 := hr.units
    exact (bOne (sRet' (pLc2 (own := [("verse", 1), ("item", 2)]) (vs1 := [2]) (g := (Tg.one 1)) (g1 := (Tg.one 2)) (hc := rfl) (hN := nd) (hi := (iSeq' (hl := (pv' 0)))) (ok := (blkOk_by (own := [("verse", 1), ("item", 2)]) (N := N_all_items) (sc := defScope s_all_items) (by decide +kernel))) (hv := by decide) (hv1 := by decide) (hvv := by decide) (hg := (fun _ _ _ _ _ => gOne (i := 1) nd rfl (.inl rfl))) (ht := (fun _ _ _ _ _ => ifNo)) (hi1 := fun _ _ _ _ _ => (iSeq' (hl := (pv' 1)))) (hg1 := (fun _ _ _ _ _ => gOne (i := 2) nd rfl (.inl rfl))) (ht1 := (fun _ _ _ _ _ => ifNo)) (he := fun _ _ _ _ _ => (pv' 2)))))) hR
theorem ok_find_reachable (T : Txt K mg ad) (G_all_items : FnOk P w K mg base (L2.CX P w) 1 ad.f_all_items ad.d_all_items ["verses"] (LSp ⟨K, TT⟩ sp.all_items)) (G_is_word : FnOk P w K mg base (L2.CX P w) 1 ad.f_is_word ad.d_is_word ["item"] (LSp ⟨K, TT⟩ sp.is_word))
    (len : ∀ ds S Q E, sp.find_reachable ds S Q E → ds.length = 1)
    (hR : ∀ ds S Qd Ed, sp.find_reachable ds S Qd Ed → StClo S → t_find_reachable sp.all_items sp.is_word (WEx S.length Ed) { nx := fun _ S' => Gc S.length Qd .non S', rt := Gc S.length Qd } (startD 6 ds) S) :
    FnOk P w K mg base (L2.CX P w) (1 + 1) ad.f_find_reachable ad.d_find_reachable ["book"] (LSp ⟨K, TT⟩ sp.find_reachable) :=
  okD T.F_find_reachable sc_find_reachable len (t_find_reachable sp.all_items sp.is_word) (fun π0 H0 Wd cdv A outer s H E hr tk => by
    have nd := sc_find_reachable.nd
    have hu64 := hr.units
    exact (bCons (sSet' (i := 1) nd rfl (by first | exact .inl rfl | exact .inr rfl) (pOp oAdd (pLst (aCons' pBl aNil')) (pOp oMul (pLst (aCons' pBl aNil')) (pOp oSub (pB kLen (by rfl) T.no_len (by decide +kernel) (aCons' (pv' 0) aNil')) pInt))))
    (bCons (sFor' (passes_of rfl) rfl (iEnum' (hg := by rfl) (hm := T.no_enumerate) (ha := (aCons' (pv' 0) aNil'))) (gUnp' (hc := rfl) (h := (gsCons' (gName' (i := 2) nd rfl (by first | exact .inl rfl | exact .inr rfl)) (gsCons' (gName' (i := 3) nd rfl (by first | exact .inl rfl | exact .inr rfl)) gsNil')))) (bOne (sIf' (tVal (pIx oIx (pv' 1) (pv' 2))) (bOne (sFor' (passes_of rfl) rfl (iSeq' (hl := (pCall G_all_items (hr.mono (by decide)) (by rfl) T.g_all_items T.F_all_items.kp T.b_all_items tk (aCons' (pv' 3) aNil')))) (gName' (i := 4) nd rfl (by first | exact .inl rfl | exact .inr rfl)) (bOne (sIf' (tNot' (tVal (pCall G_is_word (hr.mono (by decide)) (by rfl) T.g_is_word T.F_is_word.kp T.b_is_word tk (aCons' (pv' 4) aNil')))) (bOne (sAsg' pBl (gSub' (pv' 1) (pv' 4) stSetL))) bNil)))) bNil)))
    (bOne (sRet' (pLc (own := [("refrain", 2), ("is_reached", 5)]) (g := (Tg.many [2, 5])) (hc := rfl) (hN := nd) (hi := (iEnum' (hg := by rfl) (hm := T.no_enumerate) (ha := (aCons' (pv' 1) aNil')))) (ok := (blkOk_by (own := [("refrain", 2), ("is_reached", 5)]) (N := N_find_reachable) (sc := defScope s_find_reachable) (by decide +kernel))) (hv := by decide) (hg := (fun _ _ _ _ _ => gMany (is := [2, 5]) rfl (pgs_cons (pg_name (i := 2) nd rfl (.inl rfl)) (pgs_cons (pg_name (i := 5) nd rfl (.inl rfl)) pgs_nil)))) (ht := (fun _ _ _ _ _ => ifOne (tVal (pv' 5)))) (he := fun _ _ _ _ _ => (pv' 2)))))))) hR
theorem ok_reachable_refrains (T : Txt K mg ad) (G_validate_book : FnOk P w K mg base (L2.CX P w) 4 ad.f_validate_book ad.d_validate_book ["book"] (LSp ⟨K, TT⟩ sp.validate_book)) (G_find_reachable : FnOk P w K mg base (L2.CX P w) 2 ad.f_find_reachable ad.d_find_reachable ["book"] (LSp ⟨K, TT⟩ sp.find_reachable))
    (len : ∀ ds S Q E, sp.reachable_refrains ds S Q E → ds.length = 1)
    (hR : ∀ ds S Qd Ed, sp.reachable_refrains ds S Qd Ed → StClo S → t_reachable_refrains sp.validate_book sp.find_reachable (WEx S.length Ed) { nx := fun _ S' => Gc S.length Qd .non S', rt := Gc S.length Qd } (startD 1 ds) S) :
    FnOk P w K mg base (L2.CX P w) (4 + 1) ad.f_reachable_refrains ad.d_reachable_refrains ["book"] (LSp ⟨K, TT⟩ sp.reachable_refrains) :=
  okD T.F_reachable_refrains sc_reachable_refrains len (t_reachable_refrains sp.validate_book sp.find_reachable) (fun π0 H0 Wd cdv A outer s H E hr tk => by
    have nd := sc_reachable_refrains.nd
    have hu64 := hr.units
    exact (bCons (sExpr' (pCall G_validate_book (hr.mono (by decide)) (by rfl) T.g_validate_book T.F_validate_book.kp T.b_validate_book tk (aCons' (pv' 0) aNil')))
    (bOne (sRet' (pCall G_find_reachable (hr.mono (by decide)) (by rfl) T.g_find_reachable T.F_find_reachable.kp T.b_find_reachable tk (aCons' (pv' 0) aNil')))))) hR
theorem ok_Lalike {k : Nat} (hk : 0 ≤ k) (T : Txt K mg ad) (G_Lalike_rec : FnOk P w K mg base (L2.CX P w) k ad.f_Lalike ad.d_Lalike ["_law_found", "_law_due"] (LSp ⟨K, TT⟩ sp.Lalike_rec))
    (len : ∀ ds S Q E, sp.Lalike ds S Q E → ds.length = 2)
    (hR : ∀ ds S Qd Ed, sp.Lalike ds S Qd Ed → StClo S → t_Lalike sp.Lalike_rec (WEx S.length Ed) { nx := fun _ S' => Gc S.length Qd .non S', rt := Gc S.length Qd } (startD 3 ds) S) :
    FnOk P w K mg base (L2.CX P w) (k + 1) ad.f_Lalike ad.d_Lalike ["_law_found", "_law_due"] (LSp ⟨K, TT⟩ sp.Lalike) :=
  okD T.F_Lalike sc_Lalike len (t_Lalike sp.Lalike_rec) (fun π0 H0 Wd cdv A outer s H E hr tk => by
    have nd := sc_Lalike.nd
    have hu64 := hr.units
    exact (bCons (sIf' (tCmp' oIs (pv' 1) pNon) (bOne (sRet' (pCmp oIs (pv' 0) pNon))) bNil)
    (bCons (sIf' (tVal (pB kIsi (by rfl) T.no_isinstance (by decide +kernel) (aCons' (pv' 1) (aCons' (pTy (by rfl) T.no_bool (by decide +kernel)) aNil')))) (bOne (sRet' (pAnd (pB kIsi (by rfl) T.no_isinstance (by decide +kernel) (aCons' (pv' 0) (aCons' (pTy (by rfl) T.no_bool (by decide +kernel)) aNil'))) (pOne (pCmp (oEq (hu := hu64)) (pv' 0) (pv' 1)))))) bNil)
    (bCons (sIf' (tVal (pB kIsi (by rfl) T.no_isinstance (by decide +kernel) (aCons' (pv' 1) (aCons' (pTy (by rfl) T.no_int (by decide +kernel)) aNil')))) (bOne (sRet' (pAnd (pB kIsi (by rfl) T.no_isinstance (by decide +kernel) (aCons' (pv' 0) (aCons' (pTy (by rfl) T.no_int (by decide +kernel)) aNil'))) (pAnd (pNot (pB kIsi (by rfl) T.no_isinstance (by decide +kernel) (aCons' (pv' 0) (aCons' (pTy (by rfl) T.no_bool (by decide +kernel)) aNil')))) (pOne (pCmp (oEq (hu := hu64)) (pv' 0) (pv' 1))))))) bNil)
    (bCons (sIf' (tVal (pB kIsi (by rfl) T.no_isinstance (by decide +kernel) (aCons' (pv' 1) (aCons' (pTy (by rfl) T.no_str (by decide +kernel)) aNil')))) (bOne (sRet' (pAnd (pB kIsi (by rfl) T.no_isinstance (by decide +kernel) (aCons' (pv' 0) (aCons' (pTy (by rfl) T.no_str (by decide +kernel)) aNil'))) (pOne (pCmp (oEq (hu := hu64)) (pv' 0) (pv' 1)))))) bNil)
    (bCons (sIf' (PW.pt (wOr (tCmp' (oNe (hu := hu64)) (pB kIsi (by rfl) T.no_isinstance (by decide +kernel) (aCons' (pv' 1) (aCons' (pTy (by rfl) T.no_tuple (by decide +kernel)) aNil'))) (pB kIsi (by rfl) T.no_isinstance (by decide +kernel) (aCons' (pv' 0) (aCons' (pTy (by rfl) T.no_tuple (by decide +kernel)) aNil')))) (wOr1 (tCmp' (oNe (hu := hu64)) (pB kIsi (by rfl) T.no_isinstance (by decide +kernel) (aCons' (pv' 1) (aCons' (pTy (by rfl) T.no_list (by decide +kernel)) aNil'))) (pB kIsi (by rfl) T.no_isinstance (by decide +kernel) (aCons' (pv' 0) (aCons' (pTy (by rfl) T.no_list (by decide +kernel)) aNil'))))))) (bOne (sRet' pBl)) bNil)
    (bCons (sIf' (tCmp' (oNe (hu := hu64)) (pB kLen (by rfl) T.no_len (by decide +kernel) (aCons' (pv' 0) aNil')) (pB kLen (by rfl) T.no_len (by decide +kernel) (aCons' (pv' 1) aNil'))) (bOne (sRet' pBl)) bNil)
    (bCons (sFor' (passes_of rfl) rfl (iRg1' (by rfl) T.no_range (aCons' (pB kLen (by rfl) T.no_len (by decide +kernel) (aCons' (pv' 1) aNil')) aNil')) (gName' (i := 2) nd rfl (by first | exact .inl rfl | exact .inr rfl)) (bOne (sIf' (tNot' (tVal (pCall G_Lalike_rec (hr.mono (by omega)) (by rfl) T.g_Lalike T.F_Lalike.kp T.b_Lalike tk (aCons' (pIx oIx (pv' 0) (pv' 2)) (aCons' (pIx oIx (pv' 1) (pv' 2)) aNil'))))) (bOne (sRet' pBl)) bNil)))
    (bOne (sRet' pBl)))))))))) hR
theorem ok_law (T : Txt K mg ad) (hTB : LamX.TabB base mg ad.lc_law ad.lp_law) (hmT : (ad.lp_law, lam_law) ∈ TT) (huT : ∀ p ∈ TT, p.1 = ad.lp_law → p.2 = lam_law) (G_Lbegun : FnOk P w K mg base (L2.CX P w) 1 ad.f_Lbegun ad.d_Lbegun ["_law_script"] (LSp ⟨K, TT⟩ sp.Lbegun)) (G_Lbook : FnOk P w K mg base (L2.CX P w) 2 ad.f_Lbook ad.d_Lbook ["_law_box", "_law_most"] (LSp ⟨K, TT⟩ sp.Lbook)) (G_Ltake : FnOk P w K mg base (L2.CX P w) 1 ad.f_Ltake ad.d_Ltake ["_law_box", "_law_size"] (LSp ⟨K, TT⟩ sp.Ltake)) (G_Ldamaged : FnOk P w K mg base (L2.CX P w) 2 ad.f_Ldamaged ad.d_Ldamaged ["_law_box", "_law_book_here"] (LSp ⟨K, TT⟩ sp.Ldamaged)) (G_Ldefect : FnOk P w K mg base (L2.CX P w) 1 ad.f_Ldefect ad.d_Ldefect ["_law_book_here"] (LSp ⟨K, TT⟩ sp.Ldefect)) (G_Lreached : FnOk P w K mg base (L2.CX P w) 1 ad.f_Lreached ad.d_Lreached ["_law_book_here"] (LSp ⟨K, TT⟩ sp.Lreached)) (G_initial_state : FnOk P w K mg base (L2.CX P w) 5 ad.f_initial_state ad.d_initial_state ["book"] (LSp ⟨K, TT⟩ sp.initial_state)) (G_reachable_refrains : FnOk P w K mg base (L2.CX P w) 5 ad.f_reachable_refrains ad.d_reachable_refrains ["book"] (LSp ⟨K, TT⟩ sp.reachable_refrains)) (G_Lalike : FnOk P w K mg base (L2.CX P w) 6 ad.f_Lalike ad.d_Lalike ["_law_found", "_law_due"] (LSp ⟨K, TT⟩ sp.Lalike))
    (len : ∀ ds S Q E, sp.law ds S Q E → ds.length = 1)
    (hR : ∀ ds S Qd Ed, sp.law ds S Qd Ed → StClo S → t_law (tellB (clsL ad)) sp.Lbegun sp.Lbook sp.Ltake sp.Ldamaged sp.Ldefect sp.Lreached sp.initial_state sp.reachable_refrains sp.Lalike (WEx S.length Ed) { nx := fun _ S' => Gc S.length Qd .non S', rt := Gc S.length Qd } (startD 9 ds) S) :
    FnOk P w K mg base (L2.CX P w) (7 + 1) ad.f_law ad.d_law ["_law_script"] (LSp ⟨K, TT⟩ sp.law) :=
  okDc T.FC_law sc_law len (t_law (tellB (clsL ad)) sp.Lbegun sp.Lbook sp.Ltake sp.Ldamaged sp.Ldefect sp.Lreached sp.initial_state sp.reachable_refrains sp.Lalike) (fun π0 H0 Wd A outer s H E hr tk => by
    have nd := sc_law.nd
    have hu64 := hr.units
    have hu1 := fun env => ((hr.mono (by decide : 1 ≤ 7)).deeper env).units
    exact (bCons (sSet' (i := 1) nd rfl (by first | exact .inl rfl | exact .inr rfl) (pCall G_Lbegun (hr.mono (by decide)) (by rfl) T.g_Lbegun T.F_Lbegun.kp T.b_Lbegun tk (aCons' (pv' 0) aNil')))
    (bCons (sFor' (passes_of rfl) rfl (iRg1' (by rfl) T.no_range (aCons' pInt aNil')) (gName' (i := 2) nd rfl (by first | exact .inl rfl | exact .inr rfl)) (bCons (sSet' (i := 3) nd rfl (by first | exact .inl rfl | exact .inr rfl) (pCall G_Lbook (hr.mono (by decide)) (by rfl) T.g_Lbook T.F_Lbook.kp T.b_Lbook tk (aCons' (pv' 1) (aCons' pInt aNil'))))
    (bCons (sFor' (passes_of rfl) rfl (iRg1' (by rfl) T.no_range (aCons' (pCall G_Ltake (hr.mono (by decide)) (by rfl) T.g_Ltake T.F_Ltake.kp T.b_Ltake tk (aCons' (pv' 1) (aCons' pInt aNil'))) aNil')) (gName' (i := 4) nd rfl (by first | exact .inl rfl | exact .inr rfl)) (bOne (sSet' (i := 3) nd rfl (by first | exact .inl rfl | exact .inr rfl) (pCall G_Ldamaged (hr.mono (by decide)) (by rfl) T.g_Ldamaged T.F_Ldamaged.kp T.b_Ldamaged tk (aCons' (pv' 1) (aCons' (pv' 3) aNil'))))))
    (bCons (sIf' (tCmp' (oEq (hu := hu64)) (pCall G_Ltake (hr.mono (by decide)) (by rfl) T.g_Ltake T.F_Ltake.kp T.b_Ltake tk (aCons' (pv' 1) (aCons' pInt aNil'))) pInt) (bOne (sSet' (i := 3) nd rfl (by first | exact .inl rfl | exact .inr rfl) (pIx oIx (pLst (aCons' (pTup aNil') (aCons' (pOp oMulT (pTup (aCons' (pTup (aCons' (pTup (aCons' pStr aNil')) aNil')) aNil')) (pOp oAdd pInt (pCall G_Ltake (hr.mono (by decide)) (by rfl) T.g_Ltake T.F_Ltake.kp T.b_Ltake tk (aCons' (pv' 1) (aCons' pInt aNil'))))) aNil'))) (pCall G_Ltake (hr.mono (by decide)) (by rfl) T.g_Ltake T.F_Ltake.kp T.b_Ltake tk (aCons' (pv' 1) (aCons' pInt aNil')))))) bNil)
    (bCons (sSet' (i := 5) nd rfl (by first | exact .inl rfl | exact .inr rfl) (pCall G_Ldefect (hr.mono (by decide)) (by rfl) T.g_Ldefect T.F_Ldefect.kp T.b_Ldefect tk (aCons' (pv' 3) aNil')))
    (bCons (sSet' (i := 6) nd rfl (by first | exact .inl rfl | exact .inr rfl) (pIfE (tCmp' oIsNot (pv' 5) pNon) (pLst (aCons' (pv' 5) (aCons' (pv' 5) aNil'))) (pLst (aCons' (pTup (aCons' (pOp oMulT (pTup (aCons' pInt aNil')) (pB kLen (by rfl) T.no_len (by decide +kernel) (aCons' (pv' 3) aNil'))) (aCons' (pTup aNil') aNil'))) (aCons' (pCall G_Lreached (hr.mono (by decide)) (by rfl) T.g_Lreached T.F_Lreached.kp T.b_Lreached tk (aCons' (pv' 3) aNil')) aNil')))))
    (bOne (sFor' (passes_of rfl) rfl (iRg1' (by rfl) T.no_range (aCons' pInt aNil')) (gName' (i := 7) nd rfl (by first | exact .inl rfl | exact .inr rfl)) (bCons (sSet' (i := 8) nd rfl (by first | exact .inl rfl | exact .inr rfl) (pLst (aCons' (pResT (k := 5) (RR := tellB (clsL ad)) (tellB_ok _) T.F_Lresult T.b_Lresult sc_Lresult (by rfl) T.g_Lresult rfl (by first | exact .inl rfl | exact .inr (.inl rfl)) (fun cdg => give_Lresult _ T hu1 cdg _) hTB rfl hmT huT (hr.mono (by decide)) (LamX.lamS_by (sc := defScope s_law) (by decide +kernel)) (fun π0 H0 Wd A outer s H E f c' hr tk => (by have hu64 := hr.units; exact (pCall G_initial_state (hr.mono (by decide)) (by rfl) T.g_initial_state T.F_initial_state.kp T.b_initial_state tk (aCons' (pv' 3) aNil'))))) (aCons' (pResTD (pn := "_law_a") (k := 5) (RR := tellB (clsL ad)) (tellB_ok _) T.F_Lresult T.b_Lresult sc_Lresult (by rfl) T.g_Lresult rfl (by first | exact .inl rfl | exact .inr (.inl rfl)) (fun cdg => give_Lresult _ T hu1 cdg _) hTB rfl hmT huT (hr.mono (by decide)) (LamD.lamD_by (sc := defScope s_law) (N := N_law) (by decide +kernel)) (fun π0 H0 Wd A outer s H E f c' hr tk => (by have hu64 := hr.units; exact (pCall G_reachable_refrains (hr.mono (by decide)) (by rfl) T.g_reachable_refrains T.F_reachable_refrains.kp T.b_reachable_refrains tk (aCons' (pv' 3) aNil'))))) aNil'))))
    (bOne (sIf' (tNot' (tVal (pCall G_Lalike (hr.mono (by decide)) (by rfl) T.g_Lalike T.F_Lalike.kp T.b_Lalike tk (aCons' (pv' 8) (aCons' (pv' 6) aNil'))))) (bOne (sRet' pBl)) bNil)))))))))))
    (bOne (sRet' pBl))))) hR
end
end K01
set_option Elab.async false
set_option linter.all false
set_option maxRecDepth 100000
set_option maxHeartbeats 2000000
namespace K01
open PySem PySem.Spec PyProof.Rows L2 D3
def spNone : Spd := fun _ _ _ _ => False
theorem ok_none {P : Program} {w : World} {K : PySem.W.Frag} {mg : Str → Option Value} {base : Heap} {TT : List (Addr × Str)} {k : Nat} {f : Addr} {fd : FuncData} {ps : List Str} : FnOk P w K mg base (L2.CX P w) k f fd ps (LSp ⟨K, TT⟩ spNone) := by
  constructor
  all_goals intros
  all_goals (rename_i h; obtain ⟨_, _, _, _, _, _, _, z, _⟩ := h; exact z.elim)
def sps (ad : Ad) : Sps := { Lbegun := K11.spBegun, Ltake := K11.spTake, Lbook := K11.spBook, Ldamaged := spDamB, Ldefect := spDefectL, Lreached := K11.spReached, is_word := K20.spIsWord, is_valid_item := K20.spIsValidItem, first_invalid_verse := K20.spFirstBad, validate_book := K16.spVBook ad.c_BadBook, initial_state := spInit ad.c_BadBook, all_items := K09.spAllItems, find_reachable := K09.spReach, reachable_refrains := spReachR ad.c_BadBook, Lalike := K03.spAl 5, law := spLaw 63, Lalike_rec := spNone }
theorem law_ok {P : Program} {w : World} {K : PySem.W.Frag} {mg : Str → Option Value} {base : Heap} {ad : Ad} (T : Txt K mg ad) (hTB : ∀ p ∈ csL ad, LamX.TabB base mg p.1 p.2) : FnOk P w K mg base (L2.CX P w) 8 ad.f_law ad.d_law ["_law_script"] (LSp ⟨K, ttL ad⟩ (spLaw 63)) := by
  have GX_BadBook := okx_BadBook (P := P) (w := w) (base := base) T
  have G_Lbegun : FnOk P w K mg base (L2.CX P w) 1 ad.f_Lbegun ad.d_Lbegun ["_law_script"] (LSp ⟨K, ttL ad⟩ (K11.spBegun)) := ok_Lbegun (sp := sps ad) T  (by intro ds S Q E h; first | (obtain ⟨rfl, _⟩ := h; rfl) | (obtain ⟨_, rfl, _⟩ := h; rfl) | (obtain ⟨_, _, rfl, _⟩ := h; rfl) | (obtain ⟨_, _, _, rfl, _⟩ := h; rfl) | (obtain ⟨_, _, _, _, rfl, _⟩ := h; rfl) | (obtain ⟨_, _, _, _, _, rfl, _⟩ := h; rfl) | (obtain ⟨_, _, _, _, _, _, rfl, _⟩ := h; rfl) | (obtain ⟨_, _, _, _, _, _, _, rfl, _⟩ := h; rfl) | (obtain ⟨_, _, _, _, _, _, _, _, rfl, _⟩ := h; rfl) | (obtain ⟨_, _, _, _, _, _, _, _, _, rfl, _⟩ := h; rfl) | (obtain ⟨_, _, _, _, _, _, _, _, _, _, rfl, _⟩ := h; rfl) | (obtain ⟨_, _, _, _, _, _, _, _, _, _, _, rfl, _⟩ := h; rfl) | (obtain ⟨_, _, _, _, _, _, _, _, _, _, _, _, rfl, _⟩ := h; rfl) | (obtain ⟨_, _, _, _, _, _, _, _, _, _, _, _, _, rfl, _⟩ := h; rfl) | (obtain ⟨_, _, _, _, _, _, _, _, _, _, _, _, _, _, rfl, _⟩ := h; rfl) | (obtain ⟨_, _, _, _, _, _, _, _, _, _, _, _, _, _, _, rfl, _⟩ := h; rfl) | (obtain ⟨_, _, _, _, _, _, _, _, _, _, _, _, _, _, _, _, rfl, _⟩ := h; rfl) | (obtain ⟨_, _, _, _, _, _, _, _, _, _, _, _, _, _, _, _, _, rfl, _⟩ := h; rfl) | (obtain ⟨_, _, _, _, _, _, _, _, _, _, _, _, _, _, _, _, _, _, rfl, _⟩ := h; rfl) | (obtain ⟨_, _, _, _, _, _, _, _, _, _, _, _, _, _, _, _, _, _, _, rfl, _⟩ := h; rfl) | (obtain ⟨_, _, _, _, _, _, _, _, _, _, _, _, _, _, _, _, _, _, _, _, rfl, _⟩ := h; rfl) | (obtain ⟨_, _, _, _, _, _, _, _, _, _, _, _, _, _, _, _, _, _, _, _, _, rfl, _⟩ := h; rfl) | (obtain ⟨_, _, _, _, _, _, _, _, _, _, _, _, _, _, _, _, _, _, _, _, _, _, rfl, _⟩ := h; rfl) | (obtain ⟨_, _, _, _, _, _, _, _, _, _, _, _, _, _, _, _, _, _, _, _, _, _, _, rfl, _⟩ := h; rfl) | (obtain ⟨_, _, _, _, _, _, _, _, _, _, _, _, _, _, _, _, _, _, _, _, _, _, _, _, rfl, _⟩ := h; rfl)) (K11.r_begun)
  have G_Ltake : FnOk P w K mg base (L2.CX P w) 1 ad.f_Ltake ad.d_Ltake ["_law_box", "_law_size"] (LSp ⟨K, ttL ad⟩ (K11.spTake)) := ok_Ltake (sp := sps ad) T  (by intro ds S Q E h; first | (obtain ⟨rfl, _⟩ := h; rfl) | (obtain ⟨_, rfl, _⟩ := h; rfl) | (obtain ⟨_, _, rfl, _⟩ := h; rfl) | (obtain ⟨_, _, _, rfl, _⟩ := h; rfl) | (obtain ⟨_, _, _, _, rfl, _⟩ := h; rfl) | (obtain ⟨_, _, _, _, _, rfl, _⟩ := h; rfl) | (obtain ⟨_, _, _, _, _, _, rfl, _⟩ := h; rfl) | (obtain ⟨_, _, _, _, _, _, _, rfl, _⟩ := h; rfl) | (obtain ⟨_, _, _, _, _, _, _, _, rfl, _⟩ := h; rfl) | (obtain ⟨_, _, _, _, _, _, _, _, _, rfl, _⟩ := h; rfl) | (obtain ⟨_, _, _, _, _, _, _, _, _, _, rfl, _⟩ := h; rfl) | (obtain ⟨_, _, _, _, _, _, _, _, _, _, _, rfl, _⟩ := h; rfl) | (obtain ⟨_, _, _, _, _, _, _, _, _, _, _, _, rfl, _⟩ := h; rfl) | (obtain ⟨_, _, _, _, _, _, _, _, _, _, _, _, _, rfl, _⟩ := h; rfl) | (obtain ⟨_, _, _, _, _, _, _, _, _, _, _, _, _, _, rfl, _⟩ := h; rfl) | (obtain ⟨_, _, _, _, _, _, _, _, _, _, _, _, _, _, _, rfl, _⟩ := h; rfl) | (obtain ⟨_, _, _, _, _, _, _, _, _, _, _, _, _, _, _, _, rfl, _⟩ := h; rfl) | (obtain ⟨_, _, _, _, _, _, _, _, _, _, _, _, _, _, _, _, _, rfl, _⟩ := h; rfl) | (obtain ⟨_, _, _, _, _, _, _, _, _, _, _, _, _, _, _, _, _, _, rfl, _⟩ := h; rfl) | (obtain ⟨_, _, _, _, _, _, _, _, _, _, _, _, _, _, _, _, _, _, _, rfl, _⟩ := h; rfl) | (obtain ⟨_, _, _, _, _, _, _, _, _, _, _, _, _, _, _, _, _, _, _, _, rfl, _⟩ := h; rfl) | (obtain ⟨_, _, _, _, _, _, _, _, _, _, _, _, _, _, _, _, _, _, _, _, _, rfl, _⟩ := h; rfl) | (obtain ⟨_, _, _, _, _, _, _, _, _, _, _, _, _, _, _, _, _, _, _, _, _, _, rfl, _⟩ := h; rfl) | (obtain ⟨_, _, _, _, _, _, _, _, _, _, _, _, _, _, _, _, _, _, _, _, _, _, _, rfl, _⟩ := h; rfl) | (obtain ⟨_, _, _, _, _, _, _, _, _, _, _, _, _, _, _, _, _, _, _, _, _, _, _, _, rfl, _⟩ := h; rfl)) (K11.r_take)
  have G_Lbook : FnOk P w K mg base (L2.CX P w) 2 ad.f_Lbook ad.d_Lbook ["_law_box", "_law_most"] (LSp ⟨K, ttL ad⟩ (K11.spBook)) := ok_Lbook (sp := sps ad) T G_Ltake (by intro ds S Q E h; first | (obtain ⟨rfl, _⟩ := h; rfl) | (obtain ⟨_, rfl, _⟩ := h; rfl) | (obtain ⟨_, _, rfl, _⟩ := h; rfl) | (obtain ⟨_, _, _, rfl, _⟩ := h; rfl) | (obtain ⟨_, _, _, _, rfl, _⟩ := h; rfl) | (obtain ⟨_, _, _, _, _, rfl, _⟩ := h; rfl) | (obtain ⟨_, _, _, _, _, _, rfl, _⟩ := h; rfl) | (obtain ⟨_, _, _, _, _, _, _, rfl, _⟩ := h; rfl) | (obtain ⟨_, _, _, _, _, _, _, _, rfl, _⟩ := h; rfl) | (obtain ⟨_, _, _, _, _, _, _, _, _, rfl, _⟩ := h; rfl) | (obtain ⟨_, _, _, _, _, _, _, _, _, _, rfl, _⟩ := h; rfl) | (obtain ⟨_, _, _, _, _, _, _, _, _, _, _, rfl, _⟩ := h; rfl) | (obtain ⟨_, _, _, _, _, _, _, _, _, _, _, _, rfl, _⟩ := h; rfl) | (obtain ⟨_, _, _, _, _, _, _, _, _, _, _, _, _, rfl, _⟩ := h; rfl) | (obtain ⟨_, _, _, _, _, _, _, _, _, _, _, _, _, _, rfl, _⟩ := h; rfl) | (obtain ⟨_, _, _, _, _, _, _, _, _, _, _, _, _, _, _, rfl, _⟩ := h; rfl) | (obtain ⟨_, _, _, _, _, _, _, _, _, _, _, _, _, _, _, _, rfl, _⟩ := h; rfl) | (obtain ⟨_, _, _, _, _, _, _, _, _, _, _, _, _, _, _, _, _, rfl, _⟩ := h; rfl) | (obtain ⟨_, _, _, _, _, _, _, _, _, _, _, _, _, _, _, _, _, _, rfl, _⟩ := h; rfl) | (obtain ⟨_, _, _, _, _, _, _, _, _, _, _, _, _, _, _, _, _, _, _, rfl, _⟩ := h; rfl) | (obtain ⟨_, _, _, _, _, _, _, _, _, _, _, _, _, _, _, _, _, _, _, _, rfl, _⟩ := h; rfl) | (obtain ⟨_, _, _, _, _, _, _, _, _, _, _, _, _, _, _, _, _, _, _, _, _, rfl, _⟩ := h; rfl) | (obtain ⟨_, _, _, _, _, _, _, _, _, _, _, _, _, _, _, _, _, _, _, _, _, _, rfl, _⟩ := h; rfl) | (obtain ⟨_, _, _, _, _, _, _, _, _, _, _, _, _, _, _, _, _, _, _, _, _, _, _, rfl, _⟩ := h; rfl) | (obtain ⟨_, _, _, _, _, _, _, _, _, _, _, _, _, _, _, _, _, _, _, _, _, _, _, _, rfl, _⟩ := h; rfl)) (K11.r_book)
  have G_Ldamaged : FnOk P w K mg base (L2.CX P w) 2 ad.f_Ldamaged ad.d_Ldamaged ["_law_box", "_law_book_here"] (LSp ⟨K, ttL ad⟩ (spDamB)) := ok_Ldamaged (sp := sps ad) T G_Ltake (by intro ds S Q E h; first | (obtain ⟨rfl, _⟩ := h; rfl) | (obtain ⟨_, rfl, _⟩ := h; rfl) | (obtain ⟨_, _, rfl, _⟩ := h; rfl) | (obtain ⟨_, _, _, rfl, _⟩ := h; rfl) | (obtain ⟨_, _, _, _, rfl, _⟩ := h; rfl) | (obtain ⟨_, _, _, _, _, rfl, _⟩ := h; rfl) | (obtain ⟨_, _, _, _, _, _, rfl, _⟩ := h; rfl) | (obtain ⟨_, _, _, _, _, _, _, rfl, _⟩ := h; rfl) | (obtain ⟨_, _, _, _, _, _, _, _, rfl, _⟩ := h; rfl) | (obtain ⟨_, _, _, _, _, _, _, _, _, rfl, _⟩ := h; rfl) | (obtain ⟨_, _, _, _, _, _, _, _, _, _, rfl, _⟩ := h; rfl) | (obtain ⟨_, _, _, _, _, _, _, _, _, _, _, rfl, _⟩ := h; rfl) | (obtain ⟨_, _, _, _, _, _, _, _, _, _, _, _, rfl, _⟩ := h; rfl) | (obtain ⟨_, _, _, _, _, _, _, _, _, _, _, _, _, rfl, _⟩ := h; rfl) | (obtain ⟨_, _, _, _, _, _, _, _, _, _, _, _, _, _, rfl, _⟩ := h; rfl) | (obtain ⟨_, _, _, _, _, _, _, _, _, _, _, _, _, _, _, rfl, _⟩ := h; rfl) | (obtain ⟨_, _, _, _, _, _, _, _, _, _, _, _, _, _, _, _, rfl, _⟩ := h; rfl) | (obtain ⟨_, _, _, _, _, _, _, _, _, _, _, _, _, _, _, _, _, rfl, _⟩ := h; rfl) | (obtain ⟨_, _, _, _, _, _, _, _, _, _, _, _, _, _, _, _, _, _, rfl, _⟩ := h; rfl) | (obtain ⟨_, _, _, _, _, _, _, _, _, _, _, _, _, _, _, _, _, _, _, rfl, _⟩ := h; rfl) | (obtain ⟨_, _, _, _, _, _, _, _, _, _, _, _, _, _, _, _, _, _, _, _, rfl, _⟩ := h; rfl) | (obtain ⟨_, _, _, _, _, _, _, _, _, _, _, _, _, _, _, _, _, _, _, _, _, rfl, _⟩ := h; rfl) | (obtain ⟨_, _, _, _, _, _, _, _, _, _, _, _, _, _, _, _, _, _, _, _, _, _, rfl, _⟩ := h; rfl) | (obtain ⟨_, _, _, _, _, _, _, _, _, _, _, _, _, _, _, _, _, _, _, _, _, _, _, rfl, _⟩ := h; rfl) | (obtain ⟨_, _, _, _, _, _, _, _, _, _, _, _, _, _, _, _, _, _, _, _, _, _, _, _, rfl, _⟩ := h; rfl)) (r_damaged)
  have G_Ldefect : FnOk P w K mg base (L2.CX P w) 1 ad.f_Ldefect ad.d_Ldefect ["_law_book_here"] (LSp ⟨K, ttL ad⟩ (spDefectL)) := ok_Ldefect (sp := sps ad) T  (by intro ds S Q E h; first | (obtain ⟨rfl, _⟩ := h; rfl) | (obtain ⟨_, rfl, _⟩ := h; rfl) | (obtain ⟨_, _, rfl, _⟩ := h; rfl) | (obtain ⟨_, _, _, rfl, _⟩ := h; rfl) | (obtain ⟨_, _, _, _, rfl, _⟩ := h; rfl) | (obtain ⟨_, _, _, _, _, rfl, _⟩ := h; rfl) | (obtain ⟨_, _, _, _, _, _, rfl, _⟩ := h; rfl) | (obtain ⟨_, _, _, _, _, _, _, rfl, _⟩ := h; rfl) | (obtain ⟨_, _, _, _, _, _, _, _, rfl, _⟩ := h; rfl) | (obtain ⟨_, _, _, _, _, _, _, _, _, rfl, _⟩ := h; rfl) | (obtain ⟨_, _, _, _, _, _, _, _, _, _, rfl, _⟩ := h; rfl) | (obtain ⟨_, _, _, _, _, _, _, _, _, _, _, rfl, _⟩ := h; rfl) | (obtain ⟨_, _, _, _, _, _, _, _, _, _, _, _, rfl, _⟩ := h; rfl) | (obtain ⟨_, _, _, _, _, _, _, _, _, _, _, _, _, rfl, _⟩ := h; rfl) | (obtain ⟨_, _, _, _, _, _, _, _, _, _, _, _, _, _, rfl, _⟩ := h; rfl) | (obtain ⟨_, _, _, _, _, _, _, _, _, _, _, _, _, _, _, rfl, _⟩ := h; rfl) | (obtain ⟨_, _, _, _, _, _, _, _, _, _, _, _, _, _, _, _, rfl, _⟩ := h; rfl) | (obtain ⟨_, _, _, _, _, _, _, _, _, _, _, _, _, _, _, _, _, rfl, _⟩ := h; rfl) | (obtain ⟨_, _, _, _, _, _, _, _, _, _, _, _, _, _, _, _, _, _, rfl, _⟩ := h; rfl) | (obtain ⟨_, _, _, _, _, _, _, _, _, _, _, _, _, _, _, _, _, _, _, rfl, _⟩ := h; rfl) | (obtain ⟨_, _, _, _, _, _, _, _, _, _, _, _, _, _, _, _, _, _, _, _, rfl, _⟩ := h; rfl) | (obtain ⟨_, _, _, _, _, _, _, _, _, _, _, _, _, _, _, _, _, _, _, _, _, rfl, _⟩ := h; rfl) | (obtain ⟨_, _, _, _, _, _, _, _, _, _, _, _, _, _, _, _, _, _, _, _, _, _, rfl, _⟩ := h; rfl) | (obtain ⟨_, _, _, _, _, _, _, _, _, _, _, _, _, _, _, _, _, _, _, _, _, _, _, rfl, _⟩ := h; rfl) | (obtain ⟨_, _, _, _, _, _, _, _, _, _, _, _, _, _, _, _, _, _, _, _, _, _, _, _, rfl, _⟩ := h; rfl)) (r_defect)
  have G_Lreached : FnOk P w K mg base (L2.CX P w) 1 ad.f_Lreached ad.d_Lreached ["_law_book_here"] (LSp ⟨K, ttL ad⟩ (K11.spReached)) := ok_Lreached (sp := sps ad) T  (by intro ds S Q E h; first | (obtain ⟨rfl, _⟩ := h; rfl) | (obtain ⟨_, rfl, _⟩ := h; rfl) | (obtain ⟨_, _, rfl, _⟩ := h; rfl) | (obtain ⟨_, _, _, rfl, _⟩ := h; rfl) | (obtain ⟨_, _, _, _, rfl, _⟩ := h; rfl) | (obtain ⟨_, _, _, _, _, rfl, _⟩ := h; rfl) | (obtain ⟨_, _, _, _, _, _, rfl, _⟩ := h; rfl) | (obtain ⟨_, _, _, _, _, _, _, rfl, _⟩ := h; rfl) | (obtain ⟨_, _, _, _, _, _, _, _, rfl, _⟩ := h; rfl) | (obtain ⟨_, _, _, _, _, _, _, _, _, rfl, _⟩ := h; rfl) | (obtain ⟨_, _, _, _, _, _, _, _, _, _, rfl, _⟩ := h; rfl) | (obtain ⟨_, _, _, _, _, _, _, _, _, _, _, rfl, _⟩ := h; rfl) | (obtain ⟨_, _, _, _, _, _, _, _, _, _, _, _, rfl, _⟩ := h; rfl) | (obtain ⟨_, _, _, _, _, _, _, _, _, _, _, _, _, rfl, _⟩ := h; rfl) | (obtain ⟨_, _, _, _, _, _, _, _, _, _, _, _, _, _, rfl, _⟩ := h; rfl) | (obtain ⟨_, _, _, _, _, _, _, _, _, _, _, _, _, _, _, rfl, _⟩ := h; rfl) | (obtain ⟨_, _, _, _, _, _, _, _, _, _, _, _, _, _, _, _, rfl, _⟩ := h; rfl) | (obtain ⟨_, _, _, _, _, _, _, _, _, _, _, _, _, _, _, _, _, rfl, _⟩ := h; rfl) | (obtain ⟨_, _, _, _, _, _, _, _, _, _, _, _, _, _, _, _, _, _, rfl, _⟩ := h; rfl) | (obtain ⟨_, _, _, _, _, _, _, _, _, _, _, _, _, _, _, _, _, _, _, rfl, _⟩ := h; rfl) | (obtain ⟨_, _, _, _, _, _, _, _, _, _, _, _, _, _, _, _, _, _, _, _, rfl, _⟩ := h; rfl) | (obtain ⟨_, _, _, _, _, _, _, _, _, _, _, _, _, _, _, _, _, _, _, _, _, rfl, _⟩ := h; rfl) | (obtain ⟨_, _, _, _, _, _, _, _, _, _, _, _, _, _, _, _, _, _, _, _, _, _, rfl, _⟩ := h; rfl) | (obtain ⟨_, _, _, _, _, _, _, _, _, _, _, _, _, _, _, _, _, _, _, _, _, _, _, rfl, _⟩ := h; rfl) | (obtain ⟨_, _, _, _, _, _, _, _, _, _, _, _, _, _, _, _, _, _, _, _, _, _, _, _, rfl, _⟩ := h; rfl)) (K11.r_reached)
  have G_is_word : FnOk P w K mg base (L2.CX P w) 1 ad.f_is_word ad.d_is_word ["item"] (LSp ⟨K, ttL ad⟩ (K20.spIsWord)) := ok_is_word (sp := sps ad) T  (by intro ds S Q E h; first | (obtain ⟨rfl, _⟩ := h; rfl) | (obtain ⟨_, rfl, _⟩ := h; rfl) | (obtain ⟨_, _, rfl, _⟩ := h; rfl) | (obtain ⟨_, _, _, rfl, _⟩ := h; rfl) | (obtain ⟨_, _, _, _, rfl, _⟩ := h; rfl) | (obtain ⟨_, _, _, _, _, rfl, _⟩ := h; rfl) | (obtain ⟨_, _, _, _, _, _, rfl, _⟩ := h; rfl) | (obtain ⟨_, _, _, _, _, _, _, rfl, _⟩ := h; rfl) | (obtain ⟨_, _, _, _, _, _, _, _, rfl, _⟩ := h; rfl) | (obtain ⟨_, _, _, _, _, _, _, _, _, rfl, _⟩ := h; rfl) | (obtain ⟨_, _, _, _, _, _, _, _, _, _, rfl, _⟩ := h; rfl) | (obtain ⟨_, _, _, _, _, _, _, _, _, _, _, rfl, _⟩ := h; rfl) | (obtain ⟨_, _, _, _, _, _, _, _, _, _, _, _, rfl, _⟩ := h; rfl) | (obtain ⟨_, _, _, _, _, _, _, _, _, _, _, _, _, rfl, _⟩ := h; rfl) | (obtain ⟨_, _, _, _, _, _, _, _, _, _, _, _, _, _, rfl, _⟩ := h; rfl) | (obtain ⟨_, _, _, _, _, _, _, _, _, _, _, _, _, _, _, rfl, _⟩ := h; rfl) | (obtain ⟨_, _, _, _, _, _, _, _, _, _, _, _, _, _, _, _, rfl, _⟩ := h; rfl) | (obtain ⟨_, _, _, _, _, _, _, _, _, _, _, _, _, _, _, _, _, rfl, _⟩ := h; rfl) | (obtain ⟨_, _, _, _, _, _, _, _, _, _, _, _, _, _, _, _, _, _, rfl, _⟩ := h; rfl) | (obtain ⟨_, _, _, _, _, _, _, _, _, _, _, _, _, _, _, _, _, _, _, rfl, _⟩ := h; rfl) | (obtain ⟨_, _, _, _, _, _, _, _, _, _, _, _, _, _, _, _, _, _, _, _, rfl, _⟩ := h; rfl) | (obtain ⟨_, _, _, _, _, _, _, _, _, _, _, _, _, _, _, _, _, _, _, _, _, rfl, _⟩ := h; rfl) | (obtain ⟨_, _, _, _, _, _, _, _, _, _, _, _, _, _, _, _, _, _, _, _, _, _, rfl, _⟩ := h; rfl) | (obtain ⟨_, _, _, _, _, _, _, _, _, _, _, _, _, _, _, _, _, _, _, _, _, _, _, rfl, _⟩ := h; rfl) | (obtain ⟨_, _, _, _, _, _, _, _, _, _, _, _, _, _, _, _, _, _, _, _, _, _, _, _, rfl, _⟩ := h; rfl)) (K20.r_is_word)
  have G_is_valid_item : FnOk P w K mg base (L2.CX P w) 2 ad.f_is_valid_item ad.d_is_valid_item ["book", "refrain", "item"] (LSp ⟨K, ttL ad⟩ (K20.spIsValidItem)) := ok_is_valid_item (sp := sps ad) T G_is_word (by intro ds S Q E h; first | (obtain ⟨rfl, _⟩ := h; rfl) | (obtain ⟨_, rfl, _⟩ := h; rfl) | (obtain ⟨_, _, rfl, _⟩ := h; rfl) | (obtain ⟨_, _, _, rfl, _⟩ := h; rfl) | (obtain ⟨_, _, _, _, rfl, _⟩ := h; rfl) | (obtain ⟨_, _, _, _, _, rfl, _⟩ := h; rfl) | (obtain ⟨_, _, _, _, _, _, rfl, _⟩ := h; rfl) | (obtain ⟨_, _, _, _, _, _, _, rfl, _⟩ := h; rfl) | (obtain ⟨_, _, _, _, _, _, _, _, rfl, _⟩ := h; rfl) | (obtain ⟨_, _, _, _, _, _, _, _, _, rfl, _⟩ := h; rfl) | (obtain ⟨_, _, _, _, _, _, _, _, _, _, rfl, _⟩ := h; rfl) | (obtain ⟨_, _, _, _, _, _, _, _, _, _, _, rfl, _⟩ := h; rfl) | (obtain ⟨_, _, _, _, _, _, _, _, _, _, _, _, rfl, _⟩ := h; rfl) | (obtain ⟨_, _, _, _, _, _, _, _, _, _, _, _, _, rfl, _⟩ := h; rfl) | (obtain ⟨_, _, _, _, _, _, _, _, _, _, _, _, _, _, rfl, _⟩ := h; rfl) | (obtain ⟨_, _, _, _, _, _, _, _, _, _, _, _, _, _, _, rfl, _⟩ := h; rfl) | (obtain ⟨_, _, _, _, _, _, _, _, _, _, _, _, _, _, _, _, rfl, _⟩ := h; rfl) | (obtain ⟨_, _, _, _, _, _, _, _, _, _, _, _, _, _, _, _, _, rfl, _⟩ := h; rfl) | (obtain ⟨_, _, _, _, _, _, _, _, _, _, _, _, _, _, _, _, _, _, rfl, _⟩ := h; rfl) | (obtain ⟨_, _, _, _, _, _, _, _, _, _, _, _, _, _, _, _, _, _, _, rfl, _⟩ := h; rfl) | (obtain ⟨_, _, _, _, _, _, _, _, _, _, _, _, _, _, _, _, _, _, _, _, rfl, _⟩ := h; rfl) | (obtain ⟨_, _, _, _, _, _, _, _, _, _, _, _, _, _, _, _, _, _, _, _, _, rfl, _⟩ := h; rfl) | (obtain ⟨_, _, _, _, _, _, _, _, _, _, _, _, _, _, _, _, _, _, _, _, _, _, rfl, _⟩ := h; rfl) | (obtain ⟨_, _, _, _, _, _, _, _, _, _, _, _, _, _, _, _, _, _, _, _, _, _, _, rfl, _⟩ := h; rfl) | (obtain ⟨_, _, _, _, _, _, _, _, _, _, _, _, _, _, _, _, _, _, _, _, _, _, _, _, rfl, _⟩ := h; rfl)) (K20.r_is_valid_item)
  have G_first_invalid_verse : FnOk P w K mg base (L2.CX P w) 3 ad.f_first_invalid_verse ad.d_first_invalid_verse ["book", "refrain"] (LSp ⟨K, ttL ad⟩ (K20.spFirstBad)) := ok_first_invalid_verse (sp := sps ad) T G_is_valid_item (by intro ds S Q E h; first | (obtain ⟨rfl, _⟩ := h; rfl) | (obtain ⟨_, rfl, _⟩ := h; rfl) | (obtain ⟨_, _, rfl, _⟩ := h; rfl) | (obtain ⟨_, _, _, rfl, _⟩ := h; rfl) | (obtain ⟨_, _, _, _, rfl, _⟩ := h; rfl) | (obtain ⟨_, _, _, _, _, rfl, _⟩ := h; rfl) | (obtain ⟨_, _, _, _, _, _, rfl, _⟩ := h; rfl) | (obtain ⟨_, _, _, _, _, _, _, rfl, _⟩ := h; rfl) | (obtain ⟨_, _, _, _, _, _, _, _, rfl, _⟩ := h; rfl) | (obtain ⟨_, _, _, _, _, _, _, _, _, rfl, _⟩ := h; rfl) | (obtain ⟨_, _, _, _, _, _, _, _, _, _, rfl, _⟩ := h; rfl) | (obtain ⟨_, _, _, _, _, _, _, _, _, _, _, rfl, _⟩ := h; rfl) | (obtain ⟨_, _, _, _, _, _, _, _, _, _, _, _, rfl, _⟩ := h; rfl) | (obtain ⟨_, _, _, _, _, _, _, _, _, _, _, _, _, rfl, _⟩ := h; rfl) | (obtain ⟨_, _, _, _, _, _, _, _, _, _, _, _, _, _, rfl, _⟩ := h; rfl) | (obtain ⟨_, _, _, _, _, _, _, _, _, _, _, _, _, _, _, rfl, _⟩ := h; rfl) | (obtain ⟨_, _, _, _, _, _, _, _, _, _, _, _, _, _, _, _, rfl, _⟩ := h; rfl) | (obtain ⟨_, _, _, _, _, _, _, _, _, _, _, _, _, _, _, _, _, rfl, _⟩ := h; rfl) | (obtain ⟨_, _, _, _, _, _, _, _, _, _, _, _, _, _, _, _, _, _, rfl, _⟩ := h; rfl) | (obtain ⟨_, _, _, _, _, _, _, _, _, _, _, _, _, _, _, _, _, _, _, rfl, _⟩ := h; rfl) | (obtain ⟨_, _, _, _, _, _, _, _, _, _, _, _, _, _, _, _, _, _, _, _, rfl, _⟩ := h; rfl) | (obtain ⟨_, _, _, _, _, _, _, _, _, _, _, _, _, _, _, _, _, _, _, _, _, rfl, _⟩ := h; rfl) | (obtain ⟨_, _, _, _, _, _, _, _, _, _, _, _, _, _, _, _, _, _, _, _, _, _, rfl, _⟩ := h; rfl) | (obtain ⟨_, _, _, _, _, _, _, _, _, _, _, _, _, _, _, _, _, _, _, _, _, _, _, rfl, _⟩ := h; rfl) | (obtain ⟨_, _, _, _, _, _, _, _, _, _, _, _, _, _, _, _, _, _, _, _, _, _, _, _, rfl, _⟩ := h; rfl)) (K20.r_first_invalid_verse)
  have G_validate_book : FnOk P w K mg base (L2.CX P w) 4 ad.f_validate_book ad.d_validate_book ["book"] (LSp ⟨K, ttL ad⟩ (K16.spVBook ad.c_BadBook)) := ok_validate_book (sp := sps ad) T G_first_invalid_verse GX_BadBook (by intro ds S Q E h; first | (obtain ⟨rfl, _⟩ := h; rfl) | (obtain ⟨_, rfl, _⟩ := h; rfl) | (obtain ⟨_, _, rfl, _⟩ := h; rfl) | (obtain ⟨_, _, _, rfl, _⟩ := h; rfl) | (obtain ⟨_, _, _, _, rfl, _⟩ := h; rfl) | (obtain ⟨_, _, _, _, _, rfl, _⟩ := h; rfl) | (obtain ⟨_, _, _, _, _, _, rfl, _⟩ := h; rfl) | (obtain ⟨_, _, _, _, _, _, _, rfl, _⟩ := h; rfl) | (obtain ⟨_, _, _, _, _, _, _, _, rfl, _⟩ := h; rfl) | (obtain ⟨_, _, _, _, _, _, _, _, _, rfl, _⟩ := h; rfl) | (obtain ⟨_, _, _, _, _, _, _, _, _, _, rfl, _⟩ := h; rfl) | (obtain ⟨_, _, _, _, _, _, _, _, _, _, _, rfl, _⟩ := h; rfl) | (obtain ⟨_, _, _, _, _, _, _, _, _, _, _, _, rfl, _⟩ := h; rfl) | (obtain ⟨_, _, _, _, _, _, _, _, _, _, _, _, _, rfl, _⟩ := h; rfl) | (obtain ⟨_, _, _, _, _, _, _, _, _, _, _, _, _, _, rfl, _⟩ := h; rfl) | (obtain ⟨_, _, _, _, _, _, _, _, _, _, _, _, _, _, _, rfl, _⟩ := h; rfl) | (obtain ⟨_, _, _, _, _, _, _, _, _, _, _, _, _, _, _, _, rfl, _⟩ := h; rfl) | (obtain ⟨_, _, _, _, _, _, _, _, _, _, _, _, _, _, _, _, _, rfl, _⟩ := h; rfl) | (obtain ⟨_, _, _, _, _, _, _, _, _, _, _, _, _, _, _, _, _, _, rfl, _⟩ := h; rfl) | (obtain ⟨_, _, _, _, _, _, _, _, _, _, _, _, _, _, _, _, _, _, _, rfl, _⟩ := h; rfl) | (obtain ⟨_, _, _, _, _, _, _, _, _, _, _, _, _, _, _, _, _, _, _, _, rfl, _⟩ := h; rfl) | (obtain ⟨_, _, _, _, _, _, _, _, _, _, _, _, _, _, _, _, _, _, _, _, _, rfl, _⟩ := h; rfl) | (obtain ⟨_, _, _, _, _, _, _, _, _, _, _, _, _, _, _, _, _, _, _, _, _, _, rfl, _⟩ := h; rfl) | (obtain ⟨_, _, _, _, _, _, _, _, _, _, _, _, _, _, _, _, _, _, _, _, _, _, _, rfl, _⟩ := h; rfl) | (obtain ⟨_, _, _, _, _, _, _, _, _, _, _, _, _, _, _, _, _, _, _, _, _, _, _, _, rfl, _⟩ := h; rfl)) (K16.r_validate_book _)
  have G_initial_state : FnOk P w K mg base (L2.CX P w) 5 ad.f_initial_state ad.d_initial_state ["book"] (LSp ⟨K, ttL ad⟩ (spInit ad.c_BadBook)) := ok_initial_state (sp := sps ad) T G_validate_book (by intro ds S Q E h; first | (obtain ⟨rfl, _⟩ := h; rfl) | (obtain ⟨_, rfl, _⟩ := h; rfl) | (obtain ⟨_, _, rfl, _⟩ := h; rfl) | (obtain ⟨_, _, _, rfl, _⟩ := h; rfl) | (obtain ⟨_, _, _, _, rfl, _⟩ := h; rfl) | (obtain ⟨_, _, _, _, _, rfl, _⟩ := h; rfl) | (obtain ⟨_, _, _, _, _, _, rfl, _⟩ := h; rfl) | (obtain ⟨_, _, _, _, _, _, _, rfl, _⟩ := h; rfl) | (obtain ⟨_, _, _, _, _, _, _, _, rfl, _⟩ := h; rfl) | (obtain ⟨_, _, _, _, _, _, _, _, _, rfl, _⟩ := h; rfl) | (obtain ⟨_, _, _, _, _, _, _, _, _, _, rfl, _⟩ := h; rfl) | (obtain ⟨_, _, _, _, _, _, _, _, _, _, _, rfl, _⟩ := h; rfl) | (obtain ⟨_, _, _, _, _, _, _, _, _, _, _, _, rfl, _⟩ := h; rfl) | (obtain ⟨_, _, _, _, _, _, _, _, _, _, _, _, _, rfl, _⟩ := h; rfl) | (obtain ⟨_, _, _, _, _, _, _, _, _, _, _, _, _, _, rfl, _⟩ := h; rfl) | (obtain ⟨_, _, _, _, _, _, _, _, _, _, _, _, _, _, _, rfl, _⟩ := h; rfl) | (obtain ⟨_, _, _, _, _, _, _, _, _, _, _, _, _, _, _, _, rfl, _⟩ := h; rfl) | (obtain ⟨_, _, _, _, _, _, _, _, _, _, _, _, _, _, _, _, _, rfl, _⟩ := h; rfl) | (obtain ⟨_, _, _, _, _, _, _, _, _, _, _, _, _, _, _, _, _, _, rfl, _⟩ := h; rfl) | (obtain ⟨_, _, _, _, _, _, _, _, _, _, _, _, _, _, _, _, _, _, _, rfl, _⟩ := h; rfl) | (obtain ⟨_, _, _, _, _, _, _, _, _, _, _, _, _, _, _, _, _, _, _, _, rfl, _⟩ := h; rfl) | (obtain ⟨_, _, _, _, _, _, _, _, _, _, _, _, _, _, _, _, _, _, _, _, _, rfl, _⟩ := h; rfl) | (obtain ⟨_, _, _, _, _, _, _, _, _, _, _, _, _, _, _, _, _, _, _, _, _, _, rfl, _⟩ := h; rfl) | (obtain ⟨_, _, _, _, _, _, _, _, _, _, _, _, _, _, _, _, _, _, _, _, _, _, _, rfl, _⟩ := h; rfl) | (obtain ⟨_, _, _, _, _, _, _, _, _, _, _, _, _, _, _, _, _, _, _, _, _, _, _, _, rfl, _⟩ := h; rfl)) (r_init _)
  have G_all_items : FnOk P w K mg base (L2.CX P w) 1 ad.f_all_items ad.d_all_items ["verses"] (LSp ⟨K, ttL ad⟩ (K09.spAllItems)) := ok_all_items (sp := sps ad) T  (by intro ds S Q E h; first | (obtain ⟨rfl, _⟩ := h; rfl) | (obtain ⟨_, rfl, _⟩ := h; rfl) | (obtain ⟨_, _, rfl, _⟩ := h; rfl) | (obtain ⟨_, _, _, rfl, _⟩ := h; rfl) | (obtain ⟨_, _, _, _, rfl, _⟩ := h; rfl) | (obtain ⟨_, _, _, _, _, rfl, _⟩ := h; rfl) | (obtain ⟨_, _, _, _, _, _, rfl, _⟩ := h; rfl) | (obtain ⟨_, _, _, _, _, _, _, rfl, _⟩ := h; rfl) | (obtain ⟨_, _, _, _, _, _, _, _, rfl, _⟩ := h; rfl) | (obtain ⟨_, _, _, _, _, _, _, _, _, rfl, _⟩ := h; rfl) | (obtain ⟨_, _, _, _, _, _, _, _, _, _, rfl, _⟩ := h; rfl) | (obtain ⟨_, _, _, _, _, _, _, _, _, _, _, rfl, _⟩ := h; rfl) | (obtain ⟨_, _, _, _, _, _, _, _, _, _, _, _, rfl, _⟩ := h; rfl) | (obtain ⟨_, _, _, _, _, _, _, _, _, _, _, _, _, rfl, _⟩ := h; rfl) | (obtain ⟨_, _, _, _, _, _, _, _, _, _, _, _, _, _, rfl, _⟩ := h; rfl) | (obtain ⟨_, _, _, _, _, _, _, _, _, _, _, _, _, _, _, rfl, _⟩ := h; rfl) | (obtain ⟨_, _, _, _, _, _, _, _, _, _, _, _, _, _, _, _, rfl, _⟩ := h; rfl) | (obtain ⟨_, _, _, _, _, _, _, _, _, _, _, _, _, _, _, _, _, rfl, _⟩ := h; rfl) | (obtain ⟨_, _, _, _, _, _, _, _, _, _, _, _, _, _, _, _, _, _, rfl, _⟩ := h; rfl) | (obtain ⟨_, _, _, _, _, _, _, _, _, _, _, _, _, _, _, _, _, _, _, rfl, _⟩ := h; rfl) | (obtain ⟨_, _, _, _, _, _, _, _, _, _, _, _, _, _, _, _, _, _, _, _, rfl, _⟩ := h; rfl) | (obtain ⟨_, _, _, _, _, _, _, _, _, _, _, _, _, _, _, _, _, _, _, _, _, rfl, _⟩ := h; rfl) | (obtain ⟨_, _, _, _, _, _, _, _, _, _, _, _, _, _, _, _, _, _, _, _, _, _, rfl, _⟩ := h; rfl) | (obtain ⟨_, _, _, _, _, _, _, _, _, _, _, _, _, _, _, _, _, _, _, _, _, _, _, rfl, _⟩ := h; rfl) | (obtain ⟨_, _, _, _, _, _, _, _, _, _, _, _, _, _, _, _, _, _, _, _, _, _, _, _, rfl, _⟩ := h; rfl)) (K09.r_all_items)
  have G_find_reachable : FnOk P w K mg base (L2.CX P w) 2 ad.f_find_reachable ad.d_find_reachable ["book"] (LSp ⟨K, ttL ad⟩ (K09.spReach)) := ok_find_reachable (sp := sps ad) T G_all_items G_is_word (by intro ds S Q E h; first | (obtain ⟨rfl, _⟩ := h; rfl) | (obtain ⟨_, rfl, _⟩ := h; rfl) | (obtain ⟨_, _, rfl, _⟩ := h; rfl) | (obtain ⟨_, _, _, rfl, _⟩ := h; rfl) | (obtain ⟨_, _, _, _, rfl, _⟩ := h; rfl) | (obtain ⟨_, _, _, _, _, rfl, _⟩ := h; rfl) | (obtain ⟨_, _, _, _, _, _, rfl, _⟩ := h; rfl) | (obtain ⟨_, _, _, _, _, _, _, rfl, _⟩ := h; rfl) | (obtain ⟨_, _, _, _, _, _, _, _, rfl, _⟩ := h; rfl) | (obtain ⟨_, _, _, _, _, _, _, _, _, rfl, _⟩ := h; rfl) | (obtain ⟨_, _, _, _, _, _, _, _, _, _, rfl, _⟩ := h; rfl) | (obtain ⟨_, _, _, _, _, _, _, _, _, _, _, rfl, _⟩ := h; rfl) | (obtain ⟨_, _, _, _, _, _, _, _, _, _, _, _, rfl, _⟩ := h; rfl) | (obtain ⟨_, _, _, _, _, _, _, _, _, _, _, _, _, rfl, _⟩ := h; rfl) | (obtain ⟨_, _, _, _, _, _, _, _, _, _, _, _, _, _, rfl, _⟩ := h; rfl) | (obtain ⟨_, _, _, _, _, _, _, _, _, _, _, _, _, _, _, rfl, _⟩ := h; rfl) | (obtain ⟨_, _, _, _, _, _, _, _, _, _, _, _, _, _, _, _, rfl, _⟩ := h; rfl) | (obtain ⟨_, _, _, _, _, _, _, _, _, _, _, _, _, _, _, _, _, rfl, _⟩ := h; rfl) | (obtain ⟨_, _, _, _, _, _, _, _, _, _, _, _, _, _, _, _, _, _, rfl, _⟩ := h; rfl) | (obtain ⟨_, _, _, _, _, _, _, _, _, _, _, _, _, _, _, _, _, _, _, rfl, _⟩ := h; rfl) | (obtain ⟨_, _, _, _, _, _, _, _, _, _, _, _, _, _, _, _, _, _, _, _, rfl, _⟩ := h; rfl) | (obtain ⟨_, _, _, _, _, _, _, _, _, _, _, _, _, _, _, _, _, _, _, _, _, rfl, _⟩ := h; rfl) | (obtain ⟨_, _, _, _, _, _, _, _, _, _, _, _, _, _, _, _, _, _, _, _, _, _, rfl, _⟩ := h; rfl) | (obtain ⟨_, _, _, _, _, _, _, _, _, _, _, _, _, _, _, _, _, _, _, _, _, _, _, rfl, _⟩ := h; rfl) | (obtain ⟨_, _, _, _, _, _, _, _, _, _, _, _, _, _, _, _, _, _, _, _, _, _, _, _, rfl, _⟩ := h; rfl)) (K09.r_reach)
  have G_reachable_refrains : FnOk P w K mg base (L2.CX P w) 5 ad.f_reachable_refrains ad.d_reachable_refrains ["book"] (LSp ⟨K, ttL ad⟩ (spReachR ad.c_BadBook)) := ok_reachable_refrains (sp := sps ad) T G_validate_book G_find_reachable (by intro ds S Q E h; first | (obtain ⟨rfl, _⟩ := h; rfl) | (obtain ⟨_, rfl, _⟩ := h; rfl) | (obtain ⟨_, _, rfl, _⟩ := h; rfl) | (obtain ⟨_, _, _, rfl, _⟩ := h; rfl) | (obtain ⟨_, _, _, _, rfl, _⟩ := h; rfl) | (obtain ⟨_, _, _, _, _, rfl, _⟩ := h; rfl) | (obtain ⟨_, _, _, _, _, _, rfl, _⟩ := h; rfl) | (obtain ⟨_, _, _, _, _, _, _, rfl, _⟩ := h; rfl) | (obtain ⟨_, _, _, _, _, _, _, _, rfl, _⟩ := h; rfl) | (obtain ⟨_, _, _, _, _, _, _, _, _, rfl, _⟩ := h; rfl) | (obtain ⟨_, _, _, _, _, _, _, _, _, _, rfl, _⟩ := h; rfl) | (obtain ⟨_, _, _, _, _, _, _, _, _, _, _, rfl, _⟩ := h; rfl) | (obtain ⟨_, _, _, _, _, _, _, _, _, _, _, _, rfl, _⟩ := h; rfl) | (obtain ⟨_, _, _, _, _, _, _, _, _, _, _, _, _, rfl, _⟩ := h; rfl) | (obtain ⟨_, _, _, _, _, _, _, _, _, _, _, _, _, _, rfl, _⟩ := h; rfl) | (obtain ⟨_, _, _, _, _, _, _, _, _, _, _, _, _, _, _, rfl, _⟩ := h; rfl) | (obtain ⟨_, _, _, _, _, _, _, _, _, _, _, _, _, _, _, _, rfl, _⟩ := h; rfl) | (obtain ⟨_, _, _, _, _, _, _, _, _, _, _, _, _, _, _, _, _, rfl, _⟩ := h; rfl) | (obtain ⟨_, _, _, _, _, _, _, _, _, _, _, _, _, _, _, _, _, _, rfl, _⟩ := h; rfl) | (obtain ⟨_, _, _, _, _, _, _, _, _, _, _, _, _, _, _, _, _, _, _, rfl, _⟩ := h; rfl) | (obtain ⟨_, _, _, _, _, _, _, _, _, _, _, _, _, _, _, _, _, _, _, _, rfl, _⟩ := h; rfl) | (obtain ⟨_, _, _, _, _, _, _, _, _, _, _, _, _, _, _, _, _, _, _, _, _, rfl, _⟩ := h; rfl) | (obtain ⟨_, _, _, _, _, _, _, _, _, _, _, _, _, _, _, _, _, _, _, _, _, _, rfl, _⟩ := h; rfl) | (obtain ⟨_, _, _, _, _, _, _, _, _, _, _, _, _, _, _, _, _, _, _, _, _, _, _, rfl, _⟩ := h; rfl) | (obtain ⟨_, _, _, _, _, _, _, _, _, _, _, _, _, _, _, _, _, _, _, _, _, _, _, _, rfl, _⟩ := h; rfl)) (r_reachR _)
  have H_Lalike_0 : FnOk P w K mg base (L2.CX P w) 1 ad.f_Lalike ad.d_Lalike ["_law_found", "_law_due"] (LSp ⟨K, ttL ad⟩ (K03.spAl 0)) := ok_Lalike (sp := { sps ad with Lalike := K03.spAl 0, Lalike_rec := spNone }) (k := 0) (Nat.zero_le _) T ok_none (by intro ds S Q E h; first | (obtain ⟨rfl, _⟩ := h; rfl) | (obtain ⟨_, rfl, _⟩ := h; rfl) | (obtain ⟨_, _, rfl, _⟩ := h; rfl) | (obtain ⟨_, _, _, rfl, _⟩ := h; rfl) | (obtain ⟨_, _, _, _, rfl, _⟩ := h; rfl) | (obtain ⟨_, _, _, _, _, rfl, _⟩ := h; rfl) | (obtain ⟨_, _, _, _, _, _, rfl, _⟩ := h; rfl) | (obtain ⟨_, _, _, _, _, _, _, rfl, _⟩ := h; rfl) | (obtain ⟨_, _, _, _, _, _, _, _, rfl, _⟩ := h; rfl) | (obtain ⟨_, _, _, _, _, _, _, _, _, rfl, _⟩ := h; rfl) | (obtain ⟨_, _, _, _, _, _, _, _, _, _, rfl, _⟩ := h; rfl) | (obtain ⟨_, _, _, _, _, _, _, _, _, _, _, rfl, _⟩ := h; rfl) | (obtain ⟨_, _, _, _, _, _, _, _, _, _, _, _, rfl, _⟩ := h; rfl) | (obtain ⟨_, _, _, _, _, _, _, _, _, _, _, _, _, rfl, _⟩ := h; rfl) | (obtain ⟨_, _, _, _, _, _, _, _, _, _, _, _, _, _, rfl, _⟩ := h; rfl) | (obtain ⟨_, _, _, _, _, _, _, _, _, _, _, _, _, _, _, rfl, _⟩ := h; rfl) | (obtain ⟨_, _, _, _, _, _, _, _, _, _, _, _, _, _, _, _, rfl, _⟩ := h; rfl) | (obtain ⟨_, _, _, _, _, _, _, _, _, _, _, _, _, _, _, _, _, rfl, _⟩ := h; rfl) | (obtain ⟨_, _, _, _, _, _, _, _, _, _, _, _, _, _, _, _, _, _, rfl, _⟩ := h; rfl) | (obtain ⟨_, _, _, _, _, _, _, _, _, _, _, _, _, _, _, _, _, _, _, rfl, _⟩ := h; rfl) | (obtain ⟨_, _, _, _, _, _, _, _, _, _, _, _, _, _, _, _, _, _, _, _, rfl, _⟩ := h; rfl) | (obtain ⟨_, _, _, _, _, _, _, _, _, _, _, _, _, _, _, _, _, _, _, _, _, rfl, _⟩ := h; rfl) | (obtain ⟨_, _, _, _, _, _, _, _, _, _, _, _, _, _, _, _, _, _, _, _, _, _, rfl, _⟩ := h; rfl) | (obtain ⟨_, _, _, _, _, _, _, _, _, _, _, _, _, _, _, _, _, _, _, _, _, _, _, rfl, _⟩ := h; rfl) | (obtain ⟨_, _, _, _, _, _, _, _, _, _, _, _, _, _, _, _, _, _, _, _, _, _, _, _, rfl, _⟩ := h; rfl)) (K03.r_al0 _)
  have H_Lalike_1 : FnOk P w K mg base (L2.CX P w) 2 ad.f_Lalike ad.d_Lalike ["_law_found", "_law_due"] (LSp ⟨K, ttL ad⟩ (K03.spAl 1)) := ok_Lalike (sp := { sps ad with Lalike := K03.spAl 1, Lalike_rec := K03.spAl 0 }) (k := 1) (Nat.zero_le _) T H_Lalike_0 (by intro ds S Q E h; first | (obtain ⟨rfl, _⟩ := h; rfl) | (obtain ⟨_, rfl, _⟩ := h; rfl) | (obtain ⟨_, _, rfl, _⟩ := h; rfl) | (obtain ⟨_, _, _, rfl, _⟩ := h; rfl) | (obtain ⟨_, _, _, _, rfl, _⟩ := h; rfl) | (obtain ⟨_, _, _, _, _, rfl, _⟩ := h; rfl) | (obtain ⟨_, _, _, _, _, _, rfl, _⟩ := h; rfl) | (obtain ⟨_, _, _, _, _, _, _, rfl, _⟩ := h; rfl) | (obtain ⟨_, _, _, _, _, _, _, _, rfl, _⟩ := h; rfl) | (obtain ⟨_, _, _, _, _, _, _, _, _, rfl, _⟩ := h; rfl) | (obtain ⟨_, _, _, _, _, _, _, _, _, _, rfl, _⟩ := h; rfl) | (obtain ⟨_, _, _, _, _, _, _, _, _, _, _, rfl, _⟩ := h; rfl) | (obtain ⟨_, _, _, _, _, _, _, _, _, _, _, _, rfl, _⟩ := h; rfl) | (obtain ⟨_, _, _, _, _, _, _, _, _, _, _, _, _, rfl, _⟩ := h; rfl) | (obtain ⟨_, _, _, _, _, _, _, _, _, _, _, _, _, _, rfl, _⟩ := h; rfl) | (obtain ⟨_, _, _, _, _, _, _, _, _, _, _, _, _, _, _, rfl, _⟩ := h; rfl) | (obtain ⟨_, _, _, _, _, _, _, _, _, _, _, _, _, _, _, _, rfl, _⟩ := h; rfl) | (obtain ⟨_, _, _, _, _, _, _, _, _, _, _, _, _, _, _, _, _, rfl, _⟩ := h; rfl) | (obtain ⟨_, _, _, _, _, _, _, _, _, _, _, _, _, _, _, _, _, _, rfl, _⟩ := h; rfl) | (obtain ⟨_, _, _, _, _, _, _, _, _, _, _, _, _, _, _, _, _, _, _, rfl, _⟩ := h; rfl) | (obtain ⟨_, _, _, _, _, _, _, _, _, _, _, _, _, _, _, _, _, _, _, _, rfl, _⟩ := h; rfl) | (obtain ⟨_, _, _, _, _, _, _, _, _, _, _, _, _, _, _, _, _, _, _, _, _, rfl, _⟩ := h; rfl) | (obtain ⟨_, _, _, _, _, _, _, _, _, _, _, _, _, _, _, _, _, _, _, _, _, _, rfl, _⟩ := h; rfl) | (obtain ⟨_, _, _, _, _, _, _, _, _, _, _, _, _, _, _, _, _, _, _, _, _, _, _, rfl, _⟩ := h; rfl) | (obtain ⟨_, _, _, _, _, _, _, _, _, _, _, _, _, _, _, _, _, _, _, _, _, _, _, _, rfl, _⟩ := h; rfl)) (K03.r_al 1)
  have H_Lalike_2 : FnOk P w K mg base (L2.CX P w) 3 ad.f_Lalike ad.d_Lalike ["_law_found", "_law_due"] (LSp ⟨K, ttL ad⟩ (K03.spAl 2)) := ok_Lalike (sp := { sps ad with Lalike := K03.spAl 2, Lalike_rec := K03.spAl 1 }) (k := 2) (Nat.zero_le _) T H_Lalike_1 (by intro ds S Q E h; first | (obtain ⟨rfl, _⟩ := h; rfl) | (obtain ⟨_, rfl, _⟩ := h; rfl) | (obtain ⟨_, _, rfl, _⟩ := h; rfl) | (obtain ⟨_, _, _, rfl, _⟩ := h; rfl) | (obtain ⟨_, _, _, _, rfl, _⟩ := h; rfl) | (obtain ⟨_, _, _, _, _, rfl, _⟩ := h; rfl) | (obtain ⟨_, _, _, _, _, _, rfl, _⟩ := h; rfl) | (obtain ⟨_, _, _, _, _, _, _, rfl, _⟩ := h; rfl) | (obtain ⟨_, _, _, _, _, _, _, _, rfl, _⟩ := h; rfl) | (obtain ⟨_, _, _, _, _, _, _, _, _, rfl, _⟩ := h; rfl) | (obtain ⟨_, _, _, _, _, _, _, _, _, _, rfl, _⟩ := h; rfl) | (obtain ⟨_, _, _, _, _, _, _, _, _, _, _, rfl, _⟩ := h; rfl) | (obtain ⟨_, _, _, _, _, _, _, _, _, _, _, _, rfl, _⟩ := h; rfl) | (obtain ⟨_, _, _, _, _, _, _, _, _, _, _, _, _, rfl, _⟩ := h; rfl) | (obtain ⟨_, _, _, _, _, _, _, _, _, _, _, _, _, _, rfl, _⟩ := h; rfl) | (obtain ⟨_, _, _, _, _, _, _, _, _, _, _, _, _, _, _, rfl, _⟩ := h; rfl) | (obtain ⟨_, _, _, _, _, _, _, _, _, _, _, _, _, _, _, _, rfl, _⟩ := h; rfl) | (obtain ⟨_, _, _, _, _, _, _, _, _, _, _, _, _, _, _, _, _, rfl, _⟩ := h; rfl) | (obtain ⟨_, _, _, _, _, _, _, _, _, _, _, _, _, _, _, _, _, _, rfl, _⟩ := h; rfl) | (obtain ⟨_, _, _, _, _, _, _, _, _, _, _, _, _, _, _, _, _, _, _, rfl, _⟩ := h; rfl) | (obtain ⟨_, _, _, _, _, _, _, _, _, _, _, _, _, _, _, _, _, _, _, _, rfl, _⟩ := h; rfl) | (obtain ⟨_, _, _, _, _, _, _, _, _, _, _, _, _, _, _, _, _, _, _, _, _, rfl, _⟩ := h; rfl) | (obtain ⟨_, _, _, _, _, _, _, _, _, _, _, _, _, _, _, _, _, _, _, _, _, _, rfl, _⟩ := h; rfl) | (obtain ⟨_, _, _, _, _, _, _, _, _, _, _, _, _, _, _, _, _, _, _, _, _, _, _, rfl, _⟩ := h; rfl) | (obtain ⟨_, _, _, _, _, _, _, _, _, _, _, _, _, _, _, _, _, _, _, _, _, _, _, _, rfl, _⟩ := h; rfl)) (K03.r_al 2)
  have H_Lalike_3 : FnOk P w K mg base (L2.CX P w) 4 ad.f_Lalike ad.d_Lalike ["_law_found", "_law_due"] (LSp ⟨K, ttL ad⟩ (K03.spAl 3)) := ok_Lalike (sp := { sps ad with Lalike := K03.spAl 3, Lalike_rec := K03.spAl 2 }) (k := 3) (Nat.zero_le _) T H_Lalike_2 (by intro ds S Q E h; first | (obtain ⟨rfl, _⟩ := h; rfl) | (obtain ⟨_, rfl, _⟩ := h; rfl) | (obtain ⟨_, _, rfl, _⟩ := h; rfl) | (obtain ⟨_, _, _, rfl, _⟩ := h; rfl) | (obtain ⟨_, _, _, _, rfl, _⟩ := h; rfl) | (obtain ⟨_, _, _, _, _, rfl, _⟩ := h; rfl) | (obtain ⟨_, _, _, _, _, _, rfl, _⟩ := h; rfl) | (obtain ⟨_, _, _, _, _, _, _, rfl, _⟩ := h; rfl) | (obtain ⟨_, _, _, _, _, _, _, _, rfl, _⟩ := h; rfl) | (obtain ⟨_, _, _, _, _, _, _, _, _, rfl, _⟩ := h; rfl) | (obtain ⟨_, _, _, _, _, _, _, _, _, _, rfl, _⟩ := h; rfl) | (obtain ⟨_, _, _, _, _, _, _, _, _, _, _, rfl, _⟩ := h; rfl) | (obtain ⟨_, _, _, _, _, _, _, _, _, _, _, _, rfl, _⟩ := h; rfl) | (obtain ⟨_, _, _, _, _, _, _, _, _, _, _, _, _, rfl, _⟩ := h; rfl) | (obtain ⟨_, _, _, _, _, _, _, _, _, _, _, _, _, _, rfl, _⟩ := h; rfl) | (obtain ⟨_, _, _, _, _, _, _, _, _, _, _, _, _, _, _, rfl, _⟩ := h; rfl) | (obtain ⟨_, _, _, _, _, _, _, _, _, _, _, _, _, _, _, _, rfl, _⟩ := h; rfl) | (obtain ⟨_, _, _, _, _, _, _, _, _, _, _, _, _, _, _, _, _, rfl, _⟩ := h; rfl) | (obtain ⟨_, _, _, _, _, _, _, _, _, _, _, _, _, _, _, _, _, _, rfl, _⟩ := h; rfl) | (obtain ⟨_, _, _, _, _, _, _, _, _, _, _, _, _, _, _, _, _, _, _, rfl, _⟩ := h; rfl) | (obtain ⟨_, _, _, _, _, _, _, _, _, _, _, _, _, _, _, _, _, _, _, _, rfl, _⟩ := h; rfl) | (obtain ⟨_, _, _, _, _, _, _, _, _, _, _, _, _, _, _, _, _, _, _, _, _, rfl, _⟩ := h; rfl) | (obtain ⟨_, _, _, _, _, _, _, _, _, _, _, _, _, _, _, _, _, _, _, _, _, _, rfl, _⟩ := h; rfl) | (obtain ⟨_, _, _, _, _, _, _, _, _, _, _, _, _, _, _, _, _, _, _, _, _, _, _, rfl, _⟩ := h; rfl) | (obtain ⟨_, _, _, _, _, _, _, _, _, _, _, _, _, _, _, _, _, _, _, _, _, _, _, _, rfl, _⟩ := h; rfl)) (K03.r_al 3)
  have H_Lalike_4 : FnOk P w K mg base (L2.CX P w) 5 ad.f_Lalike ad.d_Lalike ["_law_found", "_law_due"] (LSp ⟨K, ttL ad⟩ (K03.spAl 4)) := ok_Lalike (sp := { sps ad with Lalike := K03.spAl 4, Lalike_rec := K03.spAl 3 }) (k := 4) (Nat.zero_le _) T H_Lalike_3 (by intro ds S Q E h; first | (obtain ⟨rfl, _⟩ := h; rfl) | (obtain ⟨_, rfl, _⟩ := h; rfl) | (obtain ⟨_, _, rfl, _⟩ := h; rfl) | (obtain ⟨_, _, _, rfl, _⟩ := h; rfl) | (obtain ⟨_, _, _, _, rfl, _⟩ := h; rfl) | (obtain ⟨_, _, _, _, _, rfl, _⟩ := h; rfl) | (obtain ⟨_, _, _, _, _, _, rfl, _⟩ := h; rfl) | (obtain ⟨_, _, _, _, _, _, _, rfl, _⟩ := h; rfl) | (obtain ⟨_, _, _, _, _, _, _, _, rfl, _⟩ := h; rfl) | (obtain ⟨_, _, _, _, _, _, _, _, _, rfl, _⟩ := h; rfl) | (obtain ⟨_, _, _, _, _, _, _, _, _, _, rfl, _⟩ := h; rfl) | (obtain ⟨_, _, _, _, _, _, _, _, _, _, _, rfl, _⟩ := h; rfl) | (obtain ⟨_, _, _, _, _, _, _, _, _, _, _, _, rfl, _⟩ := h; rfl) | (obtain ⟨_, _, _, _, _, _, _, _, _, _, _, _, _, rfl, _⟩ := h; rfl) | (obtain ⟨_, _, _, _, _, _, _, _, _, _, _, _, _, _, rfl, _⟩ := h; rfl) | (obtain ⟨_, _, _, _, _, _, _, _, _, _, _, _, _, _, _, rfl, _⟩ := h; rfl) | (obtain ⟨_, _, _, _, _, _, _, _, _, _, _, _, _, _, _, _, rfl, _⟩ := h; rfl) | (obtain ⟨_, _, _, _, _, _, _, _, _, _, _, _, _, _, _, _, _, rfl, _⟩ := h; rfl) | (obtain ⟨_, _, _, _, _, _, _, _, _, _, _, _, _, _, _, _, _, _, rfl, _⟩ := h; rfl) | (obtain ⟨_, _, _, _, _, _, _, _, _, _, _, _, _, _, _, _, _, _, _, rfl, _⟩ := h; rfl) | (obtain ⟨_, _, _, _, _, _, _, _, _, _, _, _, _, _, _, _, _, _, _, _, rfl, _⟩ := h; rfl) | (obtain ⟨_, _, _, _, _, _, _, _, _, _, _, _, _, _, _, _, _, _, _, _, _, rfl, _⟩ := h; rfl) | (obtain ⟨_, _, _, _, _, _, _, _, _, _, _, _, _, _, _, _, _, _, _, _, _, _, rfl, _⟩ := h; rfl) | (obtain ⟨_, _, _, _, _, _, _, _, _, _, _, _, _, _, _, _, _, _, _, _, _, _, _, rfl, _⟩ := h; rfl) | (obtain ⟨_, _, _, _, _, _, _, _, _, _, _, _, _, _, _, _, _, _, _, _, _, _, _, _, rfl, _⟩ := h; rfl)) (K03.r_al 4)
  have H_Lalike_5 : FnOk P w K mg base (L2.CX P w) 6 ad.f_Lalike ad.d_Lalike ["_law_found", "_law_due"] (LSp ⟨K, ttL ad⟩ (K03.spAl 5)) := ok_Lalike (sp := { sps ad with Lalike := K03.spAl 5, Lalike_rec := K03.spAl 4 }) (k := 5) (Nat.zero_le _) T H_Lalike_4 (by intro ds S Q E h; first | (obtain ⟨rfl, _⟩ := h; rfl) | (obtain ⟨_, rfl, _⟩ := h; rfl) | (obtain ⟨_, _, rfl, _⟩ := h; rfl) | (obtain ⟨_, _, _, rfl, _⟩ := h; rfl) | (obtain ⟨_, _, _, _, rfl, _⟩ := h; rfl) | (obtain ⟨_, _, _, _, _, rfl, _⟩ := h; rfl) | (obtain ⟨_, _, _, _, _, _, rfl, _⟩ := h; rfl) | (obtain ⟨_, _, _, _, _, _, _, rfl, _⟩ := h; rfl) | (obtain ⟨_, _, _, _, _, _, _, _, rfl, _⟩ := h; rfl) | (obtain ⟨_, _, _, _, _, _, _, _, _, rfl, _⟩ := h; rfl) | (obtain ⟨_, _, _, _, _, _, _, _, _, _, rfl, _⟩ := h; rfl) | (obtain ⟨_, _, _, _, _, _, _, _, _, _, _, rfl, _⟩ := h; rfl) | (obtain ⟨_, _, _, _, _, _, _, _, _, _, _, _, rfl, _⟩ := h; rfl) | (obtain ⟨_, _, _, _, _, _, _, _, _, _, _, _, _, rfl, _⟩ := h; rfl) | (obtain ⟨_, _, _, _, _, _, _, _, _, _, _, _, _, _, rfl, _⟩ := h; rfl) | (obtain ⟨_, _, _, _, _, _, _, _, _, _, _, _, _, _, _, rfl, _⟩ := h; rfl) | (obtain ⟨_, _, _, _, _, _, _, _, _, _, _, _, _, _, _, _, rfl, _⟩ := h; rfl) | (obtain ⟨_, _, _, _, _, _, _, _, _, _, _, _, _, _, _, _, _, rfl, _⟩ := h; rfl) | (obtain ⟨_, _, _, _, _, _, _, _, _, _, _, _, _, _, _, _, _, _, rfl, _⟩ := h; rfl) | (obtain ⟨_, _, _, _, _, _, _, _, _, _, _, _, _, _, _, _, _, _, _, rfl, _⟩ := h; rfl) | (obtain ⟨_, _, _, _, _, _, _, _, _, _, _, _, _, _, _, _, _, _, _, _, rfl, _⟩ := h; rfl) | (obtain ⟨_, _, _, _, _, _, _, _, _, _, _, _, _, _, _, _, _, _, _, _, _, rfl, _⟩ := h; rfl) | (obtain ⟨_, _, _, _, _, _, _, _, _, _, _, _, _, _, _, _, _, _, _, _, _, _, rfl, _⟩ := h; rfl) | (obtain ⟨_, _, _, _, _, _, _, _, _, _, _, _, _, _, _, _, _, _, _, _, _, _, _, rfl, _⟩ := h; rfl) | (obtain ⟨_, _, _, _, _, _, _, _, _, _, _, _, _, _, _, _, _, _, _, _, _, _, _, _, rfl, _⟩ := h; rfl)) (K03.r_al 5)
  have G_Lalike := H_Lalike_5
  have G_law : FnOk P w K mg base (L2.CX P w) 8 ad.f_law ad.d_law ["_law_script"] (LSp ⟨K, ttL ad⟩ (spLaw 63)) := ok_law (sp := sps ad) T (hTB (ad.lc_law, ad.lp_law) (by unfold csL; simp)) (by unfold ttL; simp) (by unfold ttL; intro p hp e; simp only [List.mem_cons, List.not_mem_nil, or_false] at hp; rcases hp with rfl <;> first | rfl) G_Lbegun G_Lbook G_Ltake G_Ldamaged G_Ldefect G_Lreached G_initial_state G_reachable_refrains G_Lalike (by intro ds S Q E h; first | (obtain ⟨rfl, _⟩ := h; rfl) | (obtain ⟨_, rfl, _⟩ := h; rfl) | (obtain ⟨_, _, rfl, _⟩ := h; rfl) | (obtain ⟨_, _, _, rfl, _⟩ := h; rfl) | (obtain ⟨_, _, _, _, rfl, _⟩ := h; rfl) | (obtain ⟨_, _, _, _, _, rfl, _⟩ := h; rfl) | (obtain ⟨_, _, _, _, _, _, rfl, _⟩ := h; rfl) | (obtain ⟨_, _, _, _, _, _, _, rfl, _⟩ := h; rfl) | (obtain ⟨_, _, _, _, _, _, _, _, rfl, _⟩ := h; rfl) | (obtain ⟨_, _, _, _, _, _, _, _, _, rfl, _⟩ := h; rfl) | (obtain ⟨_, _, _, _, _, _, _, _, _, _, rfl, _⟩ := h; rfl) | (obtain ⟨_, _, _, _, _, _, _, _, _, _, _, rfl, _⟩ := h; rfl) | (obtain ⟨_, _, _, _, _, _, _, _, _, _, _, _, rfl, _⟩ := h; rfl) | (obtain ⟨_, _, _, _, _, _, _, _, _, _, _, _, _, rfl, _⟩ := h; rfl) | (obtain ⟨_, _, _, _, _, _, _, _, _, _, _, _, _, _, rfl, _⟩ := h; rfl) | (obtain ⟨_, _, _, _, _, _, _, _, _, _, _, _, _, _, _, rfl, _⟩ := h; rfl) | (obtain ⟨_, _, _, _, _, _, _, _, _, _, _, _, _, _, _, _, rfl, _⟩ := h; rfl) | (obtain ⟨_, _, _, _, _, _, _, _, _, _, _, _, _, _, _, _, _, rfl, _⟩ := h; rfl) | (obtain ⟨_, _, _, _, _, _, _, _, _, _, _, _, _, _, _, _, _, _, rfl, _⟩ := h; rfl) | (obtain ⟨_, _, _, _, _, _, _, _, _, _, _, _, _, _, _, _, _, _, _, rfl, _⟩ := h; rfl) | (obtain ⟨_, _, _, _, _, _, _, _, _, _, _, _, _, _, _, _, _, _, _, _, rfl, _⟩ := h; rfl) | (obtain ⟨_, _, _, _, _, _, _, _, _, _, _, _, _, _, _, _, _, _, _, _, _, rfl, _⟩ := h; rfl) | (obtain ⟨_, _, _, _, _, _, _, _, _, _, _, _, _, _, _, _, _, _, _, _, _, _, rfl, _⟩ := h; rfl) | (obtain ⟨_, _, _, _, _, _, _, _, _, _, _, _, _, _, _, _, _, _, _, _, _, _, _, rfl, _⟩ := h; rfl) | (obtain ⟨_, _, _, _, _, _, _, _, _, _, _, _, _, _, _, _, _, _, _, _, _, _, _, _, rfl, _⟩ := h; rfl)) (r_law _ _ (fun r v => tell_book rfl))
  exact G_law
end K01
set_option Elab.async false
set_option linter.all false
set_option maxRecDepth 100000
set_option maxHeartbeats 2000000
namespace K01
open PySem PySem.Spec PyProof.Rows L2 D3
theorem all_mk {P : Program} {w : World} {K : PySem.W.Frag} {h : Heap} {mg : Str → Option Value} (X : K.In h) (G : h.Ns mainGlobals mg) {q : Program} (own : OwnT q K mg h) {fa : Addr} {tk_LETTERS : Tok} {tk_MAX_ITEMS : Tok} {tk_MAX_LETTERS : Tok} {tk_MAX_REFRAINS : Tok} {tk_MAX_VERSES : Tok} {C_BadBook : Addr} {C_BadCertificate : Addr} {C_BadCount : Addr} {C_BadRefrain : Addr} {C_BadState : Addr} {C_BadTurns : Addr} {C_RefrainBusy : Addr} {C_SongError : Addr} {C_TooManyCandidates : Addr} {C_TooManyWords : Addr} {fi_BadBook : Addr} {nm_BadBook q_BadBook : Str} {N_BadBook : Addr} {bs_BadBook bm_BadBook : List Value} {sn_BadBook : List Str} {su_BadBook : List Value} {ab_BadBook : Bool} {co_BadBook : Option Bool} {dx_BadBook : Option Addr} {ka_BadBook kb_BadBook kc_BadBook kd_BadBook ke_BadBook : Option Value} {oi_BadBook : Value} {oj_BadBook an_XBadBook : Option Addr} {sl_XBadBook : Array (Option Value)} {kV_XBadBook dc_XBadBook pm_XBadBook cd_XBadBook ct_XBadBook : Value} {f_Lbegun : Addr} {od_Lbegun an_Lbegun : Option Addr} {sl_Lbegun : Array (Option Value)} {oc_Lbegun kV_Lbegun dc_Lbegun pm_Lbegun cd_Lbegun ct_Lbegun : Value} {f_Ltake : Addr} {od_Ltake an_Ltake : Option Addr} {sl_Ltake : Array (Option Value)} {oc_Ltake kV_Ltake dc_Ltake pm_Ltake cd_Ltake ct_Ltake : Value} {f_Lbook : Addr} {od_Lbook an_Lbook : Option Addr} {sl_Lbook : Array (Option Value)} {oc_Lbook kV_Lbook dc_Lbook pm_Lbook cd_Lbook ct_Lbook : Value} {f_Ldamaged : Addr} {od_Ldamaged an_Ldamaged : Option Addr} {sl_Ldamaged : Array (Option Value)} {oc_Ldamaged kV_Ldamaged dc_Ldamaged pm_Ldamaged cd_Ldamaged ct_Ldamaged : Value} {f_Ldefect : Addr} {od_Ldefect an_Ldefect : Option Addr} {sl_Ldefect : Array (Option Value)} {oc_Ldefect kV_Ldefect dc_Ldefect pm_Ldefect cd_Ldefect ct_Ldefect : Value} {f_Lreached : Addr} {od_Lreached an_Lreached : Option Addr} {sl_Lreached : Array (Option Value)} {oc_Lreached kV_Lreached dc_Lreached pm_Lreached cd_Lreached ct_Lreached : Value} {f_is_word : Addr} {od_is_word an_is_word : Option Addr} {sl_is_word : Array (Option Value)} {oc_is_word kV_is_word dc_is_word pm_is_word cd_is_word ct_is_word : Value} {f_is_valid_item : Addr} {od_is_valid_item an_is_valid_item : Option Addr} {sl_is_valid_item : Array (Option Value)} {oc_is_valid_item kV_is_valid_item dc_is_valid_item pm_is_valid_item cd_is_valid_item ct_is_valid_item : Value} {f_first_invalid_verse : Addr} {od_first_invalid_verse an_first_invalid_verse : Option Addr} {sl_first_invalid_verse : Array (Option Value)} {oc_first_invalid_verse kV_first_invalid_verse dc_first_invalid_verse pm_first_invalid_verse cd_first_invalid_verse ct_first_invalid_verse : Value} {f_validate_book : Addr} {od_validate_book an_validate_book : Option Addr} {sl_validate_book : Array (Option Value)} {oc_validate_book kV_validate_book dc_validate_book pm_validate_book cd_validate_book ct_validate_book : Value} {f_initial_state : Addr} {od_initial_state an_initial_state : Option Addr} {sl_initial_state : Array (Option Value)} {oc_initial_state kV_initial_state dc_initial_state pm_initial_state cd_initial_state ct_initial_state : Value} {f_all_items : Addr} {od_all_items an_all_items : Option Addr} {sl_all_items : Array (Option Value)} {oc_all_items kV_all_items dc_all_items pm_all_items cd_all_items ct_all_items : Value} {f_find_reachable : Addr} {od_find_reachable an_find_reachable : Option Addr} {sl_find_reachable : Array (Option Value)} {oc_find_reachable kV_find_reachable dc_find_reachable pm_find_reachable cd_find_reachable ct_find_reachable : Value} {f_reachable_refrains : Addr} {od_reachable_refrains an_reachable_refrains : Option Addr} {sl_reachable_refrains : Array (Option Value)} {oc_reachable_refrains kV_reachable_refrains dc_reachable_refrains pm_reachable_refrains cd_reachable_refrains ct_reachable_refrains : Value} {f_Lalike : Addr} {od_Lalike an_Lalike : Option Addr} {sl_Lalike : Array (Option Value)} {oc_Lalike kV_Lalike dc_Lalike pm_Lalike cd_Lalike ct_Lalike : Value} {f_law : Addr} {od_law an_law : Option Addr} {sl_law : Array (Option Value)} {oc_law kV_law dc_law pm_law ct_law : Value} {lc_law lp_law : Addr} {ec_law : Value} {dd_law : Option Addr} {vs_law : Array Value} {sk_law : Array (Option Value)} {f_Lresult : Addr} {od_Lresult an_Lresult : Option Addr} {sl_Lresult : Array (Option Value)} {oc_Lresult kV_Lresult dc_Lresult pm_Lresult cd_Lresult ct_Lresult : Value}
    (hfa : mg "law" = some (.ref fa))
    (z_ValueError : PySem.W.nsIn K mainGlobals "ValueError" = some none)
    (z_all : PySem.W.nsIn K mainGlobals "all" = some none)
    (z_bool : PySem.W.nsIn K mainGlobals "bool" = some none)
    (z_enumerate : PySem.W.nsIn K mainGlobals "enumerate" = some none)
    (z_int : PySem.W.nsIn K mainGlobals "int" = some none)
    (z_isinstance : PySem.W.nsIn K mainGlobals "isinstance" = some none)
    (z_len : PySem.W.nsIn K mainGlobals "len" = some none)
    (z_list : PySem.W.nsIn K mainGlobals "list" = some none)
    (z_max : PySem.W.nsIn K mainGlobals "max" = some none)
    (z_range : PySem.W.nsIn K mainGlobals "range" = some none)
    (z_sorted : PySem.W.nsIn K mainGlobals "sorted" = some none)
    (z_str : PySem.W.nsIn K mainGlobals "str" = some none)
    (z_tuple : PySem.W.nsIn K mainGlobals "tuple" = some none)
    (a_LETTERS : PySem.W.nsIn K mainGlobals "LETTERS" = some (some (.str "abcdefghijklmnopqrstuvwxyz" tk_LETTERS)))
    (a_MAX_ITEMS : PySem.W.nsIn K mainGlobals "MAX_ITEMS" = some (some (.int 6 tk_MAX_ITEMS)))
    (a_MAX_LETTERS : PySem.W.nsIn K mainGlobals "MAX_LETTERS" = some (some (.int 8 tk_MAX_LETTERS)))
    (a_MAX_REFRAINS : PySem.W.nsIn K mainGlobals "MAX_REFRAINS" = some (some (.int 60 tk_MAX_REFRAINS)))
    (a_MAX_VERSES : PySem.W.nsIn K mainGlobals "MAX_VERSES" = some (some (.int 4 tk_MAX_VERSES)))
    (a_BadBook : PySem.W.nsIn K mainGlobals "BadBook" = some (some (.ref C_BadBook)))
    (a_BadCertificate : PySem.W.nsIn K mainGlobals "BadCertificate" = some (some (.ref C_BadCertificate)))
    (a_BadCount : PySem.W.nsIn K mainGlobals "BadCount" = some (some (.ref C_BadCount)))
    (a_BadRefrain : PySem.W.nsIn K mainGlobals "BadRefrain" = some (some (.ref C_BadRefrain)))
    (a_BadState : PySem.W.nsIn K mainGlobals "BadState" = some (some (.ref C_BadState)))
    (a_BadTurns : PySem.W.nsIn K mainGlobals "BadTurns" = some (some (.ref C_BadTurns)))
    (a_RefrainBusy : PySem.W.nsIn K mainGlobals "RefrainBusy" = some (some (.ref C_RefrainBusy)))
    (a_SongError : PySem.W.nsIn K mainGlobals "SongError" = some (some (.ref C_SongError)))
    (a_TooManyCandidates : PySem.W.nsIn K mainGlobals "TooManyCandidates" = some (some (.ref C_TooManyCandidates)))
    (a_TooManyWords : PySem.W.nsIn K mainGlobals "TooManyWords" = some (some (.ref C_TooManyWords)))
    (sg_ : sgB K C_SongError = true)
    (lk_BadBook : K.lookup C_BadBook = some (excClassObj nm_BadBook q_BadBook C_BadBook N_BadBook bs_BadBook bm_BadBook true sn_BadBook su_BadBook ab_BadBook co_BadBook dx_BadBook ka_BadBook kb_BadBook kc_BadBook kd_BadBook ke_BadBook "ValueError.__new__"))
    (rf_BadBook : PySem.HandSPX.refsVE bm_BadBook = true)
    (sa_BadBook : PySem.W.findIn K (.ref C_BadBook) "__setattr__" = some (some (.builtin "object.__setattr__")))
    (xk_BadBook : PySem.W.keepIn K (.ref C_BadBook) = true)
    (xb_BadBook : PySem.W.subIn K (.ref C_BadBook) (.type "BaseException") = some true)
    (xt_BadBook : PySem.W.typeIn K (.ref C_BadBook) = some (.type "type"))
    (ii_BadBook : PySem.W.findIn K (.ref C_BadBook) "__init__" = some (some (.ref fi_BadBook)))
    (it_BadBook : PySem.W.typeIn K (.ref fi_BadBook) = some (.type "function"))
    (nf_BadBook_refrain : PySem.W.findIn K (.ref C_BadBook) "refrain" = some none)
    (nf_BadBook_verse : PySem.W.findIn K (.ref C_BadBook) "verse" = some none)
    (li_BadBook : K.lookup fi_BadBook = some ⟨oi_BadBook, oj_BadBook, .func (PySem.W.fnOf "__init__" "BadBook.__init__" (defArgs s_BadBook_init) (defBody s_BadBook_init) (defScope s_BadBook_init) .none kV_XBadBook dc_XBadBook pm_XBadBook an_XBadBook cd_XBadBook ct_XBadBook), sl_XBadBook⟩)
    (ci_BadBook : PySem.W.codeIn K cd_XBadBook "BadBook.__init__" = true)
    (ki_BadBook : PySem.W.keepIn K (.ref fi_BadBook) = true)
    (res_ : resBB K C_SongError [C_BadBook, C_BadCertificate, C_BadCount, C_BadRefrain, C_BadState, C_BadTurns, C_RefrainBusy, C_TooManyCandidates, C_TooManyWords] = true)
    (a_f_Lbegun : PySem.W.nsIn K mainGlobals "_law_begun" = some (some (.ref f_Lbegun)))
    (l_Lbegun : K.lookup f_Lbegun = some ⟨oc_Lbegun, od_Lbegun, .func (PySem.W.fnOf "_law_begun" "_law_begun" (defArgs s_Lbegun) (defBody s_Lbegun) (defScope s_Lbegun) .none kV_Lbegun dc_Lbegun pm_Lbegun an_Lbegun cd_Lbegun ct_Lbegun), sl_Lbegun⟩)
    (cc_Lbegun : PySem.W.codeIn K cd_Lbegun "_law_begun" = true)
    (kp_Lbegun : PySem.W.keepIn K (.ref f_Lbegun) = true)
    (a_f_Ltake : PySem.W.nsIn K mainGlobals "_law_take" = some (some (.ref f_Ltake)))
    (l_Ltake : K.lookup f_Ltake = some ⟨oc_Ltake, od_Ltake, .func (PySem.W.fnOf "_law_take" "_law_take" (defArgs s_Ltake) (defBody s_Ltake) (defScope s_Ltake) .none kV_Ltake dc_Ltake pm_Ltake an_Ltake cd_Ltake ct_Ltake), sl_Ltake⟩)
    (cc_Ltake : PySem.W.codeIn K cd_Ltake "_law_take" = true)
    (kp_Ltake : PySem.W.keepIn K (.ref f_Ltake) = true)
    (a_f_Lbook : PySem.W.nsIn K mainGlobals "_law_book" = some (some (.ref f_Lbook)))
    (l_Lbook : K.lookup f_Lbook = some ⟨oc_Lbook, od_Lbook, .func (PySem.W.fnOf "_law_book" "_law_book" (defArgs s_Lbook) (defBody s_Lbook) (defScope s_Lbook) .none kV_Lbook dc_Lbook pm_Lbook an_Lbook cd_Lbook ct_Lbook), sl_Lbook⟩)
    (cc_Lbook : PySem.W.codeIn K cd_Lbook "_law_book" = true)
    (kp_Lbook : PySem.W.keepIn K (.ref f_Lbook) = true)
    (a_f_Ldamaged : PySem.W.nsIn K mainGlobals "_law_damaged" = some (some (.ref f_Ldamaged)))
    (l_Ldamaged : K.lookup f_Ldamaged = some ⟨oc_Ldamaged, od_Ldamaged, .func (PySem.W.fnOf "_law_damaged" "_law_damaged" (defArgs s_Ldamaged) (defBody s_Ldamaged) (defScope s_Ldamaged) .none kV_Ldamaged dc_Ldamaged pm_Ldamaged an_Ldamaged cd_Ldamaged ct_Ldamaged), sl_Ldamaged⟩)
    (cc_Ldamaged : PySem.W.codeIn K cd_Ldamaged "_law_damaged" = true)
    (kp_Ldamaged : PySem.W.keepIn K (.ref f_Ldamaged) = true)
    (a_f_Ldefect : PySem.W.nsIn K mainGlobals "_law_defect" = some (some (.ref f_Ldefect)))
    (l_Ldefect : K.lookup f_Ldefect = some ⟨oc_Ldefect, od_Ldefect, .func (PySem.W.fnOf "_law_defect" "_law_defect" (defArgs s_Ldefect) (defBody s_Ldefect) (defScope s_Ldefect) .none kV_Ldefect dc_Ldefect pm_Ldefect an_Ldefect cd_Ldefect ct_Ldefect), sl_Ldefect⟩)
    (cc_Ldefect : PySem.W.codeIn K cd_Ldefect "_law_defect" = true)
    (kp_Ldefect : PySem.W.keepIn K (.ref f_Ldefect) = true)
    (a_f_Lreached : PySem.W.nsIn K mainGlobals "_law_reached" = some (some (.ref f_Lreached)))
    (l_Lreached : K.lookup f_Lreached = some ⟨oc_Lreached, od_Lreached, .func (PySem.W.fnOf "_law_reached" "_law_reached" (defArgs s_Lreached) (defBody s_Lreached) (defScope s_Lreached) .none kV_Lreached dc_Lreached pm_Lreached an_Lreached cd_Lreached ct_Lreached), sl_Lreached⟩)
    (cc_Lreached : PySem.W.codeIn K cd_Lreached "_law_reached" = true)
    (kp_Lreached : PySem.W.keepIn K (.ref f_Lreached) = true)
    (a_f_is_word : PySem.W.nsIn K mainGlobals "is_word" = some (some (.ref f_is_word)))
    (l_is_word : K.lookup f_is_word = some ⟨oc_is_word, od_is_word, .func (PySem.W.fnOf "is_word" "is_word" (defArgs s_is_word) (defBody s_is_word) (defScope s_is_word) .none kV_is_word dc_is_word pm_is_word an_is_word cd_is_word ct_is_word), sl_is_word⟩)
    (cc_is_word : PySem.W.codeIn K cd_is_word "is_word" = true)
    (kp_is_word : PySem.W.keepIn K (.ref f_is_word) = true)
    (a_f_is_valid_item : PySem.W.nsIn K mainGlobals "is_valid_item" = some (some (.ref f_is_valid_item)))
    (l_is_valid_item : K.lookup f_is_valid_item = some ⟨oc_is_valid_item, od_is_valid_item, .func (PySem.W.fnOf "is_valid_item" "is_valid_item" (defArgs s_is_valid_item) (defBody s_is_valid_item) (defScope s_is_valid_item) .none kV_is_valid_item dc_is_valid_item pm_is_valid_item an_is_valid_item cd_is_valid_item ct_is_valid_item), sl_is_valid_item⟩)
    (cc_is_valid_item : PySem.W.codeIn K cd_is_valid_item "is_valid_item" = true)
    (kp_is_valid_item : PySem.W.keepIn K (.ref f_is_valid_item) = true)
    (a_f_first_invalid_verse : PySem.W.nsIn K mainGlobals "first_invalid_verse" = some (some (.ref f_first_invalid_verse)))
    (l_first_invalid_verse : K.lookup f_first_invalid_verse = some ⟨oc_first_invalid_verse, od_first_invalid_verse, .func (PySem.W.fnOf "first_invalid_verse" "first_invalid_verse" (defArgs s_first_invalid_verse) (defBody s_first_invalid_verse) (defScope s_first_invalid_verse) .none kV_first_invalid_verse dc_first_invalid_verse pm_first_invalid_verse an_first_invalid_verse cd_first_invalid_verse ct_first_invalid_verse), sl_first_invalid_verse⟩)
    (cc_first_invalid_verse : PySem.W.codeIn K cd_first_invalid_verse "first_invalid_verse" = true)
    (kp_first_invalid_verse : PySem.W.keepIn K (.ref f_first_invalid_verse) = true)
    (a_f_validate_book : PySem.W.nsIn K mainGlobals "validate_book" = some (some (.ref f_validate_book)))
    (l_validate_book : K.lookup f_validate_book = some ⟨oc_validate_book, od_validate_book, .func (PySem.W.fnOf "validate_book" "validate_book" (defArgs s_validate_book) (defBody s_validate_book) (defScope s_validate_book) .none kV_validate_book dc_validate_book pm_validate_book an_validate_book cd_validate_book ct_validate_book), sl_validate_book⟩)
    (cc_validate_book : PySem.W.codeIn K cd_validate_book "validate_book" = true)
    (kp_validate_book : PySem.W.keepIn K (.ref f_validate_book) = true)
    (a_f_initial_state : PySem.W.nsIn K mainGlobals "initial_state" = some (some (.ref f_initial_state)))
    (l_initial_state : K.lookup f_initial_state = some ⟨oc_initial_state, od_initial_state, .func (PySem.W.fnOf "initial_state" "initial_state" (defArgs s_initial_state) (defBody s_initial_state) (defScope s_initial_state) .none kV_initial_state dc_initial_state pm_initial_state an_initial_state cd_initial_state ct_initial_state), sl_initial_state⟩)
    (cc_initial_state : PySem.W.codeIn K cd_initial_state "initial_state" = true)
    (kp_initial_state : PySem.W.keepIn K (.ref f_initial_state) = true)
    (a_f_all_items : PySem.W.nsIn K mainGlobals "all_items" = some (some (.ref f_all_items)))
    (l_all_items : K.lookup f_all_items = some ⟨oc_all_items, od_all_items, .func (PySem.W.fnOf "all_items" "all_items" (defArgs s_all_items) (defBody s_all_items) (defScope s_all_items) .none kV_all_items dc_all_items pm_all_items an_all_items cd_all_items ct_all_items), sl_all_items⟩)
    (cc_all_items : PySem.W.codeIn K cd_all_items "all_items" = true)
    (kp_all_items : PySem.W.keepIn K (.ref f_all_items) = true)
    (a_f_find_reachable : PySem.W.nsIn K mainGlobals "find_reachable" = some (some (.ref f_find_reachable)))
    (l_find_reachable : K.lookup f_find_reachable = some ⟨oc_find_reachable, od_find_reachable, .func (PySem.W.fnOf "find_reachable" "find_reachable" (defArgs s_find_reachable) (defBody s_find_reachable) (defScope s_find_reachable) .none kV_find_reachable dc_find_reachable pm_find_reachable an_find_reachable cd_find_reachable ct_find_reachable), sl_find_reachable⟩)
    (cc_find_reachable : PySem.W.codeIn K cd_find_reachable "find_reachable" = true)
    (kp_find_reachable : PySem.W.keepIn K (.ref f_find_reachable) = true)
    (a_f_reachable_refrains : PySem.W.nsIn K mainGlobals "reachable_refrains" = some (some (.ref f_reachable_refrains)))
    (l_reachable_refrains : K.lookup f_reachable_refrains = some ⟨oc_reachable_refrains, od_reachable_refrains, .func (PySem.W.fnOf "reachable_refrains" "reachable_refrains" (defArgs s_reachable_refrains) (defBody s_reachable_refrains) (defScope s_reachable_refrains) .none kV_reachable_refrains dc_reachable_refrains pm_reachable_refrains an_reachable_refrains cd_reachable_refrains ct_reachable_refrains), sl_reachable_refrains⟩)
    (cc_reachable_refrains : PySem.W.codeIn K cd_reachable_refrains "reachable_refrains" = true)
    (kp_reachable_refrains : PySem.W.keepIn K (.ref f_reachable_refrains) = true)
    (a_f_Lalike : PySem.W.nsIn K mainGlobals "_law_alike" = some (some (.ref f_Lalike)))
    (l_Lalike : K.lookup f_Lalike = some ⟨oc_Lalike, od_Lalike, .func (PySem.W.fnOf "_law_alike" "_law_alike" (defArgs s_Lalike) (defBody s_Lalike) (defScope s_Lalike) .none kV_Lalike dc_Lalike pm_Lalike an_Lalike cd_Lalike ct_Lalike), sl_Lalike⟩)
    (cc_Lalike : PySem.W.codeIn K cd_Lalike "_law_alike" = true)
    (kp_Lalike : PySem.W.keepIn K (.ref f_Lalike) = true)
    (a_f_law : PySem.W.nsIn K mainGlobals "law" = some (some (.ref f_law)))
    (l_law : K.lookup f_law = some ⟨oc_law, od_law, .func (PySem.W.fnOf "law" "law" (defArgs s_law) (defBody s_law) (defScope s_law) .none kV_law dc_law pm_law an_law (.ref lc_law) ct_law), sl_law⟩)
    (cc_law : PySem.W.codeIn K (.ref lc_law) "law" = true)
    (kp_law : PySem.W.keepIn K (.ref f_law) = true)
    (lk_law : K.lookup lc_law = some ⟨ec_law, dd_law, .fields vs_law, sk_law⟩)
    (tp_law : vs_law[11]? = some (.ref lp_law))
    (ch_law : PySem.W.codeHdIn K lc_law lp_law = true)
    (nl_law : K.lookup lp_law = none)
    (rc_law : ((recsOf q).any fun e => e.name == "law") = true)
    (a_f_Lresult : PySem.W.nsIn K mainGlobals "_law_result" = some (some (.ref f_Lresult)))
    (l_Lresult : K.lookup f_Lresult = some ⟨oc_Lresult, od_Lresult, .func (PySem.W.fnOf "_law_result" "_law_result" (defArgs s_Lresult) (defBody s_Lresult) (defScope s_Lresult) .none kV_Lresult dc_Lresult pm_Lresult an_Lresult cd_Lresult ct_Lresult), sl_Lresult⟩)
    (cc_Lresult : PySem.W.codeIn K cd_Lresult "_law_result" = true)
    (kp_Lresult : PySem.W.keepIn K (.ref f_Lresult) = true) :
    ∃ (fd : FuncData) (cs : List (Addr × Addr)) (TT : List (Addr × Str)), (∀ (s : Shared) (u : Value), BindsTo s fd ⟨[u], []⟩ [("_law_script", u)]) ∧ (∀ p ∈ cs, h.get? p.2 = some { cls := .none, data := .fields #[] }) ∧ (∀ p ∈ cs, K.lookup p.2 = none) ∧ (∀ p ∈ cs, PySem.W.CodeHd h p.1 p.2) ∧ (∀ p ∈ TT, ∃ r ∈ cs, r.2 = p.1) ∧ ∀ base : Heap, K.In base → base.Ns mainGlobals mg → (∀ p ∈ cs, LamX.TabB base mg p.1 p.2) → FnOk P w K mg base (L2.CX P w) 8 fa fd ["_law_script"] (LSp ⟨K, TT⟩ (spLaw 63)) := by
  have e : f_law = fa := by
    have e := (PySem.W.mg_of X G a_f_law).symm.trans hfa
    cases e
    rfl
  subst e
  let ad : Ad := { c_BadBook := C_BadBook, c_BadCertificate := C_BadCertificate, c_BadCount := C_BadCount, c_BadRefrain := C_BadRefrain, c_BadState := C_BadState, c_BadTurns := C_BadTurns, c_RefrainBusy := C_RefrainBusy, c_SongError := C_SongError, c_TooManyCandidates := C_TooManyCandidates, c_TooManyWords := C_TooManyWords, fi_BadBook := fi_BadBook, di_BadBook := PySem.W.fnOf "__init__" "BadBook.__init__" (defArgs s_BadBook_init) (defBody s_BadBook_init) (defScope s_BadBook_init) .none kV_XBadBook dc_XBadBook pm_XBadBook an_XBadBook cd_XBadBook ct_XBadBook, lc_law := lc_law, lp_law := lp_law, f_Lbegun := f_Lbegun, d_Lbegun := PySem.W.fnOf "_law_begun" "_law_begun" (defArgs s_Lbegun) (defBody s_Lbegun) (defScope s_Lbegun) .none kV_Lbegun dc_Lbegun pm_Lbegun an_Lbegun cd_Lbegun ct_Lbegun, f_Ltake := f_Ltake, d_Ltake := PySem.W.fnOf "_law_take" "_law_take" (defArgs s_Ltake) (defBody s_Ltake) (defScope s_Ltake) .none kV_Ltake dc_Ltake pm_Ltake an_Ltake cd_Ltake ct_Ltake, f_Lbook := f_Lbook, d_Lbook := PySem.W.fnOf "_law_book" "_law_book" (defArgs s_Lbook) (defBody s_Lbook) (defScope s_Lbook) .none kV_Lbook dc_Lbook pm_Lbook an_Lbook cd_Lbook ct_Lbook, f_Ldamaged := f_Ldamaged, d_Ldamaged := PySem.W.fnOf "_law_damaged" "_law_damaged" (defArgs s_Ldamaged) (defBody s_Ldamaged) (defScope s_Ldamaged) .none kV_Ldamaged dc_Ldamaged pm_Ldamaged an_Ldamaged cd_Ldamaged ct_Ldamaged, f_Ldefect := f_Ldefect, d_Ldefect := PySem.W.fnOf "_law_defect" "_law_defect" (defArgs s_Ldefect) (defBody s_Ldefect) (defScope s_Ldefect) .none kV_Ldefect dc_Ldefect pm_Ldefect an_Ldefect cd_Ldefect ct_Ldefect, f_Lreached := f_Lreached, d_Lreached := PySem.W.fnOf "_law_reached" "_law_reached" (defArgs s_Lreached) (defBody s_Lreached) (defScope s_Lreached) .none kV_Lreached dc_Lreached pm_Lreached an_Lreached cd_Lreached ct_Lreached, f_is_word := f_is_word, d_is_word := PySem.W.fnOf "is_word" "is_word" (defArgs s_is_word) (defBody s_is_word) (defScope s_is_word) .none kV_is_word dc_is_word pm_is_word an_is_word cd_is_word ct_is_word, f_is_valid_item := f_is_valid_item, d_is_valid_item := PySem.W.fnOf "is_valid_item" "is_valid_item" (defArgs s_is_valid_item) (defBody s_is_valid_item) (defScope s_is_valid_item) .none kV_is_valid_item dc_is_valid_item pm_is_valid_item an_is_valid_item cd_is_valid_item ct_is_valid_item, f_first_invalid_verse := f_first_invalid_verse, d_first_invalid_verse := PySem.W.fnOf "first_invalid_verse" "first_invalid_verse" (defArgs s_first_invalid_verse) (defBody s_first_invalid_verse) (defScope s_first_invalid_verse) .none kV_first_invalid_verse dc_first_invalid_verse pm_first_invalid_verse an_first_invalid_verse cd_first_invalid_verse ct_first_invalid_verse, f_validate_book := f_validate_book, d_validate_book := PySem.W.fnOf "validate_book" "validate_book" (defArgs s_validate_book) (defBody s_validate_book) (defScope s_validate_book) .none kV_validate_book dc_validate_book pm_validate_book an_validate_book cd_validate_book ct_validate_book, f_initial_state := f_initial_state, d_initial_state := PySem.W.fnOf "initial_state" "initial_state" (defArgs s_initial_state) (defBody s_initial_state) (defScope s_initial_state) .none kV_initial_state dc_initial_state pm_initial_state an_initial_state cd_initial_state ct_initial_state, f_all_items := f_all_items, d_all_items := PySem.W.fnOf "all_items" "all_items" (defArgs s_all_items) (defBody s_all_items) (defScope s_all_items) .none kV_all_items dc_all_items pm_all_items an_all_items cd_all_items ct_all_items, f_find_reachable := f_find_reachable, d_find_reachable := PySem.W.fnOf "find_reachable" "find_reachable" (defArgs s_find_reachable) (defBody s_find_reachable) (defScope s_find_reachable) .none kV_find_reachable dc_find_reachable pm_find_reachable an_find_reachable cd_find_reachable ct_find_reachable, f_reachable_refrains := f_reachable_refrains, d_reachable_refrains := PySem.W.fnOf "reachable_refrains" "reachable_refrains" (defArgs s_reachable_refrains) (defBody s_reachable_refrains) (defScope s_reachable_refrains) .none kV_reachable_refrains dc_reachable_refrains pm_reachable_refrains an_reachable_refrains cd_reachable_refrains ct_reachable_refrains, f_Lalike := f_Lalike, d_Lalike := PySem.W.fnOf "_law_alike" "_law_alike" (defArgs s_Lalike) (defBody s_Lalike) (defScope s_Lalike) .none kV_Lalike dc_Lalike pm_Lalike an_Lalike cd_Lalike ct_Lalike, f_law := f_law, d_law := PySem.W.fnOf "law" "law" (defArgs s_law) (defBody s_law) (defScope s_law) .none kV_law dc_law pm_law an_law (.ref lc_law) ct_law, f_Lresult := f_Lresult, d_Lresult := PySem.W.fnOf "_law_result" "_law_result" (defArgs s_Lresult) (defBody s_Lresult) (defScope s_Lresult) .none kV_Lresult dc_Lresult pm_Lresult an_Lresult cd_Lresult ct_Lresult, k_LETTERS := .str "abcdefghijklmnopqrstuvwxyz" tk_LETTERS, w_LETTERS := .str "abcdefghijklmnopqrstuvwxyz", k_MAX_ITEMS := .int 6 tk_MAX_ITEMS, w_MAX_ITEMS := .int 6, k_MAX_LETTERS := .int 8 tk_MAX_LETTERS, w_MAX_LETTERS := .int 8, k_MAX_REFRAINS := .int 60 tk_MAX_REFRAINS, w_MAX_REFRAINS := .int 60, k_MAX_VERSES := .int 4 tk_MAX_VERSES, w_MAX_VERSES := .int 4 }
  have T : Txt K mg ad := {
    no_ValueError := PySem.W.mg_none_of X G z_ValueError,
    no_all := PySem.W.mg_none_of X G z_all,
    no_bool := PySem.W.mg_none_of X G z_bool,
    no_enumerate := PySem.W.mg_none_of X G z_enumerate,
    no_int := PySem.W.mg_none_of X G z_int,
    no_isinstance := PySem.W.mg_none_of X G z_isinstance,
    no_len := PySem.W.mg_none_of X G z_len,
    no_list := PySem.W.mg_none_of X G z_list,
    no_max := PySem.W.mg_none_of X G z_max,
    no_range := PySem.W.mg_none_of X G z_range,
    no_sorted := PySem.W.mg_none_of X G z_sorted,
    no_str := PySem.W.mg_none_of X G z_str,
    no_tuple := PySem.W.mg_none_of X G z_tuple,
    gk_LETTERS := PySem.W.mg_of X G a_LETTERS,
    v_LETTERS := ⟨_, rfl⟩,
    r_LETTERS := fun _ _ _ => .str _,
    gk_MAX_ITEMS := PySem.W.mg_of X G a_MAX_ITEMS,
    v_MAX_ITEMS := ⟨_, rfl⟩,
    r_MAX_ITEMS := fun _ _ _ => .int _,
    gk_MAX_LETTERS := PySem.W.mg_of X G a_MAX_LETTERS,
    v_MAX_LETTERS := ⟨_, rfl⟩,
    r_MAX_LETTERS := fun _ _ _ => .int _,
    gk_MAX_REFRAINS := PySem.W.mg_of X G a_MAX_REFRAINS,
    v_MAX_REFRAINS := ⟨_, rfl⟩,
    r_MAX_REFRAINS := fun _ _ _ => .int _,
    gk_MAX_VERSES := PySem.W.mg_of X G a_MAX_VERSES,
    v_MAX_VERSES := ⟨_, rfl⟩,
    r_MAX_VERSES := fun _ _ _ => .int _,
    gc_BadBook := PySem.W.mg_of X G a_BadBook,
    gc_BadCertificate := PySem.W.mg_of X G a_BadCertificate,
    gc_BadCount := PySem.W.mg_of X G a_BadCount,
    gc_BadRefrain := PySem.W.mg_of X G a_BadRefrain,
    gc_BadState := PySem.W.mg_of X G a_BadState,
    gc_BadTurns := PySem.W.mg_of X G a_BadTurns,
    gc_RefrainBusy := PySem.W.mg_of X G a_RefrainBusy,
    gc_SongError := PySem.W.mg_of X G a_SongError,
    gc_TooManyCandidates := PySem.W.mg_of X G a_TooManyCandidates,
    gc_TooManyWords := PySem.W.mg_of X G a_TooManyWords,
    sg := sgB_ok sg_,
    x_BadBook := ⟨PySem.W.mg_of X G a_BadBook, ⟨⟨_, _, _, _, _, _, _, _, _, _, _, _, _, _, _, lk_BadBook, rf_BadBook⟩, sa_BadBook, xb_BadBook, xt_BadBook, xk_BadBook⟩, ii_BadBook, it_BadBook⟩,
    Fi_BadBook := fun_mk (st := s_BadBook_init) li_BadBook ci_BadBook ki_BadBook,
    kb_BadBook := ⟨fun _ us ws _ hu hw => match us, hu, ws, hw with | [_], _, [_, _], _ => .of_eq (by rfl), fun r1 r2 => r1.append r2⟩,
    nf_BadBook := by intro y hy; simp only [List.mem_cons, List.not_mem_nil, or_false] at hy; rcases hy with rfl | rfl <;> assumption,
    res := res_,
    FC_law := ⟨⟨oc_law, od_law, kV_law, dc_law, pm_law, an_law, ct_law, sl_law, rfl, l_law, cc_law⟩⟩,
    F_Lbegun := fun_mk (st := s_Lbegun) l_Lbegun cc_Lbegun kp_Lbegun,
    b_Lbegun := (fun_mk (st := s_Lbegun) l_Lbegun cc_Lbegun kp_Lbegun).binds (ps := ["_law_script"]) fun _ _ _ _ _ _ us hl => match us, hl with | [_], _ => rfl,
    g_Lbegun := PySem.W.mg_of X G a_f_Lbegun,
    F_Ltake := fun_mk (st := s_Ltake) l_Ltake cc_Ltake kp_Ltake,
    b_Ltake := (fun_mk (st := s_Ltake) l_Ltake cc_Ltake kp_Ltake).binds (ps := ["_law_box", "_law_size"]) fun _ _ _ _ _ _ us hl => match us, hl with | [_, _], _ => rfl,
    g_Ltake := PySem.W.mg_of X G a_f_Ltake,
    F_Lbook := fun_mk (st := s_Lbook) l_Lbook cc_Lbook kp_Lbook,
    b_Lbook := (fun_mk (st := s_Lbook) l_Lbook cc_Lbook kp_Lbook).binds (ps := ["_law_box", "_law_most"]) fun _ _ _ _ _ _ us hl => match us, hl with | [_, _], _ => rfl,
    g_Lbook := PySem.W.mg_of X G a_f_Lbook,
    F_Ldamaged := fun_mk (st := s_Ldamaged) l_Ldamaged cc_Ldamaged kp_Ldamaged,
    b_Ldamaged := (fun_mk (st := s_Ldamaged) l_Ldamaged cc_Ldamaged kp_Ldamaged).binds (ps := ["_law_box", "_law_book_here"]) fun _ _ _ _ _ _ us hl => match us, hl with | [_, _], _ => rfl,
    g_Ldamaged := PySem.W.mg_of X G a_f_Ldamaged,
    F_Ldefect := fun_mk (st := s_Ldefect) l_Ldefect cc_Ldefect kp_Ldefect,
    b_Ldefect := (fun_mk (st := s_Ldefect) l_Ldefect cc_Ldefect kp_Ldefect).binds (ps := ["_law_book_here"]) fun _ _ _ _ _ _ us hl => match us, hl with | [_], _ => rfl,
    g_Ldefect := PySem.W.mg_of X G a_f_Ldefect,
    F_Lreached := fun_mk (st := s_Lreached) l_Lreached cc_Lreached kp_Lreached,
    b_Lreached := (fun_mk (st := s_Lreached) l_Lreached cc_Lreached kp_Lreached).binds (ps := ["_law_book_here"]) fun _ _ _ _ _ _ us hl => match us, hl with | [_], _ => rfl,
    g_Lreached := PySem.W.mg_of X G a_f_Lreached,
    F_is_word := fun_mk (st := s_is_word) l_is_word cc_is_word kp_is_word,
    b_is_word := (fun_mk (st := s_is_word) l_is_word cc_is_word kp_is_word).binds (ps := ["item"]) fun _ _ _ _ _ _ us hl => match us, hl with | [_], _ => rfl,
    g_is_word := PySem.W.mg_of X G a_f_is_word,
    F_is_valid_item := fun_mk (st := s_is_valid_item) l_is_valid_item cc_is_valid_item kp_is_valid_item,
    b_is_valid_item := (fun_mk (st := s_is_valid_item) l_is_valid_item cc_is_valid_item kp_is_valid_item).binds (ps := ["book", "refrain", "item"]) fun _ _ _ _ _ _ us hl => match us, hl with | [_, _, _], _ => rfl,
    g_is_valid_item := PySem.W.mg_of X G a_f_is_valid_item,
    F_first_invalid_verse := fun_mk (st := s_first_invalid_verse) l_first_invalid_verse cc_first_invalid_verse kp_first_invalid_verse,
    b_first_invalid_verse := (fun_mk (st := s_first_invalid_verse) l_first_invalid_verse cc_first_invalid_verse kp_first_invalid_verse).binds (ps := ["book", "refrain"]) fun _ _ _ _ _ _ us hl => match us, hl with | [_, _], _ => rfl,
    g_first_invalid_verse := PySem.W.mg_of X G a_f_first_invalid_verse,
    F_validate_book := fun_mk (st := s_validate_book) l_validate_book cc_validate_book kp_validate_book,
    b_validate_book := (fun_mk (st := s_validate_book) l_validate_book cc_validate_book kp_validate_book).binds (ps := ["book"]) fun _ _ _ _ _ _ us hl => match us, hl with | [_], _ => rfl,
    g_validate_book := PySem.W.mg_of X G a_f_validate_book,
    F_initial_state := fun_mk (st := s_initial_state) l_initial_state cc_initial_state kp_initial_state,
    b_initial_state := (fun_mk (st := s_initial_state) l_initial_state cc_initial_state kp_initial_state).binds (ps := ["book"]) fun _ _ _ _ _ _ us hl => match us, hl with | [_], _ => rfl,
    g_initial_state := PySem.W.mg_of X G a_f_initial_state,
    F_all_items := fun_mk (st := s_all_items) l_all_items cc_all_items kp_all_items,
    b_all_items := (fun_mk (st := s_all_items) l_all_items cc_all_items kp_all_items).binds (ps := ["verses"]) fun _ _ _ _ _ _ us hl => match us, hl with | [_], _ => rfl,
    g_all_items := PySem.W.mg_of X G a_f_all_items,
    F_find_reachable := fun_mk (st := s_find_reachable) l_find_reachable cc_find_reachable kp_find_reachable,
    b_find_reachable := (fun_mk (st := s_find_reachable) l_find_reachable cc_find_reachable kp_find_reachable).binds (ps := ["book"]) fun _ _ _ _ _ _ us hl => match us, hl with | [_], _ => rfl,
    g_find_reachable := PySem.W.mg_of X G a_f_find_reachable,
    F_reachable_refrains := fun_mk (st := s_reachable_refrains) l_reachable_refrains cc_reachable_refrains kp_reachable_refrains,
    b_reachable_refrains := (fun_mk (st := s_reachable_refrains) l_reachable_refrains cc_reachable_refrains kp_reachable_refrains).binds (ps := ["book"]) fun _ _ _ _ _ _ us hl => match us, hl with | [_], _ => rfl,
    g_reachable_refrains := PySem.W.mg_of X G a_f_reachable_refrains,
    F_Lalike := fun_mk (st := s_Lalike) l_Lalike cc_Lalike kp_Lalike,
    b_Lalike := (fun_mk (st := s_Lalike) l_Lalike cc_Lalike kp_Lalike).binds (ps := ["_law_found", "_law_due"]) fun _ _ _ _ _ _ us hl => match us, hl with | [_, _], _ => rfl,
    g_Lalike := PySem.W.mg_of X G a_f_Lalike,
    F_law := fun_mk (st := s_law) l_law cc_law kp_law,
    b_law := (fun_mk (st := s_law) l_law cc_law kp_law).binds (ps := ["_law_script"]) fun _ _ _ _ _ _ us hl => match us, hl with | [_], _ => rfl,
    F_Lresult := fun_mk (st := s_Lresult) l_Lresult cc_Lresult kp_Lresult,
    b_Lresult := (fun_mk (st := s_Lresult) l_Lresult cc_Lresult kp_Lresult).binds (ps := ["_law_call"]) fun _ _ _ _ _ _ us hl => match us, hl with | [_], _ => rfl,
    g_Lresult := PySem.W.mg_of X G a_f_Lresult }
  exact ⟨ad.d_law, csL ad, ttL ad, fun s u => .of_eq rfl, (by intro p hp; simp only [csL, List.mem_cons, List.not_mem_nil, or_false] at hp; rcases hp with rfl <;> first | exact own "law" _ _ _ _ _ _ _ _ _ rc_law (PySem.W.mg_of X G a_f_law) l_law rfl rfl lk_law tp_law), (by intro p hp; simp only [csL, List.mem_cons, List.not_mem_nil, or_false] at hp; rcases hp with rfl <;> first | exact nl_law), (by intro p hp; simp only [csL, List.mem_cons, List.not_mem_nil, or_false] at hp; rcases hp with rfl <;> first | exact PySem.W.codeHd_of_K X ch_law), (by intro p hp; simp only [ttL, List.mem_cons, List.not_mem_nil, or_false] at hp; rcases hp with rfl <;> first | exact ⟨(ad.lc_law, ad.lp_law), by unfold csL; simp, rfl⟩), fun base _ _ hTB => law_ok T hTB⟩
end K01
open PySem PySem.W PyProof.Rows
set_option maxRecDepth 100000 in
set_option maxHeartbeats 0 in
theorem PySem.Challenge.cw_sungbyturns_k01_books_validated_holds : PySem.Challenge.rw_sungbyturns_k01_books_validated.Holds := by
  w_on; o_law; k_head; (case hw => w_witness2)
  k_fill
  refine D3.walk_ofT (l := PySem.Challenge.rw_sungbyturns_k01_books_validated) (n := 63) (k := 8) (x := "_law_script") (by decide +kernel) (by decide +kernel) rfl ⟨rfl, by decide, by decide⟩ (fun w h Y => PySem.W.km_in_of Y) ?_
  intro w mg fa h KX G XL hmg own
  refine' K01.all_mk (w := w) KX G own hmg ?z_ValueError ?z_all ?z_bool ?z_enumerate ?z_int ?z_isinstance ?z_len ?z_list ?z_max ?z_range ?z_sorted ?z_str ?z_tuple ?a_LETTERS ?a_MAX_ITEMS ?a_MAX_LETTERS ?a_MAX_REFRAINS ?a_MAX_VERSES ?a_BadBook ?a_BadCertificate ?a_BadCount ?a_BadRefrain ?a_BadState ?a_BadTurns ?a_RefrainBusy ?a_SongError ?a_TooManyCandidates ?a_TooManyWords ?sg_ ?lk_BadBook ?rf_BadBook ?sa_BadBook ?xk_BadBook ?xb_BadBook ?xt_BadBook ?ii_BadBook ?it_BadBook ?nf_BadBook_refrain ?nf_BadBook_verse ?li_BadBook ?ci_BadBook ?ki_BadBook ?res_ ?a_f_Lbegun ?l_Lbegun ?cc_Lbegun ?kp_Lbegun ?a_f_Ltake ?l_Ltake ?cc_Ltake ?kp_Ltake ?a_f_Lbook ?l_Lbook ?cc_Lbook ?kp_Lbook ?a_f_Ldamaged ?l_Ldamaged ?cc_Ldamaged ?kp_Ldamaged ?a_f_Ldefect ?l_Ldefect ?cc_Ldefect ?kp_Ldefect ?a_f_Lreached ?l_Lreached ?cc_Lreached ?kp_Lreached ?a_f_is_word ?l_is_word ?cc_is_word ?kp_is_word ?a_f_is_valid_item ?l_is_valid_item ?cc_is_valid_item ?kp_is_valid_item ?a_f_first_invalid_verse ?l_first_invalid_verse ?cc_first_invalid_verse ?kp_first_invalid_verse ?a_f_validate_book ?l_validate_book ?cc_validate_book ?kp_validate_book ?a_f_initial_state ?l_initial_state ?cc_initial_state ?kp_initial_state ?a_f_all_items ?l_all_items ?cc_all_items ?kp_all_items ?a_f_find_reachable ?l_find_reachable ?cc_find_reachable ?kp_find_reachable ?a_f_reachable_refrains ?l_reachable_refrains ?cc_reachable_refrains ?kp_reachable_refrains ?a_f_Lalike ?l_Lalike ?cc_Lalike ?kp_Lalike ?a_f_law ?l_law ?cc_law ?kp_law ?lk_law ?tp_law ?ch_law ?nl_law ?rc_law ?a_f_Lresult ?l_Lresult ?cc_Lresult ?kp_Lresult
  (case z_ValueError => k_is); (case z_all => k_is); (case z_bool => k_is); (case z_enumerate => k_is); (case z_int => k_is); (case z_isinstance => k_is)
  (case z_len => k_is); (case z_list => k_is); (case z_max => k_is); (case z_range => k_is); (case z_sorted => k_is); (case z_str => k_is)
  (case z_tuple => k_is); (case a_LETTERS => k_is); (case a_MAX_ITEMS => k_is); (case a_MAX_LETTERS => k_is); (case a_MAX_REFRAINS => k_is); (case a_MAX_VERSES => k_is)
  (case a_BadBook => k_is); (case a_BadCertificate => k_is); (case a_BadCount => k_is); (case a_BadRefrain => k_is); (case a_BadState => k_is); (case a_BadTurns => k_is)
  (case a_RefrainBusy => k_is); (case a_SongError => k_is); (case a_TooManyCandidates => k_is); (case a_TooManyWords => k_is); (case sg_ => kernel_rfl); (case lk_BadBook => k_is)
  (case rf_BadBook => decide +kernel); (case sa_BadBook => k_is); (case xk_BadBook => k_is); (case xb_BadBook => k_is); (case xt_BadBook => k_is); (case ii_BadBook => k_is)
  (case it_BadBook => k_is); (case nf_BadBook_refrain => k_is); (case nf_BadBook_verse => k_is); (case li_BadBook => k_is); (case ci_BadBook => k_is); (case ki_BadBook => k_is)
  (case res_ => kernel_rfl); (case a_f_Lbegun => k_is); (case l_Lbegun => k_is); (case cc_Lbegun => k_is); (case kp_Lbegun => k_is); (case a_f_Ltake => k_is)
  (case l_Ltake => k_is); (case cc_Ltake => k_is); (case kp_Ltake => k_is); (case a_f_Lbook => k_is); (case l_Lbook => k_is); (case cc_Lbook => k_is)
  (case kp_Lbook => k_is); (case a_f_Ldamaged => k_is); (case l_Ldamaged => k_is); (case cc_Ldamaged => k_is); (case kp_Ldamaged => k_is); (case a_f_Ldefect => k_is)
  (case l_Ldefect => k_is); (case cc_Ldefect => k_is); (case kp_Ldefect => k_is); (case a_f_Lreached => k_is); (case l_Lreached => k_is); (case cc_Lreached => k_is)
  (case kp_Lreached => k_is); (case a_f_is_word => k_is); (case l_is_word => k_is); (case cc_is_word => k_is); (case kp_is_word => k_is); (case a_f_is_valid_item => k_is)
  (case l_is_valid_item => k_is); (case cc_is_valid_item => k_is); (case kp_is_valid_item => k_is); (case a_f_first_invalid_verse => k_is); (case l_first_invalid_verse => k_is); (case cc_first_invalid_verse => k_is)
  (case kp_first_invalid_verse => k_is); (case a_f_validate_book => k_is); (case l_validate_book => k_is); (case cc_validate_book => k_is); (case kp_validate_book => k_is); (case a_f_initial_state => k_is)
  (case l_initial_state => k_is); (case cc_initial_state => k_is); (case kp_initial_state => k_is); (case a_f_all_items => k_is); (case l_all_items => k_is); (case cc_all_items => k_is)
  (case kp_all_items => k_is); (case a_f_find_reachable => k_is); (case l_find_reachable => k_is); (case cc_find_reachable => k_is); (case kp_find_reachable => k_is); (case a_f_reachable_refrains => k_is)
  (case l_reachable_refrains => k_is); (case cc_reachable_refrains => k_is); (case kp_reachable_refrains => k_is); (case a_f_Lalike => k_is); (case l_Lalike => k_is); (case cc_Lalike => k_is)
  (case kp_Lalike => k_is); (case a_f_law => k_is); (case l_law => k_is); (case cc_law => k_is); (case kp_law => k_is); (case lk_law => k_is)
  (case tp_law => rfl); (case ch_law => kernel_rfl); (case nl_law => kernel_rfl); (case rc_law => decide +kernel); (case a_f_Lresult => k_is); (case l_Lresult => k_is)
  (case cc_Lresult => k_is); (case kp_Lresult => k_is)
