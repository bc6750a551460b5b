import PyProof.Rows.All
import Wide.All
import OpenK.AllK
import Wide.FinOn
import HandS.Base
import HandS.Call
import HandS.List
import HandS.Comp
import HandS.Ends
import HandS.Lambda
import HandS.HeadHook4
import HandS.TupAny
import HandS.TupMul
import HandS.Style
import HandS.Text
import HandS.Words
import HandS.WordsList
import HandS.WordsExc
import HandS.Defaults
import HandS.Iter
import KE.GoesNew
import KE.GoesEnum
import KE.GoesMore
import HandS.IsInst
import HandS.Deep
import HandS.Conv
import HandS.RaiseMore
import KE.SortData
import PyProof.TupleOfSeq
import PyProof.WalksMore
import HandS.HeadEnd
import PyProof.P3In
import PyProof.Rows.InDataRows
import HandS.Head0
import HandS.Head1
import HandS.Head2
import HandS.HeadHook1
import HandS.HeadHook2
import HandS.Exc
import HandS.ExcOwn
import HandS.ExcIs
import PyProof.ExcBaseAll.RuntimeError
import KE.KStateDown
import HandS.More
import PySem.Challenge.RW_evenerrows_k10_any_value_as_row_paper_ch
import KE.SortUse
import HandS.Strs
import HandS.TupSets
import HandS.SetFor
import KE.KRevSl
import HandS.TryOnly
import KE.SortKeyHeap
import HandS.SortKw
import KE.GoesZip
import KE.KDictZip
import PyProof.ReprLen
set_option Elab.async false
set_option linter.all false
set_option maxRecDepth  100000
set_option maxHeartbeats  0
/-! DlA: data over the hand layer: what an address holds as a whole, what a def's slots hold, and how it is kept. -/
namespace DL
open PySem PySem.Spec PyProof.Rows L2
abbrev PD := PyData
abbrev Frag := PySem.W.Frag
abbrev St := L2.St
/-! ### data in a heap -/
mutual
inductive Has (K : Frag) (F : Hp) : V → PD → Prop
  | non : Has K F .non .none
  | bl (b : Bool) : Has K F (.bl b) (.bool b)
  | int (i : Int) : Has K F (.int i) (.int i)
  | str (x : Str) : Has K F (.str x) (.str x)
  | lst {a : Addr} {xs : List V} {ds : List PD} : F a = some (.lst xs) → HasL K F xs ds → Has K F (.ref a) (.list ds)
  | tup {a : Addr} {xs : List V} {ds : List PD} : SqT K F a xs → HasL K F xs ds → Has K F (.ref a) (.tuple ds)
  | dic {a : Addr} : F a = some (.dK []) → Has K F (.ref a) (.dict [])
inductive HasL (K : Frag) (F : Hp) : List V → List PD → Prop
  | nil : HasL K F [] []
  | cons {v : V} {vs : List V} {d : PD} {ds : List PD} : Has K F v d → HasL K F vs ds → HasL K F (v :: vs) (d :: ds)
end
/-- what stood stands: a table of code objects may have grown -/
def LeO : HO → Option HO → Prop
  | .tbl _, g => ∃ ps, g = some (.tbl ps)
  | o, g => g = some o
theorem LeO.of {o : HO} {g : Option HO} (h : g = some o) : LeO o g := by
  subst h
  cases o <;> first | exact ⟨_, rfl⟩ | rfl
theorem LeO.ne {o : HO} {g : Option HO} (h : LeO o g) : g ≠ none := by
  cases o with
  | tbl q => obtain ⟨ps, e⟩ := h; rw [e]; simp
  | _ => rw [show g = some _ from h]; simp
theorem LeO.next {o : HO} {g g' : Option HO} (h : LeO o g) (k : ∀ u, g = some u → LeO u g') : LeO o g' := by
  cases o with
  | tbl q => obtain ⟨ps, e⟩ := h; exact (show ∃ r, g' = some (HO.tbl r) from k (.tbl ps) e)
  | _ => exact k _ h
def Le (F G : Hp) : Prop := ∀ a o, F a = some o → LeO o (G a)
theorem Le.of {F G : Hp} (h : ∀ a o, F a = some o → G a = some o) : Le F G := fun a o e => .of (h a o e)
theorem Le.refl (F : Hp) : Le F F := .of fun _ _ h => h
theorem Le.trans {F G H : Hp} (a : Le F G) (b : Le G H) : Le F H := fun x o h => (a x o h).next (b x)
theorem Le.upd {F : Hp} {a : Addr} {o : HO} (n : F a = none) : Le F (upd F a o) := .of fun b u h => by
  rw [upd_ne (ne_of_none h n)]; exact h
theorem Le.none {F G : Hp} (l : Le F G) {a : Addr} (n : G a = none) : F a = none := by
  cases q : F a with
  | none => rfl
  | some o => exact absurd n (l a o q).ne
/-- the defs' tables of code objects, with the name that a lambda in them bears -/
def tkOf (K : Frag) : Addr × Obj → Option (Addr × Addr × Str)
  | (_, ⟨_, _, .func fd, _⟩) => (match fd.code with
    | .ref c => some (c, He.tabOf K c, fd.qualname ++ ".<locals>." ++ "<lambda>")
    | _ => none)
  | _ => none
def TKc (K : Frag) : List (Addr × Addr × Str) := K.filterMap (tkOf K)
def TK (K : Frag) : List (Addr × Str) := (TKc K).map (·.2)
abbrev Tb (K : Frag) (H : Hp) : Prop := LamX.Tabs (TK K) H
theorem Tb.ext {K : Frag} {H H' : Hp} (t : Tb K H) (e : ∀ b o, H b = some o → H' b = some o) : Tb K H' := LamX.Tabs.ext t e
theorem Tb.upd {K : Frag} {H : Hp} {a : Addr} {o : HO} (t : Tb K H) (n : H a = none) : Tb K (upd H a o) := t.ext fun b u h => by rw [upd_ne (ne_of_none h n)]; exact h
/-- a list is written: the tables stay -/
theorem Tb.write {K : Frag} {H : Hp} {a : Addr} {vs : List V} {o : HO} (t : Tb K H) (h : H a = some (.lst vs)) : Tb K (L2.upd H a o) := fun p hp => by
  obtain ⟨ps, h1, h2, h3⟩ := t p hp
  have ne : ∀ {b : Addr} {u : HO}, H b = some u → u ≠ .lst vs → L2.upd H a o b = some u := fun {b u} e n => by
    rw [upd_ne (fun z => n (by rw [z, h] at e; exact (Option.some.inj e).symm))]; exact e
  refine ⟨ps, ne h1 (by simp), h2, fun pos cv hc => ?_⟩
  obtain ⟨c, e1, e2⟩ := h3 pos cv hc
  exact ⟨c, e1, ne e2 (by unfold LamX.CodeO; simp)⟩
theorem SqT.le {K : Frag} {F G : Hp} (l : Le F G) {a : Addr} {xs : List V} (h : SqT K F a xs) : SqT K G a xs := by
  rcases h with (h | ⟨o, h⟩) | h
  · exact .inl (.inl (l _ _ h))
  · exact .inl (.inr ⟨o, l _ _ h⟩)
  · exact .inr h
theorem SqL.le {K : Frag} {F G : Hp} (l : Le F G) {a : Addr} {xs : List V} (h : SqL K F a xs) : SqL K G a xs := by
  rcases h with (h | ⟨o, h⟩) | h
  · exact .inl (.inl (l _ _ h))
  · exact .inl (.inr ⟨o, l _ _ h⟩)
  · exact .inr h
mutual
theorem Has.le {K : Frag} {F G : Hp} (l : Le F G) : ∀ {v : V} {d : PD}, Has K F v d → Has K G v d
  | _, _, .non => .non
  | _, _, .bl b => .bl b
  | _, _, .int i => .int i
  | _, _, .str x => .str x
  | _, _, .lst h t => .lst (l _ _ h) (HasL.le l t)
  | _, _, .tup h t => .tup (SqT.le l h) (HasL.le l t)
  | _, _, .dic h => .dic (l _ _ h)
theorem HasL.le {K : Frag} {F G : Hp} (l : Le F G) : ∀ {vs : List V} {ds : List PD}, HasL K F vs ds → HasL K G vs ds
  | _, _, .nil => .nil
  | _, _, .cons h t => .cons (Has.le l h) (HasL.le l t)
end
theorem HasL.length {K : Frag} {F : Hp} : ∀ {vs : List V} {ds : List PD}, HasL K F vs ds → vs.length = ds.length
  | _, _, .nil => rfl
  | _, _, .cons _ t => congrArg (· + 1) (HasL.length t)
theorem HasL.append {K : Frag} {F : Hp} : ∀ {vs ws : List V} {ds es : List PD}, HasL K F vs ds → HasL K F ws es → HasL K F (vs ++ ws) (ds ++ es)
  | _, _, _, _, .nil, q => q
  | _, _, _, _, .cons h t, q => .cons h (HasL.append t q)
theorem HasL.get {K : Frag} {F : Hp} : ∀ {vs : List V} {ds : List PD} {i : Nat} {d : PD}, HasL K F vs ds → ds[i]? = some d → ∃ v, vs[i]? = some v ∧ Has K F v d
  | _, _, _, _, .nil, e => by simp at e
  | _, _, 0, _, .cons h _, e => by simp at e; subst e; exact ⟨_, rfl, h⟩
  | _, _, i + 1, d, .cons _ t, e => by
    obtain ⟨v, h1, h2⟩ := HasL.get (i := i) (d := d) t (by simpa using e)
    exact ⟨v, by simpa using h1, h2⟩
theorem HasL.set {K : Frag} {F : Hp} {v : V} {d : PD} (h : Has K F v d) : ∀ {vs : List V} {ds : List PD} (i : Nat), HasL K F vs ds → HasL K F (vs.set i v) (ds.set i d)
  | _, _, _, .nil => .nil
  | _, _, 0, .cons _ t => .cons h t
  | _, _, i + 1, .cons q t => .cons q (HasL.set h i t)
theorem HasL.take {K : Frag} {F : Hp} : ∀ {vs : List V} {ds : List PD} (n : Nat), HasL K F vs ds → HasL K F (vs.take n) (ds.take n)
  | _, _, 0, _ => .nil
  | _, _, _ + 1, .nil => .nil
  | _, _, n + 1, .cons h t => .cons h (HasL.take n t)
theorem HasL.drop {K : Frag} {F : Hp} : ∀ {vs : List V} {ds : List PD} (n : Nat), HasL K F vs ds → HasL K F (vs.drop n) (ds.drop n)
  | _, _, 0, h => h
  | _, _, _ + 1, .nil => .nil
  | _, _, n + 1, .cons _ t => HasL.drop n t
theorem HasL.reverse {K : Frag} {F : Hp} : ∀ {vs : List V} {ds : List PD}, HasL K F vs ds → HasL K F vs.reverse ds.reverse
  | _, _, .nil => .nil
  | _, _, .cons h t => by rw [List.reverse_cons, List.reverse_cons]; exact (HasL.reverse t).append (.cons h .nil)
theorem HasL.rep {K : Frag} {F : Hp} {vs : List V} {ds : List PD} (h : HasL K F vs ds) : ∀ k : Nat, HasL K F (List.replicate k vs).flatten (List.replicate k ds).flatten
  | 0 => .nil
  | k + 1 => by
    rw [List.replicate_succ, List.replicate_succ, List.flatten_cons, List.flatten_cons]
    exact h.append (HasL.rep h k)
theorem HasL.cons_inv {K : Frag} {F : Hp} {vs : List V} {d : PD} {ds : List PD} (h : HasL K F vs (d :: ds)) : ∃ v r, vs = v :: r ∧ Has K F v d ∧ HasL K F r ds := by
  cases h with
  | cons h t => exact ⟨_, _, rfl, h, t⟩
theorem HasL.nil_inv {K : Frag} {F : Hp} {vs : List V} (h : HasL K F vs []) : vs = [] := by cases h; rfl
theorem HasL.ints {K : Frag} {F : Hp} : ∀ {ns : List Int} {vs : List V}, HasL K F vs (ns.map PyData.int) → vs = ns.map V.int
  | [], _, h => h.nil_inv
  | n :: ns, _, h => by
    obtain ⟨v, r, rfl, h1, h2⟩ := h.cons_inv
    cases h1
    rw [HasL.ints h2]; rfl
theorem HasL.of_ints {K : Frag} {F : Hp} : ∀ ns : List Int, HasL K F (ns.map V.int) (ns.map PyData.int)
  | [] => .nil
  | n :: ns => .cons (.int n) (HasL.of_ints ns)
theorem HasL.bools {K : Frag} {F : Hp} : ∀ {ns : List Bool} {vs : List V}, HasL K F vs (ns.map PyData.bool) → vs = ns.map V.bl
  | [], _, h => h.nil_inv
  | n :: ns, _, h => by
    obtain ⟨v, r, rfl, h1, h2⟩ := h.cons_inv
    cases h1
    rw [HasL.bools h2]; rfl
/-! reading: what stands in a heap reads as its data -/
section
variable {X : Cx} {pins : List (Addr × Obj)} {σ : St} {H : Hp} {s : Shared}
theorem dic_reads (I : Inv X pins σ H s) {a : Addr} (h : H a = some (.dK [])) : ∃ as, Reads s.heap (.ref a) (.dict []) as := by
  obtain ⟨_, _, vs, kv, o, es, ep, e, c, d, _, kk, _⟩ := I.hok _ _ h
  cases kv
  have e2 : es = #[] := by
    have q : Pairs (mixKind X.prog X.w) es.toList [] := kk
    cases hh : es.toList with
    | nil => simpa using hh
    | cons a l => rw [hh] at q; cases q
  subst e2
  refine ⟨_, Reads.dict (as := []) (bs := []) e c.1 d ?_ ?_⟩
  · simpa using ReadsAll.nil
  · simpa using ReadsAll.nil
mutual
theorem Has.reads (I : Inv X pins σ H s) {F : Hp} (l : Le F H) : ∀ (d : PD) (v : V) (u : Value), Has X.K F v d → RelV v u → ∃ as, Reads s.heap u d as
  | .none, _, _, h, r => by cases h; cases r; exact ⟨_, Reads.none⟩
  | .bool b, _, _, h, r => by cases h; cases r; exact ⟨_, Reads.bool b⟩
  | .int i, _, _, h, r => by cases h; obtain ⟨t, rfl⟩ := r; exact ⟨_, Reads.int i t⟩
  | .str x, _, _, h, r => by cases h; obtain ⟨t, rfl⟩ := r; exact ⟨_, Reads.str x t⟩
  | .list ds, _, _, h, r => by
    cases h with
    | lst hs ha =>
      cases r
      obtain ⟨its, rv, ⟨o, n, ho, hc, _, hd⟩, _⟩ := I.list (SqL.of (l _ _ hs))
      obtain ⟨as, hr⟩ := HasL.reads I l ds _ its ha rv
      exact ⟨_, Reads.list ho hc hd hr⟩
  | .tuple ds, _, _, h, r => by
    cases h with
    | tup hs ha =>
      cases r
      obtain ⟨its, rv, ⟨o, ho, hc, n, hd⟩, _⟩ := I.tuple (SqT.le l hs)
      obtain ⟨as, hr⟩ := HasL.reads I l ds _ its ha rv
      exact ⟨_, Reads.tuple ho hc hd hr⟩
  | .dict _, _, _, h, r => by
    cases h with
    | dic hs => cases r; exact dic_reads I (l _ _ hs)
theorem HasL.reads (I : Inv X pins σ H s) {F : Hp} (l : Le F H) : ∀ (ds : List PD) (vs : List V) (us : List Value), HasL X.K F vs ds → Vals vs us → ∃ as, ReadsAll s.heap us ds as
  | [], _, _, h, r => by cases h; cases r; exact ⟨_, ReadsAll.nil⟩
  | d :: ds, _, _, h, r => by
    cases h with
    | cons h1 h2 =>
      cases r with
      | cons r1 r2 =>
        obtain ⟨as, q1⟩ := Has.reads I l d _ _ h1 r1
        obtain ⟨bs, q2⟩ := HasL.reads I l ds _ _ h2 r2
        exact ⟨_, ReadsAll.cons q1 q2⟩
end
/-- sys.modules stands as a dict -/
def SM (K : Frag) : Prop := ∃ o, K.lookup sysModules = some o ∧ o.cls = .type "dict"
theorem SM.ne {a : Addr} {o : Obj} (sm : SM X.K) (I : Inv X pins σ H s) (h : s.heap.get? a = some o) (hc : o.cls = .type "list") : sysModules ≠ a := fun e => by
  obtain ⟨o2, h2, h3⟩ := sm
  have h4 := I.kIn _ _ h2
  rw [e, h] at h4
  cases h4
  rw [hc] at h3
  injection h3 with h3; exact absurd h3 (by decide)
theorem dic_readsS (I : Inv X pins σ H s) {a : Addr} (h : H a = some (.dK [])) : ∃ as, Reads s.heap (.ref a) (.dict []) as ∧ sysModules ∉ as := by
  obtain ⟨_, na, vs, kv, o, es, ep, e, c, d, _, kk, _⟩ := I.hok _ _ h
  cases kv
  have e2 : es = #[] := by
    have q : Pairs (mixKind X.prog X.w) es.toList [] := kk
    cases hh : es.toList with
    | nil => simpa using hh
    | cons a l => rw [hh] at q; cases q
  subst e2
  refine ⟨_, Reads.dict (as := []) (bs := []) e c.1 d ?_ ?_, fun m => ?_⟩
  · simpa using ReadsAll.nil
  · simpa using ReadsAll.nil
  · have e : sysModules = a := by simpa using m
    subst e
    exact absurd na (by decide)
mutual
theorem Has.readsS (sm : SM X.K) (I : Inv X pins σ H s) {F : Hp} (l : Le F H) : ∀ (d : PD) (v : V) (u : Value), Has X.K F v d → RelV v u → ∃ as, Reads s.heap u d as ∧ sysModules ∉ as
  | .none, _, _, h, r => by cases h; cases r; exact ⟨_, Reads.none, nofun⟩
  | .bool b, _, _, h, r => by cases h; cases r; exact ⟨_, Reads.bool b, nofun⟩
  | .int i, _, _, h, r => by cases h; obtain ⟨t, rfl⟩ := r; exact ⟨_, Reads.int i t, nofun⟩
  | .str x, _, _, h, r => by cases h; obtain ⟨t, rfl⟩ := r; exact ⟨_, Reads.str x t, nofun⟩
  | .list ds, _, _, h, r => by
    cases h with
    | lst hs ha =>
      cases r
      obtain ⟨its, rv, ⟨o, n, ho, hc, _, hd⟩, _⟩ := I.list (SqL.of (l _ _ hs))
      obtain ⟨as, hr, hn⟩ := HasL.readsS sm I l ds _ its ha rv
      exact ⟨_, Reads.list ho hc hd hr, fun m => (List.mem_cons.mp m).elim (sm.ne I ho hc) hn⟩
  | .tuple ds, _, _, h, r => by
    cases h with
    | tup hs ha =>
      cases r
      obtain ⟨its, rv, ⟨o, ho, hc, n, hd⟩, _⟩ := I.tuple (SqT.le l hs)
      obtain ⟨as, hr, hn⟩ := HasL.readsS sm I l ds _ its ha rv
      exact ⟨_, Reads.tuple ho hc hd hr, hn⟩
  | .dict _, _, _, h, r => by
    cases h with
    | dic hs => cases r; exact dic_readsS I (l _ _ hs)
theorem HasL.readsS (sm : SM X.K) (I : Inv X pins σ H s) {F : Hp} (l : Le F H) : ∀ (ds : List PD) (vs : List V) (us : List Value), HasL X.K F vs ds → Vals vs us → ∃ as, ReadsAll s.heap us ds as ∧ sysModules ∉ as
  | [], _, _, h, r => by cases h; cases r; exact ⟨_, ReadsAll.nil, nofun⟩
  | d :: ds, _, _, h, r => by
    cases h with
    | cons h1 h2 =>
      cases r with
      | cons r1 r2 =>
        obtain ⟨as, q1, n1⟩ := Has.readsS sm I l d _ _ h1 r1
        obtain ⟨bs, q2, n2⟩ := HasL.readsS sm I l ds _ _ h2 r2
        exact ⟨_, ReadsAll.cons q1 q2, fun m => (List.mem_append.mp m).elim n1 n2⟩
end
end
/-! ### slots -/
/-- what a slot holds: data that stands still; a list of one's own; a list that is lent (its address is pinned); the script -/
inductive Val where
  | dat (d : PD) | own (ds : List PD) | ref (ds : List PD) | scr (ds : List PD)
def Val.mut : Val → Option (List PD)
  | .own ds => some ds
  | .ref ds => some ds
  | _ => none
/-- the same list with another content -/
def Val.put (ds : List PD) : Val → Val
  | .own _ => .own ds
  | .ref _ => .ref ds
  | v => v
abbrev Ev := List (Option Val)
/-- a value that has come: data; a new list that nothing else holds; a slot that was named -/
inductive RV where
  | dat (d : PD) | own (ds : List PD) | bor (i : Nat) | scr (ds : List PD)
structure Rep (K : Frag) (B F : Hp) (pa : Nat → Addr) (H : Hp) (σ : St) (ρ : Ev) : Prop where
  fh : Le F H
  bh : Le B H
  tb : Tb K H
  len : ρ.length = σ.length
  dat : ∀ (i : Nat) d, ρ[i]? = some (some (Val.dat d)) → ∃ v, σ[i]? = some (some v) ∧ Has K F v d
  mu : ∀ (i : Nat) (x : Val) ds, ρ[i]? = some (some x) → x.mut = some ds → ∃ a vs, σ[i]? = some (some (V.ref a)) ∧ H a = some (.lst vs) ∧ F a = none ∧ B a = none ∧ HasL K F vs ds
  pin : ∀ (i : Nat) ds, ρ[i]? = some (some (Val.ref ds)) → σ[i]? = some (some (V.ref (pa i)))
  scr : ∀ (i : Nat) ds, ρ[i]? = some (some (Val.scr ds)) → ∃ a vs, σ[i]? = some (some (V.ref a)) ∧ SqL K F a vs ∧ HasL K F vs ds
  inj : ∀ (i j : Nat) (x y : Val) ds es a, ρ[i]? = some (some x) → ρ[j]? = some (some y) → x.mut = some ds → y.mut = some es → σ[i]? = some (some (V.ref a)) → σ[j]? = some (some (V.ref a)) → i = j
/-- F grows, by nothing that B protects -/
structure Ext (B F G : Hp) : Prop where
  le : Le F G
  new : ∀ b, F b = none → G b ≠ none → B b = none
theorem Ext.refl (B F : Hp) : Ext B F F := ⟨Le.refl _, fun b n h => absurd n h⟩
theorem Ext.trans {B F G H : Hp} (a : Ext B F G) (b : Ext B G H) : Ext B F H := ⟨a.le.trans b.le, fun x n h => by
  cases q : G x with
  | none => exact b.new x q h
  | some o => exact a.new x n (by rw [q]; simp)⟩
theorem Ext.upd {B F : Hp} {a : Addr} {o : HO} (n : F a = none) (nb : B a = none) : Ext B F (upd F a o) := ⟨Le.upd n, fun b h1 h2 => by
  by_cases e : b = a
  · subst e; exact nb
  · rw [upd_ne e] at h2; exact absurd h1 h2⟩
/-- a value that has come, in the heap -/
def RepR (K : Frag) (B F : Hp) (H : Hp) (σ : St) (ρ : Ev) : RV → V → Prop
  | .dat d, v => Has K F v d
  | .own ds, v => ∃ a vs, v = .ref a ∧ H a = some (.lst vs) ∧ F a = none ∧ B a = none ∧ HasL K F vs ds ∧ ∀ (i : Nat) (x : Val) es, ρ[i]? = some (some x) → Val.mut x = some es → σ[i]? ≠ some (some (V.ref a))
  | .bor i, v => σ[i]? = some (some v)
  | .scr ds, v => ∃ a vs, v = .ref a ∧ SqL K F a vs ∧ HasL K F vs ds
def RepRs (K : Frag) (B F : Hp) (H : Hp) (σ : St) (ρ : Ev) : List RV → List V → Prop
  | [], vs => vs = []
  | r :: rs, vs => ∃ v ws, vs = v :: ws ∧ RepR K B F H σ ρ r v ∧ RepRs K B F H σ ρ rs ws
def holdR : RV → RV
  | .own ds => .dat (.list ds)
  | r => r
def slotD : Option (Option Val) → Option PD
  | some (some (Val.dat d)) => some d
  | some (some (Val.own ds)) => some (.list ds)
  | some (some (Val.ref ds)) => some (.list ds)
  | _ => none
/-- what it is as data, now -/
def res : RV → Ev → Option PD
  | .dat d, _ => some d
  | .own ds, _ => some (.list ds)
  | .bor i, ρ => slotD ρ[i]?
  | .scr _, _ => none
def resL : List RV → Ev → Option (List PD)
  | [], _ => some []
  | r :: rs, ρ => match res r ρ with
    | some d => (match resL rs ρ with
      | some ds => some (d :: ds)
      | none => none)
    | none => none
/-- data whose top, if a list, may still be someone's own -/
def Top (K : Frag) (F H : Hp) (d : PD) (v : V) : Prop := match d with
  | .list ds => ∃ a vs, v = .ref a ∧ H a = some (.lst vs) ∧ HasL K F vs ds
  | d => Has K F v d
def TopL (K : Frag) (F H : Hp) : List PD → List V → Prop
  | [], vs => vs = []
  | d :: ds, vs => ∃ v ws, vs = v :: ws ∧ Top K F H d v ∧ TopL K F H ds ws
theorem Has.top {K : Frag} {F H : Hp} (l : Le F H) {d : PD} {v : V} (h : Has K F v d) : Top K F H d v := by
  cases d with
  | list ds => cases h with
    | lst h t => exact ⟨_, _, rfl, l _ _ h, t⟩
  | _ => exact h
section
variable {K : Frag} {B F : Hp} {pa : Nat → Addr} {H : Hp} {σ : St} {ρ : Ev}
theorem Rep.ne_slot (R : Rep K B F pa H σ ρ) {a : Addr} (n : H a = none) : ∀ (i : Nat) (x : Val) es, ρ[i]? = some (some x) → Val.mut x = some es → σ[i]? ≠ some (some (V.ref a)) := fun i x es h1 h2 h3 => by
  obtain ⟨b, vs, e1, e2, _⟩ := R.mu i x es h1 h2
  rw [e1] at h3
  have e : b = a := by simpa using h3
  rw [e, n] at e2
  cases e2
/-- F grows by what the heap has already -/
theorem Rep.grow (R : Rep K B F pa H σ ρ) {a : Addr} {o : HO} (ha : H a = some o) (hF : F a = none) (hB : B a = none) (hn : ∀ (i : Nat) (x : Val) es, ρ[i]? = some (some x) → Val.mut x = some es → σ[i]? ≠ some (some (V.ref a))) : Rep K B (upd F a o) pa H σ ρ where
  fh := fun b u e => by
    by_cases q : b = a
    · subst q; rw [upd_same] at e; cases e; exact .of ha
    · rw [upd_ne q] at e; exact R.fh b u e
  bh := R.bh
  tb := R.tb
  len := R.len
  dat := fun i d e => let ⟨v, h1, h2⟩ := R.dat i d e; ⟨v, h1, h2.le (Le.upd hF)⟩
  mu := fun i x ds e1 e2 => by
    obtain ⟨b, vs, h1, h2, h3, h4, h5⟩ := R.mu i x ds e1 e2
    refine ⟨b, vs, h1, h2, ?_, h4, h5.le (Le.upd hF)⟩
    rw [upd_ne]
    · exact h3
    · rintro rfl; exact hn i x ds e1 e2 h1
  pin := R.pin
  scr := fun i ds e => let ⟨b, vs, h1, h2, h3⟩ := R.scr i ds e; ⟨b, vs, h1, SqL.le (Le.upd hF) h2, h3.le (Le.upd hF)⟩
  inj := R.inj
/-- the heap grows by a new thing -/
theorem Rep.alloc (R : Rep K B F pa H σ ρ) {a : Addr} {o : HO} (n : H a = none) : Rep K B F pa (upd H a o) σ ρ where
  fh := R.fh.trans (Le.upd n)
  bh := R.bh.trans (Le.upd n)
  tb := R.tb.upd n
  len := R.len
  dat := R.dat
  mu := fun i x ds e1 e2 => by
    obtain ⟨b, vs, h1, h2, h3, h4, h5⟩ := R.mu i x ds e1 e2
    exact ⟨b, vs, h1, by rw [upd_ne (ne_of_none h2 n)]; exact h2, h3, h4, h5⟩
  pin := R.pin
  scr := R.scr
  inj := R.inj
/-- .. that stands still from now on -/
theorem Rep.new (R : Rep K B F pa H σ ρ) {a : Addr} {o : HO} (n : H a = none) : Rep K B (upd F a o) pa (upd H a o) σ ρ :=
  (R.alloc n).grow upd_same (R.fh.none n) (R.bh.none n) (R.ne_slot n)
theorem Rep.newExt (R : Rep K B F pa H σ ρ) {a : Addr} {o : HO} (n : H a = none) : Ext B F (upd F a o) := Ext.upd (R.fh.none n) (R.bh.none n)
/-- a new list of one's own has come -/
theorem Rep.newOwn (R : Rep K B F pa H σ ρ) {a : Addr} {vs : List V} {ds : List PD} (n : H a = none) (h : HasL K F vs ds) : RepR K B F (upd H a (.lst vs)) σ ρ (.own ds) (.ref a) :=
  ⟨a, vs, rfl, upd_same, R.fh.none n, R.bh.none n, h, R.ne_slot n⟩
/-- a new list held as data -/
theorem hold_rep (R : Rep K B F pa H σ ρ) {r : RV} {v : V} (h : RepR K B F H σ ρ r v) : ∃ F', Ext B F F' ∧ Rep K B F' pa H σ ρ ∧ RepR K B F' H σ ρ (holdR r) v := by
  cases r with
  | dat d => exact ⟨F, Ext.refl _ _, R, h⟩
  | bor i => exact ⟨F, Ext.refl _ _, R, h⟩
  | scr ds => exact ⟨F, Ext.refl _ _, R, h⟩
  | own ds =>
    obtain ⟨a, vs, rfl, h1, h2, h3, h4, h5⟩ := h
    exact ⟨upd F a (.lst vs), Ext.upd h2 h3, R.grow h1 h2 h3 h5, .lst upd_same (h4.le (Le.upd h2))⟩
/-- what is held stays -/
theorem RepR.keep {F' H' : Hp} {ρ' : Ev} {r : RV} {v : V} (h : RepR K B F H σ ρ (holdR r) v) (l : Le F F') : RepR K B F' H' σ ρ' (holdR r) v := by
  cases r with
  | dat d => exact Has.le l h
  | own ds => exact Has.le l h
  | bor i => exact h
  | scr ds => obtain ⟨a, vs, e, h1, h2⟩ := h; exact ⟨a, vs, e, SqL.le l h1, h2.le l⟩
theorem RepRs.keep {F' H' : Hp} {ρ' : Ev} : ∀ {rs : List RV} {vs : List V}, RepRs K B F H σ ρ (rs.map holdR) vs → Le F F' → RepRs K B F' H' σ ρ' (rs.map holdR) vs
  | [], _, h, _ => h
  | _ :: _, _, ⟨v, ws, e, h, t⟩, l => ⟨v, ws, e, RepR.keep h l, RepRs.keep t l⟩
theorem res_top (R : Rep K B F pa H σ ρ) {r : RV} {v : V} {d : PD} (h : RepR K B F H σ ρ r v) (e : res r ρ = some d) : Top K F H d v := by
  cases r with
  | dat d' => cases e; exact Has.top R.fh h
  | own ds => cases e; obtain ⟨a, vs, e1, e2, _, _, e3, _⟩ := h; exact ⟨a, vs, e1, e2, e3⟩
  | scr ds => cases e
  | bor i =>
    have h' : σ[i]? = some (some v) := h
    have e' : slotD ρ[i]? = some d := e
    clear e
    generalize q : ρ[i]? = o at e'
    unfold slotD at e'
    split at e'
    · rename_i d' 
      cases e'
      obtain ⟨u, h1, h2⟩ := R.dat i _ q
      rw [h'] at h1; cases h1
      exact h2.top R.fh
    · rename_i ds
      cases e'
      obtain ⟨a, vs, h1, h2, _, _, h5⟩ := R.mu i _ ds q rfl
      rw [h'] at h1; cases h1
      exact ⟨a, vs, rfl, h2, h5⟩
    · rename_i ds
      cases e'
      obtain ⟨a, vs, h1, h2, _, _, h5⟩ := R.mu i _ ds q rfl
      rw [h'] at h1; cases h1
      exact ⟨a, vs, rfl, h2, h5⟩
    · cases e'
theorem resL_top (R : Rep K B F pa H σ ρ) : ∀ {rs : List RV} {vs : List V} {ds : List PD}, RepRs K B F H σ ρ rs vs → resL rs ρ = some ds → TopL K F H ds vs
  | [], _, _, h, e => by cases e; exact h
  | r :: rs, _, _, ⟨v, ws, ev, h, t⟩, e => by
    unfold resL at e
    split at e
    · rename_i d q
      split at e
      · rename_i ds q2
        cases e
        exact ⟨v, ws, ev, res_top R h q, resL_top R t q2⟩
      · cases e
    · cases e
/-- setting a slot of the names' map -/
theorem get_set {α : Type} {l : List α} {i j : Nat} {x y : α} (h : (l.set i x)[j]? = some y) : (i = j ∧ y = x ∧ i < l.length) ∨ (i ≠ j ∧ l[j]? = some y) := by
  by_cases e : i = j
  · subst e
    by_cases hl : i < l.length
    · rw [List.getElem?_set_self hl] at h; exact .inl ⟨rfl, (Option.some.inj h).symm, hl⟩
    · rw [List.getElem?_eq_none (by simpa using hl)] at h; cases h
  · rw [List.getElem?_set_ne e] at h; exact .inr ⟨e, h⟩
theorem Rep.lt (R : Rep K B F pa H σ ρ) {i : Nat} {x : Option Val} (h : ρ[i]? = some x) : i < σ.length := by
  have := (List.getElem?_eq_some_iff.mp h).1
  rw [R.len] at this; exact this
/-- a slot forgotten -/
theorem Rep.kill (R : Rep K B F pa H σ ρ) (i : Nat) : Rep K B F pa H σ (ρ.set i none) where
  fh := R.fh
  bh := R.bh
  tb := R.tb
  len := by rw [List.length_set]; exact R.len
  dat := fun j d e => (get_set e).elim (fun ⟨_, z, _⟩ => nomatch z) fun ⟨_, q⟩ => R.dat j d q
  mu := fun j x ds e1 e2 => (get_set e1).elim (fun ⟨_, z, _⟩ => nomatch z) fun ⟨_, q⟩ => R.mu j x ds q e2
  pin := fun j ds e => (get_set e).elim (fun ⟨_, z, _⟩ => nomatch z) fun ⟨_, q⟩ => R.pin j ds q
  scr := fun j ds e => (get_set e).elim (fun ⟨_, z, _⟩ => nomatch z) fun ⟨_, q⟩ => R.scr j ds q
  inj := fun j k x y ds es a e1 e2 m1 m2 h1 h2 => by
    rcases get_set e1 with ⟨_, z, _⟩ | ⟨_, q1⟩
    · cases z
    rcases get_set e2 with ⟨_, z, _⟩ | ⟨_, q2⟩
    · cases z
    exact R.inj j k x y ds es a q1 q2 m1 m2 h1 h2
/-- a slot's list is held as data from now on -/
theorem Rep.freeze (R : Rep K B F pa H σ ρ) {i : Nat} {ds : List PD} (h : ρ[i]? = some (some (Val.own ds))) : ∃ F', Ext B F F' ∧ Rep K B F' pa H σ (ρ.set i (some (Val.dat (.list ds)))) := by
  obtain ⟨a, vs, h1, h2, h3, h4, h5⟩ := R.mu i _ ds h rfl
  have other : ∀ (j : Nat) (x : Val) es, (ρ.set i (none : Option Val))[j]? = some (some x) → x.mut = some es → σ[j]? ≠ some (some (V.ref a)) := fun j x es e1 e2 e3 => by
    rcases get_set e1 with ⟨_, z, _⟩ | ⟨ne, q⟩
    · cases z
    · exact ne (R.inj i j _ _ _ _ a h q rfl e2 h1 e3)
  have R2 := (R.kill i).grow h2 h3 h4 other
  refine ⟨upd F a (.lst vs), Ext.upd h3 h4, ⟨R2.fh, R2.bh, R2.tb, by rw [List.length_set]; exact R.len, fun j d e => ?_, fun j x es e1 e2 => ?_, fun j es e => ?_, fun j es e => ?_, fun j k x y es fs b e1 e2 m1 m2 g1 g2 => ?_⟩⟩
  · rcases get_set e with ⟨rfl, z, _⟩ | ⟨ne, q⟩
    · cases z; exact ⟨_, h1, .lst upd_same (h5.le (Le.upd h3))⟩
    · exact R2.dat j d (by rw [List.getElem?_set_ne ne]; exact q)
  · rcases get_set e1 with ⟨rfl, z, _⟩ | ⟨ne, q⟩
    · cases z; cases e2
    · exact R2.mu j x es (by rw [List.getElem?_set_ne ne]; exact q) e2
  · rcases get_set e with ⟨rfl, z, _⟩ | ⟨ne, q⟩
    · cases z
    · exact R2.pin j es (by rw [List.getElem?_set_ne ne]; exact q)
  · rcases get_set e with ⟨rfl, z, _⟩ | ⟨ne, q⟩
    · cases z
    · exact R2.scr j es (by rw [List.getElem?_set_ne ne]; exact q)
  · rcases get_set e1 with ⟨_, z, _⟩ | ⟨_, q1⟩
    · cases z; cases m1
    rcases get_set e2 with ⟨_, z, _⟩ | ⟨_, q2⟩
    · cases z; cases m2
    exact R.inj j k x y es fs b q1 q2 m1 m2 g1 g2
/-- a slot's list is written -/
theorem Rep.write (R : Rep K B F pa H σ ρ) {i : Nat} {x : Val} {ds es : List PD} {a : Addr} {ws : List V} (h : ρ[i]? = some (some x)) (hm : x.mut = some ds) (ha : σ[i]? = some (some (V.ref a))) (hw : HasL K F ws es) :
    Rep K B F pa (upd H a (.lst ws)) σ (ρ.set i (some (x.put es))) := by
  obtain ⟨a', vs, h1, h2, h3, h4, h5⟩ := R.mu i x ds h hm
  rw [ha] at h1; cases h1
  have pm : (x.put es).mut = some es := by cases x <;> first | rfl | cases hm
  refine ⟨fun b o e => ?_, fun b o e => ?_, R.tb.write h2, by rw [List.length_set]; exact R.len, fun j d e => ?_, fun j y fs e1 e2 => ?_, fun j fs e => ?_, fun j fs e => ?_, fun j k y z fs gs b e1 e2 m1 m2 g1 g2 => ?_⟩
  · rw [upd_ne (fun q => by rw [q, h3] at e; cases e)]; exact R.fh b o e
  · rw [upd_ne (fun q => by rw [q, h4] at e; cases e)]; exact R.bh b o e
  · rcases get_set e with ⟨rfl, z, _⟩ | ⟨ne, q⟩
    · have z' := Option.some.inj z
      cases x <;> simp [Val.put, Val.mut] at z' hm
    · exact R.dat j d q
  · rcases get_set e1 with ⟨rfl, z, _⟩ | ⟨ne, q⟩
    · have z' := Option.some.inj z
      subst z'
      rw [pm] at e2
      cases e2
      exact ⟨a, ws, ha, upd_same, h3, h4, hw⟩
    · obtain ⟨b, us, k1, k2, k3, k4, k5⟩ := R.mu j y fs q e2
      refine ⟨b, us, k1, ?_, k3, k4, k5⟩
      rw [upd_ne]
      · exact k2
      · rintro rfl; exact ne (R.inj i j x y ds fs _ h q hm e2 ha k1)
  · rcases get_set e with ⟨rfl, z, _⟩ | ⟨ne, q⟩
    · have z' := Option.some.inj z
      cases x with
      | ref ds' => exact R.pin i ds' h
      | own _ => cases z'
      | dat _ => cases hm
      | scr _ => cases hm
    · exact R.pin j fs q
  · rcases get_set e with ⟨rfl, z, _⟩ | ⟨ne, q⟩
    · have z' := Option.some.inj z
      cases x <;> simp [Val.put, Val.mut] at z' hm
    · exact R.scr j fs q
  · have back : ∀ {j : Nat} {y : Val} {fs : List PD}, (ρ.set i (some (x.put es)))[j]? = some (some y) → y.mut = some fs → ∃ y' fs', ρ[j]? = some (some y') ∧ y'.mut = some fs' := fun {j y fs} e m => by
      rcases get_set e with ⟨rfl, z, _⟩ | ⟨ne, q⟩
      · exact ⟨x, ds, h, hm⟩
      · exact ⟨y, fs, q, m⟩
    obtain ⟨y', fs', q1, m1'⟩ := back e1 m1
    obtain ⟨z', gs', q2, m2'⟩ := back e2 m2
    exact R.inj j k y' z' fs' gs' b q1 q2 m1' m2' g1 g2
/-- a slot is given data -/
theorem Rep.setDat (R : Rep K B F pa H σ ρ) {i : Nat} {v : V} {d : PD} (h : Has K F v d) : Rep K B F pa H (σ.set i (some v)) (ρ.set i (some (.dat d))) := by
  have back : ∀ {j : Nat} {y : Val}, (ρ.set i (some (Val.dat d)))[j]? = some (some y) → (i = j ∧ y = .dat d) ∨ (ρ[j]? = some (some y) ∧ (σ.set i (some v))[j]? = σ[j]?) := fun {j y} e => by
    rcases get_set e with ⟨rfl, z, _⟩ | ⟨ne, q⟩
    · exact .inl ⟨rfl, Option.some.inj z⟩
    · exact .inr ⟨q, List.getElem?_set_ne ne⟩
  refine ⟨R.fh, R.bh, R.tb, by rw [List.length_set, List.length_set]; exact R.len, fun j e he => ?_, fun j y fs e1 e2 => ?_, fun j fs e => ?_, fun j fs e => ?_, fun j k y z fs gs b e1 e2 m1 m2 g1 g2 => ?_⟩
  · have hl : j < σ.length := by
      have := (List.getElem?_eq_some_iff.mp he).1
      rw [List.length_set, R.len] at this; exact this
    rcases back he with ⟨rfl, z⟩ | ⟨q, eq⟩
    · cases z; exact ⟨v, List.getElem?_set_self hl, h⟩
    · rw [eq]; exact R.dat j e q
  · rcases back e1 with ⟨rfl, z⟩ | ⟨q, eq⟩
    · subst z; cases e2
    · rw [eq]; exact R.mu j y fs q e2
  · rcases back e with ⟨rfl, z⟩ | ⟨q, eq⟩
    · cases z
    · rw [eq]; exact R.pin j fs q
  · rcases back e with ⟨rfl, z⟩ | ⟨q, eq⟩
    · cases z
    · rw [eq]; exact R.scr j fs q
  · rcases back e1 with ⟨rfl, z⟩ | ⟨q1, eq1⟩
    · subst z; cases m1
    rcases back e2 with ⟨rfl, z⟩ | ⟨q2, eq2⟩
    · subst z; cases m2
    rw [eq1] at g1
    rw [eq2] at g2
    exact R.inj j k y z fs gs b q1 q2 m1 m2 g1 g2
/-- a slot is given a new list of its own -/
theorem Rep.setOwn (R : Rep K B F pa H σ ρ) {i : Nat} {v : V} {ds : List PD} (h : RepR K B F H σ ρ (.own ds) v) : Rep K B F pa H (σ.set i (some v)) (ρ.set i (some (.own ds))) := by
  obtain ⟨a, vs, rfl, h1, h2, h3, h4, h5⟩ := h
  have back : ∀ {j : Nat} {y : Val}, (ρ.set i (some (Val.own ds)))[j]? = some (some y) → (i = j ∧ y = .own ds) ∨ (i ≠ j ∧ ρ[j]? = some (some y) ∧ (σ.set i (some (.ref a)))[j]? = σ[j]?) := fun {j y} e => by
    rcases get_set e with ⟨rfl, z, _⟩ | ⟨ne, q⟩
    · exact .inl ⟨rfl, Option.some.inj z⟩
    · exact .inr ⟨ne, q, List.getElem?_set_ne ne⟩
  have hl : ∀ {j : Nat} {y : Option Val}, (ρ.set i (some (Val.own ds)))[j]? = some y → j < σ.length := fun {j y} he => by
    have := (List.getElem?_eq_some_iff.mp he).1
    rw [List.length_set, R.len] at this; exact this
  refine ⟨R.fh, R.bh, R.tb, by rw [List.length_set, List.length_set]; exact R.len, fun j e he => ?_, fun j y fs e1 e2 => ?_, fun j fs e => ?_, fun j fs e => ?_, fun j k y z fs gs b e1 e2 m1 m2 g1 g2 => ?_⟩
  · rcases back he with ⟨rfl, z⟩ | ⟨_, q, eq⟩
    · cases z
    · rw [eq]; exact R.dat j e q
  · have hlj := hl e1
    rcases back e1 with ⟨rfl, z⟩ | ⟨_, q, eq⟩
    · subst z; cases e2; exact ⟨a, vs, List.getElem?_set_self hlj, h1, h2, h3, h4⟩
    · rw [eq]; exact R.mu j y fs q e2
  · rcases back e with ⟨rfl, z⟩ | ⟨_, q, eq⟩
    · cases z
    · rw [eq]; exact R.pin j fs q
  · rcases back e with ⟨rfl, z⟩ | ⟨_, q, eq⟩
    · cases z
    · rw [eq]; exact R.scr j fs q
  · have l1 := hl e1
    have l2 := hl e2
    rcases back e1 with ⟨rfl, z⟩ | ⟨n1, q1, eq1⟩
    · rcases back e2 with ⟨r, z2⟩ | ⟨n2, q2, eq2⟩
      · exact r
      · exfalso
        rw [List.getElem?_set_self l1] at g1
        cases g1
        rw [eq2] at g2
        exact h5 k _ gs q2 m2 g2
    · rcases back e2 with ⟨rfl, z2⟩ | ⟨n2, q2, eq2⟩
      · exfalso
        rw [List.getElem?_set_self l2] at g2
        cases g2
        rw [eq1] at g1
        exact h5 j _ fs q1 m1 g1
      · rw [eq1] at g1
        rw [eq2] at g2
        exact R.inj j k y z fs gs b q1 q2 m1 m2 g1 g2
end
end DL
/-! DlB: expressions, by what they are worth as data. -/
namespace DL
open PySem PySem.Spec PyProof.Rows L2
abbrev Mr (α : Type) := Ev → Option (α × Ev)
def EPost (K : Frag) (B F : Hp) (pa : Nat → Addr) (σ : St) (r : RV) (ρ' : Ev) (Q : VK) : Prop :=
  ∀ F' H' v, Ext B F F' → Rep K B F' pa H' σ ρ' → RepR K B F' H' σ ρ' r v → Q v H'
def APost (K : Frag) (B F : Hp) (pa : Nat → Addr) (σ : St) (rs : List RV) (ρ' : Ev) (Q : List V → Hp → Prop) : Prop :=
  ∀ F' H' vs, Ext B F F' → Rep K B F' pa H' σ ρ' → RepRs K B F' H' σ ρ' (rs.map holdR) vs → Q vs H'
def tM (K : Frag) (pa : Nat → Addr) (m : Mr RV) : TE := fun σ H Q => ∃ B F ρ r ρ', Rep K B F pa H σ ρ ∧ m ρ = some (r, ρ') ∧ EPost K B F pa σ r ρ' Q
def tMT (K : Frag) (pa : Nat → Addr) (m : Mr Bool) : TT := fun σ H Q => ∃ B F ρ b ρ', Rep K B F pa H σ ρ ∧ m ρ = some (b, ρ') ∧ ∀ F' H', Ext B F F' → Rep K B F' pa H' σ ρ' → Q b H'
def tMA (K : Frag) (pa : Nat → Addr) (m : Mr (List RV)) : TA := fun σ H Q => ∃ B F ρ rs ρ', Rep K B F pa H σ ρ ∧ m ρ = some (rs, ρ') ∧ APost K B F pa σ rs ρ' Q
/-- the expression e is worth m -/
def DE (X : Cx) (pa : Nat → Addr) (e : Expr) (m : Mr RV) : Prop := PE X e (tM X.K pa m)
def DT (X : Cx) (pa : Nat → Addr) (e : Expr) (m : Mr Bool) : Prop := PT X e (tMT X.K pa m)
def DA (X : Cx) (pa : Nat → Addr) (es : List Expr) (m : Mr (List RV)) : Prop := PA X es (tMA X.K pa m)
theorem EPost.ext {K : Frag} {B F F' : Hp} {pa : Nat → Addr} {σ : St} {r : RV} {ρ' : Ev} {Q : VK} (h : EPost K B F pa σ r ρ' Q) (e : Ext B F F') : EPost K B F' pa σ r ρ' Q :=
  fun G H' v e2 R p => h G H' v (e.trans e2) R p
theorem APost.ext {K : Frag} {B F F' : Hp} {pa : Nat → Addr} {σ : St} {r : List RV} {ρ' : Ev} {Q : List V → Hp → Prop} (h : APost K B F pa σ r ρ' Q) (e : Ext B F F') : APost K B F' pa σ r ρ' Q :=
  fun G H' v e2 R p => h G H' v (e.trans e2) R p
theorem ifT {A B : Prop} (h : A) : if true = true then A else B := by rw [if_pos rfl]; exact h
theorem ifF {A B : Prop} (h : B) : if false = true then A else B := by rw [if_neg (by decide)]; exact h
section
variable {X : Cx} {pa : Nat → Addr}
theorem DE.of {e : Expr} {m : Mr RV} {t : TE} (h : PE X e t) (w : ∀ {B F : Hp} {H : Hp} {σ : St} {ρ : Ev} {r : RV} {ρ' : Ev} {Q : VK}, Rep X.K B F pa H σ ρ → m ρ = some (r, ρ') → EPost X.K B F pa σ r ρ' Q → t σ H Q) : DE X pa e m :=
  ⟨fun pins s σ H Q I ⟨B, F, ρ, r, ρ', R, e1, p⟩ => h.run pins s σ H Q I (w R e1 p)⟩
theorem DT.of {e : Expr} {m : Mr Bool} {t : TT} (h : PT X e t) (w : ∀ {B F : Hp} {H : Hp} {σ : St} {ρ : Ev} {b : Bool} {ρ' : Ev} {Q : Bool → Hp → Prop}, Rep X.K B F pa H σ ρ → m ρ = some (b, ρ') → (∀ F' H', Ext B F F' → Rep X.K B F' pa H' σ ρ' → Q b H') → t σ H Q) : DT X pa e m :=
  ⟨fun pins s σ H Q I ⟨B, F, ρ, r, ρ', R, e1, p⟩ => h.run pins s σ H Q I (w R e1 p)⟩
theorem DA.of {es : List Expr} {m : Mr (List RV)} {t : TA} (h : PA X es t) (w : ∀ {B F : Hp} {H : Hp} {σ : St} {ρ : Ev} {r : List RV} {ρ' : Ev} {Q : List V → Hp → Prop}, Rep X.K B F pa H σ ρ → m ρ = some (r, ρ') → APost X.K B F pa σ r ρ' Q → t σ H Q) : DA X pa es m :=
  ⟨fun pos pins s σ H Q I ⟨B, F, ρ, r, ρ', R, e1, p⟩ => h.run pos pins s σ H Q I (w R e1 p)⟩
/-- how a value of a subexpression is used: it is held, then the rest goes on -/
theorem tM_use {K : Frag} {m : Mr RV} {B F H : Hp} {σ : St} {ρ ρ1 : Ev} {r : RV} {Q : VK} (R : Rep K B F pa H σ ρ) (e : m ρ = some (r, ρ1))
    (h : ∀ F1 H1 v, Ext B F F1 → Rep K B F1 pa H1 σ ρ1 → RepR K B F1 H1 σ ρ1 (holdR r) v → Q v H1) : tM K pa m σ H Q :=
  ⟨B, F, ρ, r, ρ1, R, e, fun F' H' v E1 R1 P1 => by
    obtain ⟨F2, E2, R2, P2⟩ := hold_rep R1 P1
    exact h F2 H' v (E1.trans E2) R2 P2⟩
theorem res_hold (r : RV) (ρ : Ev) : res (holdR r) ρ = res r ρ := by cases r <;> rfl
theorem resL_hold : ∀ (rs : List RV) (ρ : Ev), resL (rs.map holdR) ρ = resL rs ρ
  | [], _ => rfl
  | r :: rs, ρ => by
    show (match res (holdR r) ρ with | some d => (match resL (rs.map holdR) ρ with | some ds => some (d :: ds) | none => none) | none => none) = _
    rw [res_hold, resL_hold rs ρ] <;> rfl
/-! ### names, constants -/
def mVar (i : Nat) : Mr RV := fun ρ => match ρ[i]? with
  | some (some (Val.dat d)) => some (.dat d, ρ)
  | some (some (Val.own _)) => some (.bor i, ρ)
  | some (some (Val.ref _)) => some (.bor i, ρ)
  | some (some (Val.scr ds)) => some (.scr ds, ρ)
  | _ => none
theorem de_var (i : Nat) {x : Str} {pos : Pos} (hN : X.N[i]? = some x := by rfl) (hv : Vis X.env.scope x := by first | exact Or.inl rfl | exact Or.inr (Or.inl rfl) | exact Or.inr (Or.inr rfl)) (hd : (x == ("__debug__" : Str)) = false := by decide) (hc : (x == ("__classdict__" : Str)) = false := by decide) :
    DE X pa (.Name x pos) (mVar i) := by
  refine DE.of (pe_var hN hv hd hc) fun {B F H σ ρ r ρ' Q} R e p => ?_
  unfold mVar at e
  split at e
  · rename_i d q
    cases e
    obtain ⟨v, h1, h2⟩ := R.dat i d q
    exact ⟨v, h1, p F H v (Ext.refl _ _) R h2⟩
  · rename_i ds q
    cases e
    obtain ⟨a, vs, h1, _⟩ := R.mu i _ ds q rfl
    exact ⟨_, h1, p F H _ (Ext.refl _ _) R h1⟩
  · rename_i ds q
    cases e
    obtain ⟨a, vs, h1, _⟩ := R.mu i _ ds q rfl
    exact ⟨_, h1, p F H _ (Ext.refl _ _) R h1⟩
  · rename_i ds q
    cases e
    obtain ⟨a, vs, h1, h2, h3⟩ := R.scr i ds q
    exact ⟨_, h1, p F H _ (Ext.refl _ _) R ⟨a, vs, rfl, h2, h3⟩⟩
  · cases e
def mC (d : PD) : Mr RV := fun ρ => some (.dat d, ρ)
theorem de_const {e : Expr} {v : V} {d : PD} (h : PE X e (tC v)) (hv : ∀ F, Has X.K F v d) : DE X pa e (mC d) :=
  DE.of h fun {B F H σ ρ r ρ' Q} R e p => by
    cases e
    exact p F H v (Ext.refl _ _) R (hv F)
theorem de_int {i j pos} : DE X pa (.Constant (.int i) j pos) (mC (.int i)) := de_const pe_int fun _ => .int _
theorem de_bl {i j pos} : DE X pa (.Constant (.bool i) j pos) (mC (.bool i)) := de_const pe_bl fun _ => .bl _
theorem de_non {j pos} : DE X pa (.Constant .none j pos) (mC .none) := de_const pe_non fun _ => .non
theorem de_str {i j pos} : DE X pa (.Constant (.str i) j pos) (mC (.str i)) := de_const pe_str fun _ => .str _
/-- a module's constant number -/
theorem de_gint {x : Str} {i : Int} {pos : Pos} (hm : ∃ t, X.mg x = some (.int i t)) (hg : Gl X x := by rfl) (hd : (x == ("__debug__" : Str)) = false := by decide) : DE X pa (.Name x pos) (mC (.int i)) := by
  obtain ⟨t, hm⟩ := hm
  exact de_const (pe_glob hg hm (v := .int i) ⟨t, rfl⟩ hd) fun _ => .int _
/-! ### two operands -/
def mBin (f : PD → PD → Option RV) (ma mb : Mr RV) : Mr RV := fun ρ => match ma ρ with
  | some (ra, ρ1) => (match mb ρ1 with
    | some (rb, ρ2) => (match res ra ρ2 with
      | some x => (match res rb ρ2 with
        | some y => (match f x y with
          | some r => some (r, ρ2)
          | none => none)
        | none => none)
      | none => none)
    | none => none)
  | none => none
/-- a rule by values, as a function of data -/
def Sem2 (X : Cx) (pa : Nat → Addr) (r : R2) (f : PD → PD → Option RV) : Prop := ∀ {B F H : Hp} {σ : St} {ρ : Ev} {x y : V} {d e : PD} {out : RV} {Q : VK}, Rep X.K B F pa H σ ρ → Top X.K F H d x → Top X.K F H e y → f d e = some out → EPost X.K B F pa σ out ρ Q → r x y H Q
def Sem1 (X : Cx) (pa : Nat → Addr) (r : V → Hp → VK → Prop) (f : PD → Option RV) : Prop := ∀ {B F H : Hp} {σ : St} {ρ : Ev} {x : V} {d : PD} {out : RV} {Q : VK}, Rep X.K B F pa H σ ρ → Top X.K F H d x → f d = some out → EPost X.K B F pa σ out ρ Q → r x H Q
def SemL (X : Cx) (pa : Nat → Addr) (r : List V → Hp → VK → Prop) (f : List PD → Option RV) : Prop := ∀ {B F H : Hp} {σ : St} {ρ : Ev} {xs : List V} {ds : List PD} {out : RV} {Q : VK}, Rep X.K B F pa H σ ρ → TopL X.K F H ds xs → f ds = some out → EPost X.K B F pa σ out ρ Q → r xs H Q
theorem mBin_inv {f : PD → PD → Option RV} {ma mb : Mr RV} {ρ ρ' : Ev} {r : RV} (e : mBin f ma mb ρ = some (r, ρ')) : ∃ ra ρ1 rb x y, ma ρ = some (ra, ρ1) ∧ mb ρ1 = some (rb, ρ') ∧ res ra ρ' = some x ∧ res rb ρ' = some y ∧ f x y = some r := by
  unfold mBin at e
  split at e
  · rename_i ra ρ1 h1
    split at e
    · rename_i rb ρ2 h2
      split at e
      · rename_i x h3
        split at e
        · rename_i y h4
          split at e
          · rename_i r' h5
            cases e
            exact ⟨ra, ρ1, rb, x, y, h1, h2, h3, h4, h5⟩
          · cases e
        · cases e
      · cases e
    · cases e
  · cases e
theorem tOp_bin {r : R2} {f : PD → PD → Option RV} {ma mb : Mr RV} (sem : Sem2 X pa r f) {B F H : Hp} {σ : St} {ρ ρ' : Ev} {out : RV} {Q : VK} (R : Rep X.K B F pa H σ ρ) (e : mBin f ma mb ρ = some (out, ρ')) (p : EPost X.K B F pa σ out ρ' Q) :
    tOp r (tM X.K pa ma) (tM X.K pa mb) σ H Q := by
  obtain ⟨ra, ρ1, rb, x, y, h1, h2, h3, h4, h5⟩ := mBin_inv e
  refine tM_use R h1 fun F1 H1 v E1 R1 P1 => ?_
  refine tM_use R1 h2 fun F2 H2 u E2 R2 P2 => ?_
  exact sem R2 (res_top R2 (P1.keep E2.le) (by rw [res_hold]; exact h3)) (res_top R2 P2 (by rw [res_hold]; exact h4)) h5 (p.ext (E1.trans E2))
theorem de_bin {a b : Expr} {op : Operator} {pos : Pos} {r : R2} {f : PD → PD → Option RV} {ma mb : Mr RV} (ho : OpR X (binaryOp op) r) (sem : Sem2 X pa r f) (ha : DE X pa a ma) (hb : DE X pa b mb) : DE X pa (.BinOp a op b pos) (mBin f ma mb) :=
  DE.of (pe_op ho ha hb) fun R e p => tOp_bin sem R e p
theorem de_cmp {a b : Expr} {op : CmpOp} {pos : Pos} {r : R2} {f : PD → PD → Option RV} {ma mb : Mr RV} (ho : OpR X (compareOp op) r) (sem : Sem2 X pa r f) (hm : behindInMarks op b = false) (ha : DE X pa a ma) (hb : DE X pa b mb) : DE X pa (.Compare a [op] [b] pos) (mBin f ma mb) :=
  DE.of (pe_cmpR ho ha hb hm) fun R e p => tOp_bin sem R e p
/-- a value that is a bool -/
def mTruth (m : Mr RV) : Mr Bool := fun ρ => match m ρ with
  | some (RV.dat (.bool b), ρ') => some (b, ρ')
  | _ => none
theorem mTruth_inv {m : Mr RV} {ρ ρ' : Ev} {b : Bool} (e : mTruth m ρ = some (b, ρ')) : m ρ = some (RV.dat (.bool b), ρ') := by
  unfold mTruth at e
  split at e
  · rename_i h; cases e; exact h
  · cases e
theorem dt_cmp {a b : Expr} {op : CmpOp} {pos : Pos} {r : R2} {f : PD → PD → Option RV} {ma mb : Mr RV} (ho : OpR X (compareOp op) r) (sem : Sem2 X pa r f) (hm : behindInMarks op b = false) (ha : DE X pa a ma) (hb : DE X pa b mb) : DT X pa (.Compare a [op] [b] pos) (mTruth (mBin f ma mb)) :=
  DT.of (pt_cmpR ho ha hb hm) fun {B F H σ ρ b ρ' Q} R e p => by
    refine tOp_bin sem R (mTruth_inv e) fun F' H' v E' R' P' => ?_
    cases P'
    exact ⟨b, rfl, p F' H' E' R'⟩
/-- any expression that gives a bool, as a test -/
theorem dt_val {e : Expr} {m : Mr RV} (h : DE X pa e m) (he : ∀ whole, isTrue e X.env whole = (do let v ← whole; standAt e.pos; holding [v] (truthy v)) := by intro _; rfl) : DT X pa e (mTruth m) :=
  DT.of (pt_val h he) fun {B F H σ ρ b ρ' Q} R e p => by
    refine ⟨B, F, ρ, _, ρ', R, mTruth_inv e, fun F' H' v E' R' P' => ?_⟩
    cases P'
    exact ⟨b, rfl, p F' H' E' R'⟩
/-- three operands in a row -/
def mChain (f g : PD → PD → Option RV) (ma mb mc : Mr RV) : Mr RV := fun ρ => match ma ρ with
  | some (ra, ρ1) => (match mb ρ1 with
    | some (rb, ρ2) => (match res ra ρ2 with
      | some x => (match res rb ρ2 with
        | some y => (match f x y with
          | some (RV.dat (.bool true)) => (match mc ρ2 with
            | some (rc, ρ3) => (match res rb ρ3 with
              | some y' => (match res rc ρ3 with
                | some z => (match g y' z with
                  | some r => some (r, ρ3)
                  | none => none)
                | none => none)
              | none => none)
            | none => none)
          | some (RV.dat (.bool false)) => some (RV.dat (.bool false), ρ2)
          | _ => none)
        | none => none)
      | none => none)
    | none => none)
  | none => none
theorem tChain_m {r r' : R2} {f g : PD → PD → Option RV} {ma mb mc : Mr RV} (sf : Sem2 X pa r f) (sg : Sem2 X pa r' g) {B F H : Hp} {σ : St} {ρ ρ' : Ev} {out : RV} {Q : VK} (R : Rep X.K B F pa H σ ρ) (e : mChain f g ma mb mc ρ = some (out, ρ')) (p : EPost X.K B F pa σ out ρ' Q) :
    tChain r r' (tM X.K pa ma) (tM X.K pa mb) (tM X.K pa mc) σ H Q := by
  unfold mChain at e
  split at e
  · rename_i ra ρ1 h1
    split at e
    · rename_i rb ρ2 h2
      refine tM_use R h1 fun F1 H1 v E1 R1 P1 => ?_
      refine tM_use R1 h2 fun F2 H2 u E2 R2 P2 => ?_
      split at e
      · rename_i x h3
        split at e
        · rename_i y h4
          split at e
          · rename_i h5
            refine sf R2 (res_top R2 (P1.keep E2.le) (by rw [res_hold]; exact h3)) (res_top R2 P2 (by rw [res_hold]; exact h4)) h5 fun F3 H3 w E3 R3 P3 => ?_
            cases P3
            refine ⟨true, rfl, ?_⟩
            refine ifT ?_
            split at e
            · rename_i rc ρ3 h6
              refine tM_use R3 h6 fun F4 H4 z E4 R4 P4 => ?_
              split at e
              · rename_i y' h7
                split at e
                · rename_i z' h8
                  split at e
                  · rename_i r9 h9
                    cases e
                    exact sg R4 (res_top R4 (P2.keep (E3.trans E4).le) (by rw [res_hold]; exact h7)) (res_top R4 P4 (by rw [res_hold]; exact h8)) h9 (p.ext (E1.trans (E2.trans (E3.trans E4))))
                  · cases e
                · cases e
              · cases e
            · cases e
          · rename_i h5
            cases e
            refine sf R2 (res_top R2 (P1.keep E2.le) (by rw [res_hold]; exact h3)) (res_top R2 P2 (by rw [res_hold]; exact h4)) h5 fun F3 H3 w E3 R3 P3 => ?_
            cases P3
            refine ⟨false, rfl, ?_⟩
            refine ifF ?_
            exact p F3 H3 _ (E1.trans (E2.trans E3)) R3 (.bl false)
          · cases e
        · cases e
      · cases e
    · cases e
  · cases e
theorem de_chain {a b c : Expr} {op op' : CmpOp} {pos : Pos} {r r' : R2} {f g : PD → PD → Option RV} {ma mb mc : Mr RV} (ho : OpR X (compareOp op) r) (ho' : OpR X (compareOp op') r') (sf : Sem2 X pa r f) (sg : Sem2 X pa r' g) (ha : DE X pa a ma) (hb : DE X pa b mb) (hc : DE X pa c mc)
    (n1 : op ≠ .In := by decide) (n2 : op ≠ .NotIn := by decide) (n3 : op' ≠ .In := by decide) (n4 : op' ≠ .NotIn := by decide) : DE X pa (.Compare a [op, op'] [b, c] pos) (mChain f g ma mb mc) :=
  DE.of (pe_chain ho ho' ha hb hc (nomark _ n3 n4)) fun R e p => tChain_m sf sg R e p
theorem dt_chain {a b c : Expr} {op op' : CmpOp} {pos : Pos} {r r' : R2} {f g : PD → PD → Option RV} {ma mb mc : Mr RV} (ho : OpR X (compareOp op) r) (ho' : OpR X (compareOp op') r') (sf : Sem2 X pa r f) (sg : Sem2 X pa r' g) (ha : DE X pa a ma) (hb : DE X pa b mb) (hc : DE X pa c mc)
    (n1 : op ≠ .In := by decide) (n2 : op ≠ .NotIn := by decide) (n3 : op' ≠ .In := by decide) (n4 : op' ≠ .NotIn := by decide) : DT X pa (.Compare a [op, op'] [b, c] pos) (mTruth (mChain f g ma mb mc)) :=
  DT.of (pt_chain ho ho' ha hb hc (nomark _ n3 n4)) fun {B F H σ ρ b ρ' Q} R e p => by
    refine tChain_m sf sg R (mTruth_inv e) fun F' H' v E' R' P' => ?_
    cases P'
    exact ⟨b, rfl, p F' H' E' R'⟩
/-! ### and, or, not, if -/
def mAnd (ma mb : Mr Bool) : Mr Bool := fun ρ => match ma ρ with
  | some (true, ρ1) => mb ρ1
  | some (false, ρ1) => some (false, ρ1)
  | none => none
def mOr (ma mb : Mr Bool) : Mr Bool := fun ρ => match ma ρ with
  | some (true, ρ1) => some (true, ρ1)
  | some (false, ρ1) => mb ρ1
  | none => none
def mNot (ma : Mr Bool) : Mr Bool := fun ρ => match ma ρ with
  | some (b, ρ1) => some (!b, ρ1)
  | none => none
/-- a test whatever its whole is -/
def DW (X : Cx) (pa : Nat → Addr) (e : Expr) (m : Mr Bool) : Prop := PW X e (tMT X.K pa m)
theorem DW.of {e : Expr} {m : Mr Bool} {t : TT} (h : PW X e t) (w : ∀ {B F : Hp} {H : Hp} {σ : St} {ρ : Ev} {b : Bool} {ρ' : Ev} {Q : Bool → Hp → Prop}, Rep X.K B F pa H σ ρ → m ρ = some (b, ρ') → (∀ F' H', Ext B F F' → Rep X.K B F' pa H' σ ρ' → Q b H') → t σ H Q) : DW X pa e m :=
  ⟨fun wh pins s σ H Q I ⟨B, F, ρ, r, ρ', R, e1, p⟩ => h.run wh pins s σ H Q I (w R e1 p)⟩
theorem DW.dt {e : Expr} {m : Mr Bool} (h : DW X pa e m) : DT X pa e m := PW.pt h
theorem dw_and1 {a : Expr} {pos : Pos} {ma : Mr Bool} (ha : DT X pa a ma) : DW X pa (.BoolOp .And [a] pos) ma := pw_and1 ha
theorem dw_or1 {a : Expr} {pos : Pos} {ma : Mr Bool} (ha : DT X pa a ma) : DW X pa (.BoolOp .Or [a] pos) ma := pw_or1 ha
theorem dw_and {a b : Expr} {rest : List Expr} {pos : Pos} {ma mb : Mr Bool} (ha : DT X pa a ma) (hb : DW X pa (.BoolOp .And (b :: rest) pos) mb) : DW X pa (.BoolOp .And (a :: b :: rest) pos) (mAnd ma mb) :=
  DW.of (pw_and ha hb) fun {B F H σ ρ b ρ' Q} R e p => by
    unfold mAnd at e
    split at e
    · rename_i ρ1 h1
      refine ⟨B, F, ρ, true, ρ1, R, h1, fun F' H' E' R' => ?_⟩
      refine ifT ?_
      exact ⟨B, F', ρ1, b, ρ', R', e, fun F2 H2 E2 R2 => p F2 H2 (E'.trans E2) R2⟩
    · rename_i ρ1 h1
      cases e
      refine ⟨B, F, ρ, false, ρ', R, h1, fun F' H' E' R' => ?_⟩
      refine ifF ?_
      exact p F' H' E' R'
    · cases e
theorem dw_or {a b : Expr} {rest : List Expr} {pos : Pos} {ma mb : Mr Bool} (ha : DT X pa a ma) (hb : DW X pa (.BoolOp .Or (b :: rest) pos) mb) : DW X pa (.BoolOp .Or (a :: b :: rest) pos) (mOr ma mb) :=
  DW.of (pw_or ha hb) fun {B F H σ ρ b ρ' Q} R e p => by
    unfold mOr at e
    split at e
    · rename_i ρ1 h1
      cases e
      refine ⟨B, F, ρ, true, ρ', R, h1, fun F' H' E' R' => ?_⟩
      refine ifT ?_
      exact p F' H' E' R'
    · rename_i ρ1 h1
      refine ⟨B, F, ρ, false, ρ1, R, h1, fun F' H' E' R' => ?_⟩
      refine ifF ?_
      exact ⟨B, F', ρ1, b, ρ', R', e, fun F2 H2 E2 R2 => p F2 H2 (E'.trans E2) R2⟩
    · cases e
theorem mNot_inv {ma : Mr Bool} {ρ ρ' : Ev} {b : Bool} (e : mNot ma ρ = some (b, ρ')) : ∃ c, ma ρ = some (c, ρ') ∧ b = !c := by
  unfold mNot at e
  split at e
  · rename_i c ρ1 h; cases e; exact ⟨c, h, rfl⟩
  · cases e
theorem dt_not {a : Expr} {pos : Pos} {ma : Mr Bool} (ha : DT X pa a ma) : DT X pa (.UnaryOp .Not a pos) (mNot ma) :=
  DT.of (pt_not ha) fun {B F H σ ρ b ρ' Q} R e p => by
    obtain ⟨c, h, rfl⟩ := mNot_inv e
    exact ⟨B, F, ρ, c, ρ', R, h, p⟩
def mOfB (m : Mr Bool) : Mr RV := fun ρ => match m ρ with
  | some (b, ρ') => some (.dat (.bool b), ρ')
  | none => none
/-- .. as values -/
def mAndV (ma mb : Mr RV) : Mr RV := fun ρ => match ma ρ with
  | some (RV.dat (.bool true), ρ1) => mb ρ1
  | some (RV.dat (.bool false), ρ1) => some (.dat (.bool false), ρ1)
  | _ => none
def mOrV (ma mb : Mr RV) : Mr RV := fun ρ => match ma ρ with
  | some (RV.dat (.bool true), ρ1) => some (.dat (.bool true), ρ1)
  | some (RV.dat (.bool false), ρ1) => mb ρ1
  | _ => none
def mNotV (ma : Mr RV) : Mr RV := fun ρ => match ma ρ with
  | some (RV.dat (.bool b), ρ1) => some (.dat (.bool !b), ρ1)
  | _ => none
theorem de_one {a : Expr} {op} {pos : Pos} {m : Mr RV} (h : DE X pa a m) : DE X pa (.BoolOp op [a] pos) m := pe_one h
theorem de_and {a b : Expr} {rest : List Expr} {pos : Pos} {ma mb : Mr RV} (ha : DE X pa a ma) (hb : DE X pa (.BoolOp .And (b :: rest) pos) mb) : DE X pa (.BoolOp .And (a :: b :: rest) pos) (mAndV ma mb) :=
  DE.of (pe_and ha hb) fun {B F H σ ρ r ρ' Q} R e p => by
    unfold mAndV at e
    split at e
    · rename_i ρ1 h1
      refine ⟨B, F, ρ, _, ρ1, R, h1, fun F' H' v E' R' P' => ?_⟩
      cases P'
      refine ⟨true, rfl, ?_⟩
      refine ifT ?_
      exact ⟨B, F', ρ1, r, ρ', R', e, p.ext E'⟩
    · rename_i ρ1 h1
      cases e
      refine ⟨B, F, ρ, _, ρ', R, h1, fun F' H' v E' R' P' => ?_⟩
      cases P'
      refine ⟨false, rfl, ?_⟩
      refine ifF ?_
      exact p F' H' _ E' R' (.bl false)
    · cases e
theorem de_or {a b : Expr} {rest : List Expr} {pos : Pos} {ma mb : Mr RV} (ha : DE X pa a ma) (hb : DE X pa (.BoolOp .Or (b :: rest) pos) mb) : DE X pa (.BoolOp .Or (a :: b :: rest) pos) (mOrV ma mb) :=
  DE.of (pe_or ha hb) fun {B F H σ ρ r ρ' Q} R e p => by
    unfold mOrV at e
    split at e
    · rename_i ρ1 h1
      cases e
      refine ⟨B, F, ρ, _, ρ', R, h1, fun F' H' v E' R' P' => ?_⟩
      cases P'
      refine ⟨true, rfl, ?_⟩
      refine ifT ?_
      exact p F' H' _ E' R' (.bl true)
    · rename_i ρ1 h1
      refine ⟨B, F, ρ, _, ρ1, R, h1, fun F' H' v E' R' P' => ?_⟩
      cases P'
      refine ⟨false, rfl, ?_⟩
      refine ifF ?_
      exact ⟨B, F', ρ1, r, ρ', R', e, p.ext E'⟩
    · cases e
theorem de_not {a : Expr} {pos : Pos} {ma : Mr RV} (ha : DE X pa a ma) : DE X pa (.UnaryOp .Not a pos) (mNotV ma) :=
  DE.of (pe_not ha) fun {B F H σ ρ r ρ' Q} R e p => by
    unfold mNotV at e
    split at e
    · rename_i b ρ1 h1
      cases e
      refine ⟨B, F, ρ, _, ρ', R, h1, fun F' H' v E' R' P' => ?_⟩
      cases P'
      exact ⟨b, rfl, p F' H' _ E' R' (.bl _)⟩
    · cases e
def mIf {α : Type} (mc : Mr Bool) (ma mb : Mr α) : Mr α := fun ρ => match mc ρ with
  | some (true, ρ1) => ma ρ1
  | some (false, ρ1) => mb ρ1
  | none => none
theorem de_if {c a b : Expr} {pos : Pos} {mc : Mr Bool} {ma mb : Mr RV} (hc : DT X pa c mc) (ha : DE X pa a ma) (hb : DE X pa b mb) : DE X pa (.IfExp c a b pos) (mIf mc ma mb) :=
  DE.of (pe_ifExp hc ha hb) fun {B F H σ ρ r ρ' Q} R e p => by
    unfold mIf at e
    split at e
    · rename_i ρ1 h1
      refine ⟨B, F, ρ, true, ρ1, R, h1, fun F' H' E' R' => ?_⟩
      refine ifT ?_
      exact ⟨B, F', ρ1, r, ρ', R', e, p.ext E'⟩
    · rename_i ρ1 h1
      refine ⟨B, F, ρ, false, ρ1, R, h1, fun F' H' E' R' => ?_⟩
      refine ifF ?_
      exact ⟨B, F', ρ1, r, ρ', R', e, p.ext E'⟩
    · cases e
/-! ### argument lists, displays -/
def mNil : Mr (List RV) := fun ρ => some ([], ρ)
def mCons (m : Mr RV) (ms : Mr (List RV)) : Mr (List RV) := fun ρ => match m ρ with
  | some (r, ρ1) => (match ms ρ1 with
    | some (rs, ρ2) => some (r :: rs, ρ2)
    | none => none)
  | none => none
theorem da_nil : DA X pa [] mNil := DA.of pa_nil fun {B F H σ ρ r ρ' Q} R e p => by
  cases e
  exact p F H [] (Ext.refl _ _) R rfl
theorem da_cons {e : Expr} {es : List Expr} {m : Mr RV} {ms : Mr (List RV)} (h : DE X pa e m) (hr : DA X pa es ms) (hs : starEach (e :: es) X.env = (false, eval e X.env) :: starEach es X.env := by rfl) : DA X pa (e :: es) (mCons m ms) := DA.of (pa_cons h hr hs) fun {B F H σ ρ r ρ' Q} R e p => by
  unfold mCons at e
  split at e
  · rename_i r1 ρ1 h1
    split at e
    · rename_i rs ρ2 h2
      cases e
      refine tM_use R h1 fun F1 H1 v E1 R1 P1 => ?_
      refine ⟨B, F1, ρ1, rs, ρ', R1, h2, fun F2 H2 vs E2 R2 P2 => ?_⟩
      exact p F2 H2 (v :: vs) (E1.trans E2) R2 ⟨v, vs, rfl, P1.keep E2.le, P2⟩
    · cases e
  · cases e
/-- all held as data -/
def toDat : RV → Ev → Option (PD × Ev)
  | .dat d, ρ => some (d, ρ)
  | .own ds, ρ => some (.list ds, ρ)
  | .bor i, ρ => match ρ[i]? with
    | some (some (Val.dat d)) => some (d, ρ)
    | some (some (Val.own ds)) => some (.list ds, ρ.set i (some (Val.dat (.list ds))))
    | _ => none
  | .scr _, _ => none
def toDatL : List RV → Ev → Option (List PD × Ev)
  | [], ρ => some ([], ρ)
  | r :: rs, ρ => match toDat r ρ with
    | some (d, ρ1) => (match toDatL rs ρ1 with
      | some (ds, ρ2) => some (d :: ds, ρ2)
      | none => none)
    | none => none
theorem toDat_rep {K : Frag} {B F H : Hp} {σ : St} {ρ ρ' : Ev} {r : RV} {v : V} {d : PD} (R : Rep K B F pa H σ ρ) (P : RepR K B F H σ ρ r v) (e : toDat r ρ = some (d, ρ')) : ∃ F', Ext B F F' ∧ Rep K B F' pa H σ ρ' ∧ Has K F' v d := by
  cases r with
  | dat d' => cases e; exact ⟨F, Ext.refl _ _, R, P⟩
  | scr ds => cases e
  | own ds =>
    cases e
    obtain ⟨F', E', R', P'⟩ := hold_rep R P
    exact ⟨F', E', R', P'⟩
  | bor i =>
    have P' : σ[i]? = some (some v) := P
    have e' : (match ρ[i]? with
      | some (some (Val.dat d)) => some (d, ρ)
      | some (some (Val.own ds)) => some (.list ds, ρ.set i (some (Val.dat (.list ds))))
      | _ => none) = some (d, ρ') := e
    clear e
    split at e'
    · rename_i d' q
      cases e'
      obtain ⟨u, h1, h2⟩ := R.dat i _ q
      rw [P'] at h1; cases h1
      exact ⟨F, Ext.refl _ _, R, h2⟩
    · rename_i ds q
      cases e'
      obtain ⟨F', E', R'⟩ := R.freeze q
      have hl : i < List.length ρ := (List.getElem?_eq_some_iff.mp q).1
      obtain ⟨u, h1, h2⟩ := R'.dat i (.list ds) (List.getElem?_set_self hl)
      rw [P'] at h1; cases h1
      exact ⟨F', E', R', h2⟩
    · cases e'
theorem toDatL_rep {K : Frag} {B H : Hp} {σ : St} : ∀ {rs : List RV} {vs : List V} {F : Hp} {ρ ρ' : Ev} {ds : List PD}, Rep K B F pa H σ ρ → RepRs K B F H σ ρ (rs.map holdR) vs → toDatL (rs.map holdR) ρ = some (ds, ρ') → ∃ F', Ext B F F' ∧ Rep K B F' pa H σ ρ' ∧ HasL K F' vs ds
  | [], _, F, _, _, _, R, P, e => by
    cases e
    have P' : _ = [] := P
    subst P'
    exact ⟨F, Ext.refl _ _, R, .nil⟩
  | r :: rs, _, F, ρ, ρ', ds, R, ⟨v, ws, ev, P, Ps⟩, e => by
    subst ev
    have e' : (match toDat (holdR r) ρ with
      | some (d, ρ1) => (match toDatL (rs.map holdR) ρ1 with
        | some (ds, ρ2) => some (d :: ds, ρ2)
        | none => none)
      | none => none) = some (ds, ρ') := e
    split at e'
    · rename_i d ρ1 q1
      split at e'
      · rename_i ds2 ρ2 q2
        cases e'
        obtain ⟨F1, E1, R1, h1⟩ := toDat_rep R P q1
        obtain ⟨F2, E2, R2, h2⟩ := toDatL_rep R1 (RepRs.keep Ps E1.le) q2
        exact ⟨F2, E1.trans E2, R2, .cons (h1.le E2.le) h2⟩
      · cases e'
    · cases e'
end
end DL
/-! DlC: defs, by what they are worth as functions of data; displays. -/
namespace DL
open PySem PySem.Spec PyProof.Rows L2
/-! ### what may be handed on -/
/-- a def as a function of data: what comes of the arguments, and what the lent list then holds -/
abbrev FM := List Val → Option (RV × List Val)
def args0 (vs : List V) : St := vs.map some
def vals0 (xs : List Val) : Ev := xs.map some
def spM (K : Frag) (mf : FM) : Sp := fun vs H Q _ => ∃ (B F : Hp) (pa : Nat → Addr) (xs : List Val) (r : RV) (ys : List Val), Rep K B F pa H (args0 vs) (vals0 xs) ∧ mf xs = some (r, ys) ∧
  ∀ F' H' v, Ext B F F' → Rep K B F' pa H' (args0 vs) (vals0 ys) → RepR K B F' H' (args0 vs) (vals0 ys) r v → Q v H'
/-- a def keeps its promise where nothing is being shown (no guard of repr stands around) -/
structure FnG (P : Program) (w : World) (K : Frag) (mg : Str → Option Value) (base : Heap) (CX : CXT) (k : Nat) (f : Addr) (fd : FuncData) (ps : List Str) (sp : Sp) : Prop where
  len : ∀ us H Q E, sp us H Q E → us.length = ps.length
  go : ∀ (A : Around) (fr : List Env) (s : Shared) (H : Hp) (args : Args) (us : List Value) (vs : List V) (Q : VK) (E : XK), A.guards = some [] → Room k A → Env0 P w K mg base A fr s H → BindsTo s fd args (ps.zip us) →
    Vals vs us → sp vs H Q E → codeAny (model P w) A (.call (.ref f) args) (CR CX fr P w H s Q E) s
theorem FnG.lift {P : Program} {w : World} {K : Frag} {mg : Str → Option Value} {base : Heap} {CX : CXT} {j k : Nat} {f : Addr} {fd : FuncData} {ps : List Str} {sp : Sp} (G : FnG P w K mg base CX j f fd ps sp) (h : j ≤ k) : FnG P w K mg base CX k f fd ps sp :=
  ⟨G.len, fun A fr s H args us vs Q E hg hr => G.go A fr s H args us vs Q E hg (hr.mono h)⟩
theorem deeper_guards (A : Around) (env : Env) : (A.deeper env).guards = A.guards := by
  first | rfl | (simp [Around.deeper])
section
variable {X : Cx} {CX : CXT} {k : Nat} {f : Addr} {fd : FuncData} {ps : List Str} {sp : Sp} {E : XK}
/-- the callee runs, whatever way its arguments come -/
theorem runG {pins : List (Addr × Obj)} {σ : St} {H : Hp} {s : Shared} {Q : VK} {us bs : List Value} {kw : List (Str × Value)} {vs : List V} (G : FnG X.prog X.w X.K X.mg X.base CX k f fd ps sp) (hg : X.A.guards = some []) (hr : Room k X.A)
    (hb : BindsTo s fd ⟨us, kw⟩ (ps.zip bs)) (hx : Passes CX X E) (I : Inv X pins σ H s) (r : Vals vs bs) (h : sp vs H Q E) : wpAny (model X.prog X.w) X.A (call (.ref f) us kw) (EP X pins σ Q) X.xe s := by
  refine wpAny_call (codeAny_mono (G.go X.A X.stack s H ⟨us, kw⟩ bs vs Q E hg hr I.env0 hb r h) ?_)
  intro res s' hq
  match res, hq with
  | .error e, hq => exact hx pins σ H s e s' I hq
  | .ok (.ret u), hq => exact I.after hq
  | .ok .next, hq => exact hq.elim
  | .ok .brk, hq => exact hq.elim
  | .ok .cont, hq => exact hq.elim
end
section
variable {X : Cx} {CX : CXT} {k : Nat} {f : Addr} {fd : FuncData} {ps : List Str} {sp : Sp} {E : XK} {x : Str} {p pos : Pos} {e : Expr} {es : List Expr} {t tk : TA} {kws : List Keyword}
/-- the values us positional, ws by their names ks are bound as perm says -/
structure BindK (K : Frag) (fd : FuncData) (ps : List Str) (n : Nat) (ks : List Str) (perm : List Nat) : Prop where
  to : ∀ (s : Shared) (us ws : List Value), us.length = n → ws.length = ks.length → BindsTo s fd ⟨us, ks.zip ws⟩ (ps.zip (perm.filterMap fun i => (us ++ ws)[i]?))
theorem Vals.perm {vs : List V} {us : List Value} (r : Vals vs us) : ∀ perm : List Nat, Vals (perm.filterMap fun i => vs[i]?) (perm.filterMap fun i => us[i]?)
  | [] => .nil
  | i :: perm => by
    rw [List.filterMap_cons, List.filterMap_cons]
    cases q : vs[i]? with
    | none => rw [r.none_of q]; exact Vals.perm r perm
    | some v =>
      obtain ⟨u, hu, ru⟩ := r.get q
      rw [hu]
      exact .cons ru (Vals.perm r perm)
def tCallG (sp : Sp) (E : XK) (t : TA) : TE := fun σ H Q => t σ H fun vs H1 => sp vs H1 Q E
def tCallGK (sp : Sp) (E : XK) (perm : List Nat) (n m : Nat) (t tk : TA) : TE := fun σ H Q => t σ H fun vs H1 => tk σ H1 fun zs H2 => vs.length = n ∧ zs.length = m ∧ sp (perm.filterMap fun i => (vs ++ zs)[i]?) H2 Q E
theorem pe_callG (G : FnG X.prog X.w X.K X.mg X.base CX k f fd ps sp) (hgu : X.A.guards = some []) (hr : Room k X.A) (hg : Gl X x) (hm : X.mg x = some (.ref f)) (hk : PySem.W.keepIn X.K (.ref f) = true) (hb : Binds X.K fd ps []) (hx : Passes CX X E)
    (ha : PA X (e :: es) t) (hdb : (x == ("__debug__" : Str)) = false := by decide) (he : starEach (e :: es) X.env = (false, eval e X.env) :: starEach es X.env := by rfl) (hpl : (backTo pos (starEach es X.env)).any (·.1) = false := by rfl) :
    PE X (.Call (.Name x p) (e :: es) [] pos) (tCallG sp E t) := by
  constructor
  intro pins s σ H Q I h
  refine wpAny_Call_Name_kw (ld_glob I hg hm (PySem.W.callWith_K (h₀ := X.base) I.ok.mod.kin hk (thn (ha.run pos pins s σ H _ I h) ?_) he hpl) hdb)
  rintro us s1 ⟨vs, H1, I1, r, q⟩
  refine ⟨I1.kIn, runG G hgu hr ?_ hx I1 r q⟩
  have hl : (us ++ ([] : List Value)).length = ps.length := by
    rw [List.append_nil, ← r.length]
    exact G.len _ _ _ _ q
  have b := hb s1 us I1.kIn hl
  rw [List.append_nil] at b
  exact b
theorem pe_callGK0 {ks : List Str} {perm : List Nat} (G : FnG X.prog X.w X.K X.mg X.base CX k f fd ps sp) (hgu : X.A.guards = some []) (hr : Room k X.A) (hg : Gl X x) (hm : X.mg x = some (.ref f)) (hk : PySem.W.keepIn X.K (.ref f) = true) (hb : BindK X.K fd ps 0 ks perm) (hx : Passes CX X E)
    (hkw : PK X kws tk) (hall : (backToKw pos (keywordEach kws X.env)).all (·.1.isSome) = true := by rfl) (hks : (backToKw pos (keywordEach kws X.env)).filterMap (·.1) = ks := by rfl)
    (hdb : (x == ("__debug__" : Str)) = false := by decide) (hpl : ((backTo pos (starEach [] X.env)).any (·.1) || (backToKw pos (keywordEach kws X.env)).any (·.1.isNone)) = false := by rfl) :
    PE X (.Call (.Name x p) [] kws pos) (tCallGK sp E perm 0 ks.length tNil tk) := by
  constructor
  intro pins s σ H Q I h
  have h' : tk σ H fun zs H2 => ([] : List V).length = 0 ∧ zs.length = ks.length ∧ sp (perm.filterMap fun i => (([] : List V) ++ zs)[i]?) H2 Q E := h
  refine wpAny_Call_Name_kw (ld_glob I hg hm (PySem.W.callWith_KW0 (h₀ := X.base) I.ok.mod.kin hk hall (thn (hkw.run pos pins s σ H _ I h') ?_) hpl) hdb)
  rintro ws s2 ⟨zs, H2, I2, rz, l1, l2, q2⟩
  refine ⟨I2.kIn, ?_⟩
  rw [hks]
  exact runG (us := []) G hgu hr (hb.to s2 [] ws rfl (rz.length.symm.trans l2)) hx I2 (Vals.perm (Vals.append .nil rz) perm) q2
end
/-- the def that stands at f has the code object cdv -/
def CdOf (K : Frag) (f : Addr) (x qual : Str) (params : Arguments) (body : List Stmt) (scope : Scope) (cdv : Value) : Prop :=
  ∃ (oc : Value) (od : Option Addr) (dV kV doc pm : Value) (an : Option Addr) (ct : Value) (osl : Array (Option Value)), K.lookup f = some ⟨oc, od, .func (PySem.W.fnOf x qual params body scope dV kV doc pm an cdv ct), osl⟩ ∧ PySem.W.codeIn K cdv qual = true
/-- THE RULE of a def: its body, at the arguments -/
theorem FnG.of {P : Program} {w : World} {K : Frag} {mg : Str → Option Value} {base : Heap} {CX : CXT} {k : Nat} {x qual : Str} {params : Arguments} {body : List Stmt} {scope : Scope} {dvs : List V} {kws : List (Str × V)} {f : Addr} {fd : FuncData} {N ps : List Str} {sp : Sp}
    (D : FunD K x qual params body scope dvs kws f fd) (S : FnScope N ps scope) (len : ∀ vs H Q E, sp vs H Q E → vs.length = ps.length)
    (bd : ∀ (cdv : Value) (A : Around) (fr : List Env) (s : Shared) (H : Hp) (vs : List V) (Q : VK) (E : XK), (A.deeper (envOfC qual scope s.heap.objs.size f cdv)).guards = some [] → Room k (A.deeper (envOfC qual scope s.heap.objs.size f cdv)) → CdOf K f x qual params body scope cdv → sp vs H Q E →
      ∃ t, PSs (cxOf CX P w K mg base N qual scope f cdv A fr s H E) body t ∧ t { nx := fun _ H' => Q .non H', rt := Q } (start N vs) H) : FnG P w K mg base CX (k + 1) f fd ps sp := by
  obtain ⟨c1, c2, c3, c4, c5, c6, c7, cd, c8, c9, efd, lk, hcd, -, -⟩ := D.ex
  subst efd
  refine ⟨len, fun A fr s H args us vs Q E hg hr e0 hb r hsp => ?_⟩
  have hl := len _ _ _ _ hsp
  have KX : K.In s.heap := e0.mod.kin.keeps fun b o e => (e0.bs b o e).1
  have lim : s.heap.NoLimit := e0.mod.nolimit.keeps fun b o e => (e0.bs b o e).1
  have hkind : ∀ y ∈ ps.zip us, scope.names.lookup y.1 = some .local ∨ (scope.names.lookup y.1 = some .cell ∧ ((cellsFrom (s.heap.objs.size + 1) scope.names []).lookup y.1).isSome = true) := by
    rintro ⟨n, v⟩ hy
    exact (S.par n (List.of_mem_zip hy).1).elim .inl fun q => .inr ⟨q, PySem.W.cellsFrom_some _ _ _ (.inl q)⟩
  refine codeAny_call_function hr.depth (KX _ _ lk) rfl S.co S.gen rfl (PySem.W.codeRec_of KX hcd) (hb _ _ _ _ (wpAny_newFunctionEnv_cells S.kind hkind ?_))
  intro env he s1 ic
  subst he
  refine ⟨lim.keeps ic.toInCall.keep, codeAny_func ?_⟩
  obtain ⟨t, ht, hq⟩ := bd cd A fr s H vs Q E ((deeper_guards _ _).trans hg) (hr.deeper _) ⟨c1, c2, c3, c4, c5, c6, c7, c8, c9, lk, hcd⟩ hsp
  have I := inv_start (CX := CX) (E := E) S hr.hd e0 hl r ic
  refine wpAny_mono (ht.run [] s1 (start N vs) H _ I hq) ?_ fun e s' hs => hs
  intro fl s' hs
  match fl, hs with
  | .ret u, ⟨v, σ', H', J, rv, q⟩ => exact ⟨v, H', J.os, J.bare, J.base, J.hok, rv, q⟩
  | .next, ⟨σ', H', J, q⟩ => exact ⟨V.non, H', J.os, J.bare, J.base, J.hok, rfl, q⟩
  | .brk, ⟨_, _, _, q⟩ => exact q.elim
  | .cont, ⟨_, _, _, q⟩ => exact q.elim
end DL
/-! DlD: calls of defs and whole defs as functions of data; displays. -/
namespace DL
open PySem PySem.Spec PyProof.Rows L2
/-! ### how a block ends -/
inductive Fl where
  | nx | bk | ct | rt (r : RV)
abbrev Ms := Ev → Option (Fl × Ev)
def SGoal (K : Frag) (B F' : Hp) (H' : Hp) (σ' : St) (ρ' : Ev) (D : Ends) : Fl → Prop
  | .nx => D.nx σ' H'
  | .bk => D.bk σ' H'
  | .ct => D.ct σ' H'
  | .rt r => ∀ v, RepR K B F' H' σ' ρ' r v → D.rt v H'
def SPost (K : Frag) (B F : Hp) (pa : Nat → Addr) (fl : Fl) (ρ' : Ev) (D : Ends) : Prop :=
  ∀ F' H' σ', Ext B F F' → Rep K B F' pa H' σ' ρ' → SGoal K B F' H' σ' ρ' D fl
def tMS (K : Frag) (pa : Nat → Addr) (m : Ms) : TS := fun D σ H => ∃ B F ρ fl ρ', Rep K B F pa H σ ρ ∧ m ρ = some (fl, ρ') ∧ SPost K B F pa fl ρ' D
def DS (X : Cx) (pa : Nat → Addr) (st : Stmt) (m : Ms) : Prop := PS X st (tMS X.K pa m)
def DSs (X : Cx) (pa : Nat → Addr) (st : List Stmt) (m : Ms) : Prop := PSs X st (tMS X.K pa m)
/-! ### what comes back -/
def outs : List Val → Ev → Option (List Val)
  | [], _ => some []
  | .ref _ :: xs, some (.ref ds) :: ρ => (match outs xs ρ with
    | some ys => some (.ref ds :: ys)
    | none => none)
  | .dat d :: xs, _ :: ρ => (match outs xs ρ with
    | some ys => some (.dat d :: ys)
    | none => none)
  | .scr d :: xs, _ :: ρ => (match outs xs ρ with
    | some ys => some (.scr d :: ys)
    | none => none)
  | _, _ => none
theorem outs_len : ∀ {xs : List Val} {ρ : Ev} {ys : List Val}, outs xs ρ = some ys → ys.length = xs.length
  | [], _, _, e => by cases e; rfl
  | .ref _ :: xs, some (.ref ds) :: ρ, _, e => by
    unfold outs at e
    split at e
    · rename_i h; cases e; exact congrArg Nat.succ (outs_len h)
    · cases e
  | .dat d :: xs, _ :: ρ, _, e => by
    unfold outs at e
    split at e
    · rename_i h; cases e; exact congrArg Nat.succ (outs_len h)
    · cases e
  | .scr d :: xs, _ :: ρ, _, e => by
    unfold outs at e
    split at e
    · rename_i h; cases e; exact congrArg Nat.succ (outs_len h)
    · cases e
  | .own _ :: xs, _, _, e => by cases e
  | .ref _ :: xs, [], _, e => by cases e
  | .ref _ :: xs, none :: _, _, e => by cases e
  | .ref _ :: xs, some (.dat _) :: _, _, e => by cases e
  | .ref _ :: xs, some (.own _) :: _, _, e => by cases e
  | .ref _ :: xs, some (.scr _) :: _, _, e => by cases e
  | .dat _ :: xs, [], _, e => by cases e
  | .scr _ :: xs, [], _, e => by cases e
theorem outs_at : ∀ {xs : List Val} {ρ : Ev} {ys : List Val} {i : Nat} {y : Val}, outs xs ρ = some ys → ys[i]? = some y →
    (∃ d, y = .dat d ∧ xs[i]? = some (.dat d)) ∨ (∃ d, y = .scr d ∧ xs[i]? = some (.scr d)) ∨ (∃ ds d0, y = .ref ds ∧ xs[i]? = some (.ref d0) ∧ ρ[i]? = some (some (Val.ref ds)))
  | [], _, _, _, _, e, h => by cases e; simp at h
  | .ref d0 :: xs, some (.ref ds) :: ρ, _, i, y, e, h => by
    unfold outs at e
    split at e
    · rename_i ys h1
      cases e
      cases i with
      | zero => simp at h; subst h; exact .inr (.inr ⟨ds, d0, rfl, rfl, rfl⟩)
      | succ i => exact outs_at (i := i) h1 (by simpa using h)
    · cases e
  | .dat d :: xs, _ :: ρ, _, i, y, e, h => by
    unfold outs at e
    split at e
    · rename_i ys h1
      cases e
      cases i with
      | zero => simp at h; subst h; exact .inl ⟨d, rfl, rfl⟩
      | succ i => exact outs_at (i := i) h1 (by simpa using h)
    · cases e
  | .scr d :: xs, _ :: ρ, _, i, y, e, h => by
    unfold outs at e
    split at e
    · rename_i ys h1
      cases e
      cases i with
      | zero => simp at h; subst h; exact .inr (.inl ⟨d, rfl, rfl⟩)
      | succ i => exact outs_at (i := i) h1 (by simpa using h)
    · cases e
  | .own _ :: xs, _, _, _, _, e, _ => by cases e
  | .ref _ :: xs, [], _, _, _, e, _ => by cases e
  | .ref _ :: xs, none :: _, _, _, _, e, _ => by cases e
  | .ref _ :: xs, some (.dat _) :: _, _, _, _, e, _ => by cases e
  | .ref _ :: xs, some (.own _) :: _, _, _, _, e, _ => by cases e
  | .ref _ :: xs, some (.scr _) :: _, _, _, _, e, _ => by cases e
  | .dat _ :: xs, [], _, _, _, e, _ => by cases e
  | .scr _ :: xs, [], _, _, _, e, _ => by cases e
/-- a body as a function of the arguments -/
def mfOf (np n : Nat) (m : Ms) : FM := fun xs => if xs.length = np then (match m (vals0 xs ++ List.replicate (n - np) none) with
    | some (.rt (.dat d), ρ) => (match outs xs ρ with
      | some ys => some (.dat d, ys)
      | none => none)
    | some (.rt (.own ds), ρ) => (match outs xs ρ with
      | some ys => some (.own ds, ys)
      | none => none)
    | some (.nx, ρ) => (match outs xs ρ with
      | some ys => some (.dat .none, ys)
      | none => none)
    | _ => none) else none
theorem vals0_at {xs : List Val} {i : Nat} {x : Val} : (vals0 xs)[i]? = some (some x) ↔ xs[i]? = some x := by
  unfold vals0
  rw [List.getElem?_map]
  cases xs[i]? with
  | none => simp
  | some a => simp
theorem args0_at {vs : List V} {i : Nat} {x : V} : (args0 vs)[i]? = some (some x) ↔ vs[i]? = some x := by
  unfold args0
  rw [List.getElem?_map]
  cases vs[i]? with
  | none => simp
  | some a => simp
section
variable {K : Frag} {B F F' : Hp} {pa : Nat → Addr} {H H' : Hp} {σ' : St} {ρ' : Ev}
/-- more slots, not yet given -/
theorem Rep.pad {σ : St} {ρ : Ev} (R : Rep K B F pa H σ ρ) (n : Nat) : Rep K B F pa H (σ ++ List.replicate n none) (ρ ++ List.replicate n none) := by
  have old : ∀ {i : Nat} {x : Val}, (ρ ++ List.replicate n none)[i]? = some (some x) → ρ[i]? = some (some x) ∧ (σ ++ List.replicate n none)[i]? = σ[i]? := fun {i x} e => by
    by_cases hi : i < ρ.length
    · rw [List.getElem?_append_left hi] at e
      exact ⟨e, List.getElem?_append_left (by rw [← R.len]; exact hi)⟩
    · rw [List.getElem?_append_right (by omega), List.getElem?_replicate] at e
      split at e <;> cases e
  refine ⟨R.fh, R.bh, R.tb, by simp [R.len], fun i d e => ?_, fun i x ds e1 e2 => ?_, fun i ds e => ?_, fun i ds e => ?_, fun i j x y ds es a e1 e2 m1 m2 h1 h2 => ?_⟩
  · obtain ⟨e, q⟩ := old e; rw [q]; exact R.dat i d e
  · obtain ⟨e, q⟩ := old e1; rw [q]; exact R.mu i x ds e e2
  · obtain ⟨e, q⟩ := old e; rw [q]; exact R.pin i ds e
  · obtain ⟨e, q⟩ := old e; rw [q]; exact R.scr i ds e
  · obtain ⟨e1, q1⟩ := old e1
    obtain ⟨e2, q2⟩ := old e2
    rw [q1] at h1
    rw [q2] at h2
    exact R.inj i j x y ds es a e1 e2 m1 m2 h1 h2
theorem outs_rep {vs : List V} {xs ys : List Val} (R0 : Rep K B F pa H (args0 vs) (vals0 xs)) (E : Ext B F F') (R : Rep K B F' pa H' σ' ρ') (e : outs xs ρ' = some ys) : Rep K B F' pa H' (args0 vs) (vals0 ys) := by
  have pinned : ∀ {i : Nat} {x : Val} {ds : List PD}, (vals0 ys)[i]? = some (some x) → x.mut = some ds → x = .ref ds ∧ ρ'[i]? = some (some (Val.ref ds)) ∧ (args0 vs)[i]? = some (some (V.ref (pa i))) ∧ σ'[i]? = some (some (V.ref (pa i))) := fun {i x ds} h m => by
    rcases outs_at e (vals0_at.mp h) with ⟨d, rfl, _⟩ | ⟨d, rfl, _⟩ | ⟨ds', d0, rfl, h1, h2⟩
    · cases m
    · cases m
    · cases m
      exact ⟨rfl, h2, R0.pin i d0 (vals0_at.mpr h1), R.pin i _ h2⟩
  refine ⟨R.fh, R.bh, R.tb, ?_, fun i d h => ?_, fun i x ds h m => ?_, fun i ds h => ?_, fun i ds h => ?_, fun i j x y ds es a h1 h2 m1 m2 g1 g2 => ?_⟩
  · have l := R0.len
    unfold vals0 args0 at l ⊢
    rw [List.length_map, List.length_map] at l ⊢
    rw [outs_len e]; exact l
  · rcases outs_at e (vals0_at.mp h) with ⟨d', q, h1⟩ | ⟨d', q, _⟩ | ⟨ds, d0, q, _⟩
    · cases q
      obtain ⟨v, h2, h3⟩ := R0.dat i d (vals0_at.mpr h1)
      exact ⟨v, h2, h3.le E.le⟩
    · cases q
    · cases q
  · obtain ⟨rfl, h2, h3, h4⟩ := pinned h m
    obtain ⟨a, ws, k1, k2⟩ := R.mu i _ ds h2 rfl
    rw [h4] at k1
    cases k1
    exact ⟨_, ws, h3, k2⟩
  · obtain ⟨_, h2, h3, h4⟩ := pinned (ds := ds) h rfl
    exact h3
  · rcases outs_at e (vals0_at.mp h) with ⟨d', q, h1⟩ | ⟨d', q, h1⟩ | ⟨ds, d0, q, _⟩
    · cases q
    · cases q
      obtain ⟨a, ws, h2, h3, h4⟩ := R0.scr i ds (vals0_at.mpr h1)
      exact ⟨a, ws, h2, SqL.le E.le h3, h4.le E.le⟩
    · cases q
  · obtain ⟨rfl, p2, p3, p4⟩ := pinned h1 m1
    obtain ⟨rfl, q2, q3, q4⟩ := pinned h2 m2
    rw [p3] at g1
    rw [q3] at g2
    have e1 : pa i = a := by simpa using g1
    have e2 : pa j = a := by simpa using g2
    exact R.inj i j _ _ ds es a p2 q2 rfl rfl (by rw [p4, e1]) (by rw [q4, e2])
theorem outs_own {vs : List V} {xs ys : List Val} {ds : List PD} {v : V} (R0 : Rep K B F pa H (args0 vs) (vals0 xs)) (R : Rep K B F' pa H' σ' ρ') (e : outs xs ρ' = some ys) (h : RepR K B F' H' σ' ρ' (.own ds) v) : RepR K B F' H' (args0 vs) (vals0 ys) (.own ds) v := by
  obtain ⟨a, ws, rfl, h1, h2, h3, h4, h5⟩ := h
  refine ⟨a, ws, rfl, h1, h2, h3, h4, fun i x es hi hm => ?_⟩
  rcases outs_at e (vals0_at.mp hi) with ⟨d, rfl, _⟩ | ⟨d, rfl, _⟩ | ⟨ds', d0, rfl, k1, k2⟩
  · cases hm
  · cases hm
  · intro z
    rw [R0.pin i d0 (vals0_at.mpr k1)] at z
    exact h5 i _ _ k2 rfl (by rw [R.pin i _ k2]; exact z)
end
/-- THE RULE of a def, by data -/
theorem FnG.data {P : Program} {w : World} {K : Frag} {mg : Str → Option Value} {base : Heap} {CX : CXT} {k : Nat} {x qual : Str} {params : Arguments} {body : List Stmt} {scope : Scope} {f : Addr} {fd : FuncData} {N ps : List Str} {m : Ms}
    (D : FunD K x qual params body scope [] [] f fd) (S : FnScope N ps scope)
    (bd : ∀ (cdv : Value) (A : Around) (fr : List Env) (s : Shared) (H : Hp) (E : XK) (pa : Nat → Addr), (A.deeper (envOfC qual scope s.heap.objs.size f cdv)).guards = some [] → Room k (A.deeper (envOfC qual scope s.heap.objs.size f cdv)) → CdOf K f x qual params body scope cdv →
      DSs (cxOf CX P w K mg base N qual scope f cdv A fr s H E) pa body m) : FnG P w K mg base CX (k + 1) f fd ps (spM K (mfOf ps.length N.length m)) := by
  have lenM : ∀ {xs : List Val} {r : RV} {ys : List Val}, mfOf ps.length N.length m xs = some (r, ys) → xs.length = ps.length := fun {xs r ys} e => by
    unfold mfOf at e
    split at e
    · assumption
    · cases e
  have lenA : ∀ {B F H : Hp} {pa : Nat → Addr} {vs : List V} {xs : List Val}, Rep K B F pa H (args0 vs) (vals0 xs) → vs.length = xs.length := fun R => by
    have l := R.len
    unfold vals0 args0 at l
    rw [List.length_map, List.length_map] at l
    exact l.symm
  refine FnG.of D S (fun vs H Q E ⟨B, F, pa, xs, r, ys, R, e, _⟩ => (lenA R).trans (lenM e)) fun cdv A fr s H vs Q E hg hr hcd hsp => ?_
  obtain ⟨B, F, pa, xs, r, ys, R, e, q⟩ := hsp
  refine ⟨_, bd cdv A fr s H E pa hg hr hcd, ?_⟩
  have hl := lenM e
  have hv := lenA R
  unfold mfOf at e
  rw [if_pos hl] at e
  have st : L2.start N vs = args0 vs ++ List.replicate (N.length - ps.length) none := by
    unfold L2.start args0
    rw [hv, hl]
  rw [st]
  have R1 := R.pad (N.length - ps.length)
  split at e
  · rename_i d ρ' h1
    split at e
    · rename_i ys' h2
      cases e
      exact ⟨B, F, _, _, ρ', R1, h1, fun F' H' σ' E' R' v P' => q F' H' v E' (outs_rep R E' R' h2) P'⟩
    · cases e
  · rename_i ds ρ' h1
    split at e
    · rename_i ys' h2
      cases e
      exact ⟨B, F, _, _, ρ', R1, h1, fun F' H' σ' E' R' v P' => q F' H' v E' (outs_rep R E' R' h2) (outs_own R R' h2 P')⟩
    · cases e
  · rename_i ρ' h1
    split at e
    · rename_i ys' h2
      cases e
      exact ⟨B, F, _, _, ρ', R1, h1, fun F' H' σ' E' R' => q F' H' .non E' (outs_rep R E' R' h2) .non⟩
    · cases e
  · cases e
/-! ### arguments as they are handed on -/
def toVal : RV → Ev → Option (Val × Ev)
  | .scr ds, ρ => some (.scr ds, ρ)
  | r, ρ => match toDat r ρ with
    | some (d, ρ') => some (.dat d, ρ')
    | none => none
def toVals : List RV → Ev → Option (List Val × Ev)
  | [], ρ => some ([], ρ)
  | r :: rs, ρ => match toVal r ρ with
    | some (x, ρ1) => (match toVals rs ρ1 with
      | some (xs, ρ2) => some (x :: xs, ρ2)
      | none => none)
    | none => none
/-- a value handed on: data or the script -/
def HasV (K : Frag) (F : Hp) : V → Val → Prop
  | v, .dat d => Has K F v d
  | v, .scr ds => ∃ a vs, v = .ref a ∧ SqL K F a vs ∧ HasL K F vs ds
  | _, _ => False
theorem HasV.le {K : Frag} {F G : Hp} (l : Le F G) {v : V} {x : Val} (h : HasV K F v x) : HasV K G v x := by
  cases x with
  | dat d => exact Has.le l h
  | scr ds => obtain ⟨a, vs, e, h1, h2⟩ := h; exact ⟨a, vs, e, SqL.le l h1, h2.le l⟩
  | own ds => exact h.elim
  | ref ds => exact h.elim
def HasVs (K : Frag) (F : Hp) : List V → List Val → Prop
  | vs, [] => vs = []
  | vs, x :: xs => ∃ v ws, vs = v :: ws ∧ HasV K F v x ∧ HasVs K F ws xs
theorem HasVs.len {K : Frag} {F : Hp} : ∀ {xs : List Val} {vs : List V}, HasVs K F vs xs → vs.length = xs.length
  | [], _, h => by rw [show _ = [] from h]; rfl
  | _ :: _, _, ⟨v, ws, e, _, t⟩ => by rw [e]; exact congrArg Nat.succ (HasVs.len t)
theorem HasVs.at {K : Frag} {F : Hp} : ∀ {xs : List Val} {vs : List V} {i : Nat} {x : Val}, HasVs K F vs xs → xs[i]? = some x → ∃ v, vs[i]? = some v ∧ HasV K F v x
  | [], _, _, _, _, e => by simp at e
  | _ :: _, _, 0, _, ⟨v, ws, ev, h, _⟩, e => by simp at e; subst e; subst ev; exact ⟨v, rfl, h⟩
  | _ :: xs, _, i + 1, x, ⟨v, ws, ev, _, t⟩, e => by
    subst ev
    obtain ⟨u, h1, h2⟩ := HasVs.at (i := i) t (by simpa using e)
    exact ⟨u, by simpa using h1, h2⟩
theorem HasVs.perm {K : Frag} {F : Hp} {xs : List Val} {vs : List V} (h : HasVs K F vs xs) : ∀ perm : List Nat, HasVs K F (perm.filterMap fun i => vs[i]?) (perm.filterMap fun i => xs[i]?)
  | [] => rfl
  | i :: perm => by
    rw [List.filterMap_cons, List.filterMap_cons]
    cases q : xs[i]? with
    | none =>
      have q2 : vs[i]? = none := by
        rw [List.getElem?_eq_none_iff] at q ⊢
        rw [h.len]; exact q
      rw [q2]
      exact HasVs.perm h perm
    | some x =>
      obtain ⟨v, h1, h2⟩ := h.at q
      rw [h1]
      exact ⟨v, _, rfl, h2, HasVs.perm h perm⟩
theorem toVal_rep {K : Frag} {B F H : Hp} {pa : Nat → Addr} {σ : St} {ρ ρ' : Ev} {r : RV} {v : V} {x : Val} (R : Rep K B F pa H σ ρ) (P : RepR K B F H σ ρ r v) (e : toVal r ρ = some (x, ρ')) : ∃ F', Ext B F F' ∧ Rep K B F' pa H σ ρ' ∧ HasV K F' v x := by
  have go : ∀ {r : RV}, RepR K B F H σ ρ r v → (match toDat r ρ with | some (d, ρ') => some (Val.dat d, ρ') | none => none) = some (x, ρ') → ∃ F', Ext B F F' ∧ Rep K B F' pa H σ ρ' ∧ HasV K F' v x := fun {r} P e => by
    split at e
    · rename_i d ρ1 q
      cases e
      obtain ⟨F', E', R', h⟩ := toDat_rep R P q
      exact ⟨F', E', R', h⟩
    · cases e
  cases r with
  | scr ds => cases e; exact ⟨F, Ext.refl _ _, R, P⟩
  | dat d => exact go P e
  | own ds => exact go P e
  | bor i => exact go P e
theorem toVals_rep {K : Frag} {B H : Hp} {pa : Nat → Addr} {σ : St} : ∀ {rs : List RV} {vs : List V} {F : Hp} {ρ ρ' : Ev} {xs : List Val}, Rep K B F pa H σ ρ → RepRs K B F H σ ρ (rs.map holdR) vs → toVals (rs.map holdR) ρ = some (xs, ρ') → ∃ F', Ext B F F' ∧ Rep K B F' pa H σ ρ' ∧ HasVs K F' vs xs
  | [], _, F, _, _, _, R, P, e => by cases e; exact ⟨F, Ext.refl _ _, R, P⟩
  | r :: rs, _, F, ρ, ρ', xs, R, ⟨v, ws, ev, P, Ps⟩, e => by
    subst ev
    have e' : (match toVal (holdR r) ρ with
      | some (x, ρ1) => (match toVals (rs.map holdR) ρ1 with
        | some (xs, ρ2) => some (x :: xs, ρ2)
        | none => none)
      | none => none) = some (xs, ρ') := e
    split at e'
    · rename_i x ρ1 q1
      split at e'
      · rename_i xs2 ρ2 q2
        cases e'
        obtain ⟨F1, E1, R1, h1⟩ := toVal_rep R P q1
        obtain ⟨F2, E2, R2, h2⟩ := toVals_rep R1 (RepRs.keep Ps E1.le) q2
        exact ⟨F2, E1.trans E2, R2, v, ws, rfl, h1.le E2.le, h2⟩
      · cases e'
    · cases e'
/-- the arguments, as a callee's slots: all that stands is protected -/
theorem HasVs.rep {K : Frag} {F H : Hp} {pa : Nat → Addr} {vs : List V} {xs : List Val} (l : Le F H) (tb : Tb K H) (h : HasVs K F vs xs) : Rep K H F pa H (args0 vs) (vals0 xs) := by
  have nomu : ∀ {i : Nat} {x : Val} {ds : List PD}, (vals0 xs)[i]? = some (some x) → x.mut = some ds → False := fun {i x ds} e m => by
    obtain ⟨v, _, hv⟩ := h.at (vals0_at.mp e)
    cases x with
    | dat _ => cases m
    | scr _ => cases m
    | own _ => exact hv
    | ref _ => exact hv
  refine ⟨l, Le.refl _, tb, ?_, fun i d e => ?_, fun i x ds e m => (nomu e m).elim, fun i ds e => (nomu e (ds := ds) rfl).elim, fun i ds e => ?_, fun i j x y ds es a e1 e2 m1 _ _ _ => (nomu e1 m1).elim⟩
  · unfold vals0 args0
    rw [List.length_map, List.length_map]
    exact h.len.symm
  · obtain ⟨v, h1, h2⟩ := h.at (vals0_at.mp e)
    exact ⟨v, args0_at.mpr h1, h2⟩
  · obtain ⟨v, h1, a, ws, rfl, h2, h3⟩ := h.at (vals0_at.mp e)
    exact ⟨a, ws, args0_at.mpr h1, h2, h3⟩
section
variable {K : Frag} {B F F' : Hp} {pa : Nat → Addr} {H H' : Hp} {σ : St} {ρ : Ev}
theorem ext_out (R : Rep K B F pa H σ ρ) (E : Ext H F F') : Ext B F F' := ⟨E.le, fun b n h => by
  have q := E.new b n h
  exact R.bh.none q⟩
/-- behind a call that leaves all as it was -/
theorem Rep.behind (R : Rep K B F pa H σ ρ) (E : Ext H F F') (l : Le H H') (lF : Le F' H') (tb : Tb K H') : Rep K B F' pa H' σ ρ where
  fh := lF
  bh := R.bh.trans l
  tb := tb
  len := R.len
  dat := fun i d e => let ⟨v, h1, h2⟩ := R.dat i d e; ⟨v, h1, h2.le E.le⟩
  mu := fun i x ds e m => by
    obtain ⟨a, vs, h1, h2, h3, h4, h5⟩ := R.mu i x ds e m
    refine ⟨a, vs, h1, l _ _ h2, ?_, h4, h5.le E.le⟩
    cases q : F' a with
    | none => rfl
    | some o =>
      have z := E.new a h3 (by rw [q]; simp)
      rw [h2] at z; cases z
  pin := R.pin
  scr := fun i ds e => let ⟨a, vs, h1, h2, h3⟩ := R.scr i ds e; ⟨a, vs, h1, SqL.le E.le h2, h3.le E.le⟩
  inj := R.inj
end
/-! ### f(e, ..) -/
def mCall (mf : FM) (ms : Mr (List RV)) : Mr RV := fun ρ => match ms ρ with
  | some (rs, ρ1) => (match toVals (rs.map holdR) ρ1 with
    | some (xs, ρ2) => (match mf xs with
      | some (.dat d, _) => some (.dat d, ρ2)
      | some (.own ds, _) => some (.own ds, ρ2)
      | _ => none)
    | none => none)
  | none => none
section
variable {X : Cx} {pa : Nat → Addr} {CX : CXT} {k : Nat} {f : Addr} {fd : FuncData} {ps : List Str} {E : XK} {x : Str} {p pos : Pos} {e : Expr} {es : List Expr} {kws : List Keyword} {mf : FM} {ms mk : Mr (List RV)}
theorem mCall_inv {ρ ρ' : Ev} {r : RV} (h : mCall mf ms ρ = some (r, ρ')) : ∃ rs ρ1 xs ys, ms ρ = some (rs, ρ1) ∧ toVals (rs.map holdR) ρ1 = some (xs, ρ') ∧ mf xs = some (r, ys) ∧ ((∃ d, r = .dat d) ∨ ∃ ds, r = .own ds) := by
  unfold mCall at h
  split at h
  · rename_i rs ρ1 h1
    split at h
    · rename_i xs ρ2 h2
      split at h
      · rename_i d ys h3
        cases h
        exact ⟨rs, ρ1, xs, ys, h1, h2, h3, .inl ⟨d, rfl⟩⟩
      · rename_i ds ys h3
        cases h
        exact ⟨rs, ρ1, xs, ys, h1, h2, h3, .inr ⟨ds, rfl⟩⟩
      · cases h
    · cases h
  · cases h
/-- the callee's end, seen by the caller: nothing was lent -/
theorem spM_val {B F H : Hp} {σ : St} {ρ : Ev} {vs : List V} {xs ys : List Val} {r : RV} {Q : VK} (R : Rep X.K B F pa H σ ρ) (h : HasVs X.K F vs xs) (e : mf xs = some (r, ys)) (hr : (∃ d, r = .dat d) ∨ ∃ ds, r = .own ds) (q : EPost X.K B F pa σ r ρ Q) : spM X.K mf vs H Q E := by
  refine ⟨H, F, pa, xs, r, ys, h.rep R.fh R.tb, e, fun F' H' v E' R' P' => ?_⟩
  have R2 : Rep X.K B F' pa H' σ ρ := R.behind E' R'.bh R'.fh R'.tb
  refine q F' H' v (ext_out R E') R2 ?_
  rcases hr with ⟨d, rfl⟩ | ⟨ds, rfl⟩
  · exact P'
  · obtain ⟨a, ws, e1, e2, e3, e4, e5, _⟩ := P'
    refine ⟨a, ws, e1, e2, e3, R.bh.none e4, e5, fun i x es hi hm z => ?_⟩
    obtain ⟨b, us, k1, k2, _⟩ := R.mu i x es hi hm
    rw [z] at k1
    cases k1
    rw [e4] at k2; cases k2
theorem de_call (G : FnG X.prog X.w X.K X.mg X.base CX k f fd ps (spM X.K mf)) (hgu : X.A.guards = some []) (hr : Room k X.A) (hg : Gl X x) (hm : X.mg x = some (.ref f)) (hk : PySem.W.keepIn X.K (.ref f) = true) (hb : Binds X.K fd ps []) (hx : Passes CX X E)
    (ha : DA X pa (e :: es) ms) (hdb : (x == ("__debug__" : Str)) = false := by decide) (he : starEach (e :: es) X.env = (false, eval e X.env) :: starEach es X.env := by rfl) (hpl : (backTo pos (starEach es X.env)).any (·.1) = false := by rfl) :
    DE X pa (.Call (.Name x p) (e :: es) [] pos) (mCall mf ms) :=
  DE.of (pe_callG G hgu hr hg hm hk hb hx ha hdb he hpl) fun {B F H σ ρ r ρ' Q} R e q => by
    obtain ⟨rs, ρ1, xs, ys, h1, h2, h3, h4⟩ := mCall_inv e
    refine ⟨B, F, ρ, rs, ρ1, R, h1, fun F1 H1 vs E1 R1 P1 => ?_⟩
    obtain ⟨F2, E2, R2, hv⟩ := toVals_rep R1 P1 h2
    exact spM_val R2 hv h3 h4 (q.ext (E1.trans E2))
def lend : RV → Ev → Option (List PD)
  | .bor i, ρ => (match ρ[i]? with
    | some (some (Val.own ds)) => some ds
    | some (some (Val.ref ds)) => some ds
    | _ => none)
  | _, _ => none
def back (ds : List PD) : RV → Ev → Ev
  | .bor i, ρ => (match ρ[i]? with
    | some (some x) => ρ.set i (some (x.put ds))
    | _ => ρ)
  | _, ρ => ρ
def mCallP (mf : FM) (ms : Mr (List RV)) : Mr RV := fun ρ => match ms ρ with
  | some (r0 :: rs, ρ1) => (match toVals (rs.map holdR) ρ1 with
    | some (xs, ρ2) => (match lend r0 ρ2 with
      | some ds => (match mf (.ref ds :: xs) with
        | some (.dat d, .ref es :: _) => some (.dat d, back es r0 ρ2)
        | some (.own d, .ref es :: _) => some (.own d, back es r0 ρ2)
        | _ => none)
      | none => none)
    | none => none)
  | _ => none
theorem mCallP_inv {ρ ρ' : Ev} {r : RV} (h : mCallP mf ms ρ = some (r, ρ')) : ∃ r0 rs ρ1 xs ρ2 ds es ys, ms ρ = some (r0 :: rs, ρ1) ∧ toVals (rs.map holdR) ρ1 = some (xs, ρ2) ∧ lend r0 ρ2 = some ds ∧ mf (.ref ds :: xs) = some (r, .ref es :: ys) ∧ ρ' = back es r0 ρ2 ∧ ((∃ d, r = .dat d) ∨ ∃ ds, r = .own ds) := by
  unfold mCallP at h
  split at h
  · rename_i r0 rs ρ1 h1
    split at h
    · rename_i xs ρ2 h2
      split at h
      · rename_i ds h3
        split at h
        · rename_i d es ys h4
          cases h
          exact ⟨r0, rs, ρ1, xs, ρ2, ds, es, ys, h1, h2, h3, h4, rfl, .inl ⟨d, rfl⟩⟩
        · rename_i d es ys h4
          cases h
          exact ⟨r0, rs, ρ1, xs, ρ2, ds, es, ys, h1, h2, h3, h4, rfl, .inr ⟨d, rfl⟩⟩
        · cases h
      · cases h
    · cases h
  · cases h
theorem lend_inv {r0 : RV} {ρ : Ev} {ds : List PD} (h : lend r0 ρ = some ds) : ∃ i x, r0 = .bor i ∧ ρ[i]? = some (some x) ∧ x.mut = some ds := by
  unfold lend at h
  split at h
  · rename_i i
    split at h
    · rename_i ds' q; cases h; exact ⟨i, _, rfl, q, rfl⟩
    · rename_i ds' q; cases h; exact ⟨i, _, rfl, q, rfl⟩
    · cases h
  · cases h
/-- the heap but what stands at a -/
def but (H : Hp) (a : Addr) : Hp := fun b => if b = a then none else H b
theorem but_same {H : Hp} {a : Addr} : but H a a = none := by unfold but; rw [if_pos rfl]
theorem but_ne {H : Hp} {a b : Addr} (h : b ≠ a) : but H a b = H b := by unfold but; rw [if_neg h]
theorem but_le {H : Hp} {a : Addr} : Le (but H a) H := fun b o h => by
  by_cases e : b = a
  · subst e; rw [but_same] at h; cases h
  · rw [but_ne e] at h; exact .of h
theorem spM_lent {B F H : Hp} {σ : St} {ρ : Ev} {v0 : V} {vs : List V} {xs ys : List Val} {r : RV} {i : Nat} {x : Val} {ds es : List PD} {Q : VK} (R : Rep X.K B F pa H σ ρ) (hv0 : σ[i]? = some (some v0)) (hi : ρ[i]? = some (some x)) (hm : x.mut = some ds)
    (h : HasVs X.K F vs xs) (e : mf (.ref ds :: xs) = some (r, .ref es :: ys)) (hr : (∃ d, r = .dat d) ∨ ∃ ds, r = .own ds) (q : EPost X.K B F pa σ r (ρ.set i (some (x.put es))) Q) : spM X.K mf (v0 :: vs) H Q E := by
  obtain ⟨a, ws, h1, h2, h3, h4, h5⟩ := R.mu i x ds hi hm
  rw [hv0] at h1
  cases h1
  have Ra : Rep X.K (but H a) F (fun _ => a) H (args0 (.ref a :: vs)) (vals0 (.ref ds :: xs)) := by
    have Rv := h.rep (K := X.K) (pa := fun _ => a) R.fh R.tb
    have z0 : ∀ {j : Nat} {y : Val}, (vals0 (.ref ds :: xs))[j]? = some (some y) → (j = 0 ∧ y = .ref ds) ∨ ∃ k, j = k + 1 ∧ (vals0 xs)[k]? = some (some y) := fun {j y} g => by
      cases j with
      | zero => exact .inl ⟨rfl, by simpa [vals0] using g.symm⟩
      | succ k => exact .inr ⟨k, rfl, by simpa [vals0] using g⟩
    have nomu : ∀ {k : Nat} {y : Val} {fs : List PD}, (vals0 xs)[k]? = some (some y) → y.mut = some fs → False := fun {k y fs} g m => by
      obtain ⟨b, us, k1, k2, k3, k4, _⟩ := Rv.mu k y fs g m
      rw [k4] at k2; cases k2
    refine ⟨R.fh, but_le, R.tb, by have := Rv.len; simp [vals0, args0] at this ⊢; exact this, fun j d g => ?_, fun j y fs g m => ?_, fun j fs g => ?_, fun j fs g => ?_, fun j k y z fs gs b g1 g2 m1 m2 _ _ => ?_⟩
    · rcases z0 g with ⟨_, z⟩ | ⟨k, rfl, g'⟩
      · cases z
      · obtain ⟨u, k1, k2⟩ := Rv.dat k d g'
        exact ⟨u, by simpa [args0] using k1, k2⟩
    · rcases z0 g with ⟨rfl, rfl⟩ | ⟨k, rfl, g'⟩
      · cases m
        exact ⟨a, ws, rfl, h2, h3, but_same, h5⟩
      · exact (nomu g' m).elim
    · rcases z0 g with ⟨rfl, z⟩ | ⟨k, rfl, g'⟩
      · rfl
      · exact (nomu g' (fs := fs) rfl).elim
    · rcases z0 g with ⟨_, z⟩ | ⟨k, rfl, g'⟩
      · cases z
      · obtain ⟨b, us, k1, k2⟩ := Rv.scr k fs g'
        exact ⟨b, us, by simpa [args0] using k1, k2⟩
    · rcases z0 g1 with ⟨rfl, rfl⟩ | ⟨j', rfl, g'⟩
      · rcases z0 g2 with ⟨rfl, rfl⟩ | ⟨k', rfl, g'⟩
        · rfl
        · exact (nomu g' m2).elim
      · exact (nomu g' m1).elim
  refine ⟨but H a, F, fun _ => a, _, r, _, Ra, e, fun F' H' v E' R' P' => ?_⟩
  obtain ⟨a', ws', k1, k2, k3, k4, k5⟩ := R'.mu 0 (.ref es) es rfl rfl
  have ea : a = a' := by simpa [args0] using k1
  subst ea
  have keep : ∀ b o, b ≠ a → H b = some o → LeO o (H' b) := fun b o ne g => R'.bh b o (by rw [but_ne ne]; exact g)
  have Bne : ∀ b o, B b = some o → b ≠ a := fun b o g z => by rw [z, h4] at g; cases g
  have newB : ∀ b, b ≠ a → F b = none → F' b ≠ none → H b = none := fun b ne n g => by
    have := E'.new b n g
    rw [but_ne ne] at this; exact this
  have EB : Ext B F F' := ⟨E'.le, fun b n g => by
    by_cases ne : b = a
    · rw [ne]; exact h4
    · exact R.bh.none (newB b ne n g)⟩
  have R2 : Rep X.K B F' pa H' σ (ρ.set i (some (x.put es))) := by
    have pm : (x.put es).mut = some es := by cases x <;> first | rfl | cases hm
    have other : ∀ {j : Nat} {y : Val}, (ρ.set i (some (x.put es)))[j]? = some (some y) → (j = i ∧ y = x.put es) ∨ (j ≠ i ∧ ρ[j]? = some (some y)) := fun {j y} g => by
      rcases get_set g with ⟨rfl, z, _⟩ | ⟨ne, z⟩
      · exact .inl ⟨rfl, Option.some.inj z⟩
      · exact .inr ⟨fun q => ne q.symm, z⟩
    refine ⟨R'.fh, fun b o g => (R.bh b o g).next (fun u => keep b u (Bne b o g)), R'.tb, by rw [List.length_set]; exact R.len, fun j d g => ?_, fun j y fs g m => ?_, fun j fs g => ?_, fun j fs g => ?_, fun j k y z fs gs b g1 g2 m1 m2 l1 l2 => ?_⟩
    · rcases other g with ⟨_, z⟩ | ⟨_, g'⟩
      · cases x <;> simp [Val.put, Val.mut] at z hm
      · obtain ⟨u, j1, j2⟩ := R.dat j d g'
        exact ⟨u, j1, j2.le E'.le⟩
    · rcases other g with ⟨rfl, rfl⟩ | ⟨ne, g'⟩
      · rw [pm] at m
        cases m
        exact ⟨a, ws', hv0, k2, k3, h4, k5⟩
      · obtain ⟨b, us, j1, j2, j3, j4, j5⟩ := R.mu j y fs g' m
        have nb : b ≠ a := by
          rintro rfl
          exact ne (R.inj j i y x fs ds _ g' hi m hm j1 hv0)
        refine ⟨b, us, j1, keep b _ nb j2, ?_, j4, j5.le E'.le⟩
        cases q : F' b with
        | none => rfl
        | some o =>
          have z := newB b nb j3 (by rw [q]; simp)
          rw [j2] at z; cases z
    · rcases other g with ⟨rfl, z⟩ | ⟨ne, g'⟩
      · cases x with
        | ref d0 => exact R.pin j d0 hi
        | own _ => cases z
        | dat _ => cases hm
        | scr _ => cases hm
      · exact R.pin j fs g'
    · rcases other g with ⟨rfl, z⟩ | ⟨ne, g'⟩
      · cases x <;> simp [Val.put, Val.mut] at z hm
      · obtain ⟨b, us, j1, j2, j3⟩ := R.scr j fs g'
        exact ⟨b, us, j1, SqL.le E'.le j2, j3.le E'.le⟩
    · have bk : ∀ {j : Nat} {y : Val} {fs : List PD}, (ρ.set i (some (x.put es)))[j]? = some (some y) → y.mut = some fs → ∃ y' fs', ρ[j]? = some (some y') ∧ y'.mut = some fs' := fun {j y fs} g m => by
        rcases other g with ⟨rfl, rfl⟩ | ⟨_, g'⟩
        · exact ⟨x, ds, hi, hm⟩
        · exact ⟨y, fs, g', m⟩
      obtain ⟨y', fs', q1, m1'⟩ := bk g1 m1
      obtain ⟨z', gs', q2, m2'⟩ := bk g2 m2
      exact R.inj j k y' z' fs' gs' b q1 q2 m1' m2' l1 l2
  refine q F' H' v EB R2 ?_
  rcases hr with ⟨d, rfl⟩ | ⟨fs, rfl⟩
  · exact P'
  · obtain ⟨b, us, e1, e2, e3, e4, e5, e6⟩ := P'
    have nb : b ≠ a := by
      rintro rfl
      exact e6 0 (.ref es) es rfl rfl rfl
    have Hb : H b = none := by
      rw [but_ne nb] at e4; exact e4
    refine ⟨b, us, e1, e2, e3, R.bh.none Hb, e5, fun j y gs gj mj z => ?_⟩
    rcases get_set gj with ⟨rfl, _, _⟩ | ⟨ne, gj'⟩
    · rw [hv0] at z
      have : a = b := by simpa using z
      exact nb this.symm
    · obtain ⟨c, cs, l1, l2, _⟩ := R.mu j y gs gj' mj
      rw [z] at l1
      cases l1
      rw [Hb] at l2; cases l2
theorem de_callP (G : FnG X.prog X.w X.K X.mg X.base CX k f fd ps (spM X.K mf)) (hgu : X.A.guards = some []) (hr : Room k X.A) (hg : Gl X x) (hm : X.mg x = some (.ref f)) (hk : PySem.W.keepIn X.K (.ref f) = true) (hb : Binds X.K fd ps []) (hx : Passes CX X E)
    (ha : DA X pa (e :: es) ms) (hdb : (x == ("__debug__" : Str)) = false := by decide) (he : starEach (e :: es) X.env = (false, eval e X.env) :: starEach es X.env := by rfl) (hpl : (backTo pos (starEach es X.env)).any (·.1) = false := by rfl) :
    DE X pa (.Call (.Name x p) (e :: es) [] pos) (mCallP mf ms) :=
  DE.of (pe_callG G hgu hr hg hm hk hb hx ha hdb he hpl) fun {B F H σ ρ r ρ' Q} R e q => by
    obtain ⟨r0, rs, ρ1, xs, ρ2, ds, fs, ys, h1, h2, h3, h4, h5, h6⟩ := mCallP_inv e
    refine ⟨B, F, ρ, r0 :: rs, ρ1, R, h1, fun F1 H1 vs E1 R1 P1 => ?_⟩
    obtain ⟨v0, ws, rfl, P0, Ps⟩ := P1
    obtain ⟨F2, E2, R2, hv⟩ := toVals_rep R1 Ps h2
    obtain ⟨i, y, rfl, hi, hm⟩ := lend_inv h3
    have eb : ρ' = ρ2.set i (some (y.put fs)) := by
      rw [h5]
      unfold back
      dsimp only
      rw [hi]
    rw [eb] at q
    exact spM_lent R2 P0 hi hm hv h4 h6 (q.ext (E1.trans E2))
/-- f(e), e a new list that is lent -/
def mCallN (mf : FM) (m : Mr RV) : Mr RV := fun ρ => match m ρ with
  | some (.own ds, ρ1) => (match mf [.ref ds] with
    | some (.dat d, _) => some (.dat d, ρ1)
    | _ => none)
  | _ => none
theorem de_callN (G : FnG X.prog X.w X.K X.mg X.base CX k f fd ps (spM X.K mf)) (hgu : X.A.guards = some []) (hr : Room k X.A) (hg : Gl X x) (hm : X.mg x = some (.ref f)) (hk : PySem.W.keepIn X.K (.ref f) = true) (hb : Binds X.K fd ps []) (hx : Passes CX X E) {m : Mr RV}
    (ha : DE X pa e m) (hdb : (x == ("__debug__" : Str)) = false := by decide) (he : starEach [e] X.env = (false, eval e X.env) :: starEach [] X.env := by rfl) (hpl : (backTo pos (starEach [] X.env)).any (·.1) = false := by rfl) :
    DE X pa (.Call (.Name x p) [e] [] pos) (mCallN mf m) :=
  DE.of (pe_callG G hgu hr hg hm hk hb hx (pa_cons ha pa_nil he) hdb he hpl) fun {B F H σ ρ r ρ' Q} R e q => by
    unfold mCallN at e
    split at e
    · rename_i ds ρ1 h1
      split at e
      · rename_i d ys h2
        cases e
        refine ⟨B, F, ρ, _, ρ', R, h1, fun F1 H1 v E1 R1 P1 => ?_⟩
        obtain ⟨a, ws, rfl, g1, g2, g3, g4, g5⟩ := P1
        -- the callee sees the one slot; what it leaves there is forgotten
        have Ra : Rep X.K (but H1 a) F1 (fun _ => a) H1 (args0 [.ref a]) (vals0 [.ref ds]) := by
          have z0 : ∀ {j : Nat} {y : Val}, (vals0 [.ref ds])[j]? = some (some y) → j = 0 ∧ y = .ref ds := fun {j y} g => by
            cases j with
            | zero => exact ⟨rfl, by simpa [vals0] using g.symm⟩
            | succ k => simp [vals0] at g
          refine ⟨R1.fh, but_le, R1.tb, rfl, fun j d g => ?_, fun j y fs g m => ?_, fun j fs g => ?_, fun j fs g => ?_, fun j k y z fs gs b g1 g2 m1 m2 _ _ => ?_⟩
          · obtain ⟨_, z⟩ := z0 g; cases z
          · obtain ⟨rfl, rfl⟩ := z0 g
            cases m
            exact ⟨a, ws, rfl, g1, g2, but_same, g4⟩
          · obtain ⟨rfl, z⟩ := z0 g; rfl
          · obtain ⟨_, z⟩ := z0 g; cases z
          · obtain ⟨rfl, _⟩ := z0 g1
            obtain ⟨rfl, _⟩ := z0 g2
            rfl
        refine ⟨but H1 a, F1, fun _ => a, _, _, ys, Ra, h2, fun F' H' v E' R' P' => ?_⟩
        have keep : ∀ b o, b ≠ a → H1 b = some o → LeO o (H' b) := fun b o ne g => R'.bh b o (by rw [but_ne ne]; exact g)
        have newB : ∀ b, b ≠ a → F1 b = none → F' b ≠ none → H1 b = none := fun b ne n g => by
          have := E'.new b n g
          rw [but_ne ne] at this; exact this
        have EB : Ext B F1 F' := ⟨E'.le, fun b n g => by
          by_cases ne : b = a
          · rw [ne]; exact g3
          · exact R1.bh.none (newB b ne n g)⟩
        refine q F' H' v (E1.trans EB) ⟨R'.fh, fun b o g => (R1.bh b o g).next (fun u => keep b u (fun z => by rw [z, g3] at g; cases g)), R'.tb, R1.len, fun j d g => ?_, fun j y fs g m => ?_, R1.pin, fun j fs g => ?_, R1.inj⟩ P'
        · obtain ⟨u, j1, j2⟩ := R1.dat j d g
          exact ⟨u, j1, j2.le E'.le⟩
        · obtain ⟨b, us, j1, j2, j3, j4, j5⟩ := R1.mu j y fs g m
          have nb : b ≠ a := by
            rintro rfl
            exact g5 j y fs g m j1
          refine ⟨b, us, j1, keep b _ nb j2, ?_, j4, j5.le E'.le⟩
          cases z : F' b with
          | none => rfl
          | some o =>
            have := newB b nb j3 (by rw [z]; simp)
            rw [j2] at this; cases this
        · obtain ⟨b, us, j1, j2, j3⟩ := R1.scr j fs g
          exact ⟨b, us, j1, SqL.le E'.le j2, j3.le E'.le⟩
      · cases e
    · cases e
/-! ### calls with names -/
def DK (X : Cx) (pa : Nat → Addr) (kws : List Keyword) (m : Mr (List RV)) : Prop := PK X kws (tMA X.K pa m)
theorem dk_nil : DK X pa [] mNil := ⟨fun pos pins s σ H Q I h => pk_nil.run pos pins s σ H Q I (by
  obtain ⟨B, F, ρ, r, ρ', R, e, q⟩ := h
  cases e
  exact q F H [] (Ext.refl _ _) R rfl)⟩
theorem dk_cons {nm : Option Str} {kpos : Pos} {m : Mr RV} (h : DE X pa e m) (hr : DK X pa kws ms) : DK X pa (⟨nm, e, kpos⟩ :: kws) (mCons m ms) := ⟨fun pos pins s σ H Q I g => (pk_cons h hr).run pos pins s σ H Q I (by
  obtain ⟨B, F, ρ, r, ρ', R, e, p⟩ := g
  unfold mCons at e
  split at e
  · rename_i r1 ρ1 h1
    split at e
    · rename_i rs ρ2 h2
      cases e
      refine tM_use R h1 fun F1 H1 v E1 R1 P1 => ?_
      refine ⟨B, F1, ρ1, rs, _, R1, h2, fun F2 H2 vs E2 R2 P2 => ?_⟩
      exact p F2 H2 (v :: vs) (E1.trans E2) R2 ⟨v, vs, rfl, P1.keep E2.le, P2⟩
    · cases e
  · cases e)⟩
def mCallK (mf : FM) (n m : Nat) (perm : List Nat) (ms mk : Mr (List RV)) : Mr RV := fun ρ => match ms ρ with
  | some (rs, ρ1) => (match mk ρ1 with
    | some (ks, ρ2) => if rs.length = n ∧ ks.length = m then (match toVals ((rs ++ ks).map holdR) ρ2 with
      | some (xs, ρ3) => (match mf (perm.filterMap fun i => xs[i]?) with
        | some (.dat d, _) => some (.dat d, ρ3)
        | some (.own ds, _) => some (.own ds, ρ3)
        | _ => none)
      | none => none) else none
    | none => none)
  | none => none
theorem RepRs.len {K : Frag} {B F H : Hp} {σ : St} {ρ : Ev} : ∀ {rs : List RV} {vs : List V}, RepRs K B F H σ ρ rs vs → vs.length = rs.length
  | [], _, h => by rw [show _ = [] from h]; rfl
  | _ :: _, _, ⟨v, ws, e, _, t⟩ => by rw [e]; exact congrArg Nat.succ (RepRs.len t)
theorem RepRs.app {K : Frag} {B F H : Hp} {σ : St} {ρ : Ev} : ∀ {rs qs : List RV} {vs ws : List V}, RepRs K B F H σ ρ rs vs → RepRs K B F H σ ρ qs ws → RepRs K B F H σ ρ (rs ++ qs) (vs ++ ws)
  | [], _, _, _, h, g => by rw [show _ = [] from h]; exact g
  | _ :: _, _, _, _, ⟨v, us, e, h, t⟩, g => by rw [e]; exact ⟨v, _, rfl, h, RepRs.app t g⟩
theorem mCallK_end {n m : Nat} {perm : List Nat} {B F H : Hp} {σ : St} {ρ ρ1 ρ2 ρ' : Ev} {rs ks : List RV} {r : RV} {vs zs : List V} {Q : VK} (R : Rep X.K B F pa H σ ρ2) (P1 : RepRs X.K B F H σ ρ2 (rs.map holdR) vs) (P2 : RepRs X.K B F H σ ρ2 (ks.map holdR) zs)
    (e : (if rs.length = n ∧ ks.length = m then (match toVals ((rs ++ ks).map holdR) ρ2 with
      | some (xs, ρ3) => (match mf (perm.filterMap fun i => xs[i]?) with
        | some (.dat d, _) => some (RV.dat d, ρ3)
        | some (.own ds, _) => some (RV.own ds, ρ3)
        | _ => none)
      | none => none) else none) = some (r, ρ')) (q : EPost X.K B F pa σ r ρ' Q) : vs.length = n ∧ zs.length = m ∧ spM X.K mf (perm.filterMap fun i => (vs ++ zs)[i]?) H Q E := by
  split at e
  · rename_i hl
    refine ⟨by rw [P1.len, List.length_map]; exact hl.1, by rw [P2.len, List.length_map]; exact hl.2, ?_⟩
    have P : RepRs X.K B F H σ ρ2 ((rs ++ ks).map holdR) (vs ++ zs) := by rw [List.map_append]; exact P1.app P2
    split at e
    · rename_i xs ρ3 h1
      obtain ⟨F2, E2, R2, hv⟩ := toVals_rep R P h1
      split at e
      · rename_i d ys h2
        cases e
        exact spM_val R2 (hv.perm perm) h2 (.inl ⟨d, rfl⟩) (q.ext E2)
      · rename_i d ys h2
        cases e
        exact spM_val R2 (hv.perm perm) h2 (.inr ⟨d, rfl⟩) (q.ext E2)
      · cases e
    · cases e
  · cases e
theorem RepRs.kept {K : Frag} {B F F' H H' : Hp} {σ : St} {ρ ρ' : Ev} {rs : List RV} {vs : List V} (h : RepRs K B F H σ ρ (rs.map holdR) vs) (l : Le F F') : RepRs K B F' H' σ ρ' (rs.map holdR) vs := RepRs.keep h l
theorem de_callK0 {ks : List Str} {perm : List Nat} (G : FnG X.prog X.w X.K X.mg X.base CX k f fd ps (spM X.K mf)) (hgu : X.A.guards = some []) (hr : Room k X.A) (hg : Gl X x) (hm : X.mg x = some (.ref f)) (hk : PySem.W.keepIn X.K (.ref f) = true) (hb : BindK X.K fd ps 0 ks perm) (hx : Passes CX X E)
    (hkw : DK X pa kws mk) (hall : (backToKw pos (keywordEach kws X.env)).all (·.1.isSome) = true := by rfl) (hks : (backToKw pos (keywordEach kws X.env)).filterMap (·.1) = ks := by rfl)
    (hdb : (x == ("__debug__" : Str)) = false := by decide) (hpl : ((backTo pos (starEach [] X.env)).any (·.1) || (backToKw pos (keywordEach kws X.env)).any (·.1.isNone)) = false := by rfl) :
    DE X pa (.Call (.Name x p) [] kws pos) (mCallK mf 0 ks.length perm mNil mk) :=
  DE.of (pe_callGK0 G hgu hr hg hm hk hb hx hkw hall hks hdb hpl) fun {B F H σ ρ r ρ' Q} R e q => by
    unfold mCallK at e
    split at e
    · rename_i rs ρ1 h1
      cases h1
      split at e
      · rename_i zs ρ2 h2
        show tMA X.K pa mk σ H _
        refine ⟨B, F, ρ, zs, ρ2, R, h2, fun F2 H2 ws E2 R2 P2 => ?_⟩
        exact mCallK_end (ρ := ρ) (ρ1 := ρ) (rs := []) (vs := []) R2 rfl P2 e (q.ext E2)
      · cases e
    · cases e
end
end DL
/-! DlE: statements, targets, displays, by data. -/
namespace DL
open PySem PySem.Spec PyProof.Rows L2
section
variable {X : Cx} {pa : Nat → Addr} {pos : Pos}
theorem DS.of {st : Stmt} {m : Ms} {t : TS} (h : PS X st t) (w : ∀ {B F : Hp} {H : Hp} {σ : St} {ρ : Ev} {fl : Fl} {ρ' : Ev} {D : Ends}, Rep X.K B F pa H σ ρ → m ρ = some (fl, ρ') → SPost X.K B F pa fl ρ' D → t D σ H) : DS X pa st m :=
  ⟨fun pins s σ H D I ⟨B, F, ρ, fl, ρ', R, e1, p⟩ => h.run pins s σ H D I (w R e1 p)⟩
theorem DSs.of {st : List Stmt} {m : Ms} {t : TS} (h : PSs X st t) (w : ∀ {B F : Hp} {H : Hp} {σ : St} {ρ : Ev} {fl : Fl} {ρ' : Ev} {D : Ends}, Rep X.K B F pa H σ ρ → m ρ = some (fl, ρ') → SPost X.K B F pa fl ρ' D → t D σ H) : DSs X pa st m :=
  ⟨fun pins s σ H D I ⟨B, F, ρ, fl, ρ', R, e1, p⟩ => h.run pins s σ H D I (w R e1 p)⟩
theorem SPost.ext {K : Frag} {B F F' : Hp} {fl : Fl} {ρ' : Ev} {D : Ends} (h : SPost K B F pa fl ρ' D) (e : Ext B F F') : SPost K B F' pa fl ρ' D := fun G H' σ' e2 R => h G H' σ' (e.trans e2) R
/-! ### blocks -/
def mNext : Ms := fun ρ => some (.nx, ρ)
def mSeq (a b : Ms) : Ms := fun ρ => match a ρ with
  | some (.nx, ρ1) => b ρ1
  | some (fl, ρ1) => some (fl, ρ1)
  | none => none
theorem dss_nil : DSs X pa [] mNext := DSs.of pss_nil fun {B F H σ ρ fl ρ' D} R e p => by
  cases e
  exact p F H σ (Ext.refl _ _) R
theorem dss_cons {st : Stmt} {rest : List Stmt} {a b : Ms} (h1 : DS X pa st a) (h2 : DSs X pa rest b) : DSs X pa (st :: rest) (mSeq a b) := DSs.of (pss_cons h1 h2) fun {B F H σ ρ fl ρ' D} R e p => by
  unfold mSeq at e
  split at e
  · rename_i ρ1 h
    exact ⟨B, F, ρ, .nx, ρ1, R, h, fun F1 H1 σ1 E1 R1 => ⟨B, F1, ρ1, fl, ρ', R1, e, p.ext E1⟩⟩
  · rename_i fl1 ρ1 hne h
    cases e
    refine ⟨B, F, ρ, fl, ρ', R, h, fun F1 H1 σ1 E1 R1 => ?_⟩
    have q := p F1 H1 σ1 E1 R1
    cases fl with
    | nx => exact absurd rfl hne
    | bk => exact q
    | ct => exact q
    | rt r => exact q
  · cases e
theorem dss_one {st : Stmt} {a : Ms} (h1 : DS X pa st a) : DSs X pa [st] a := pss_one h1
def mFail : Ms := fun _ => none
theorem ds_never {st : Stmt} : DS X pa st mFail := DS.of (t := tNever) ps_never fun R e p => by cases e
def mDrop (m : Mr RV) : Ms := fun ρ => match m ρ with
  | some (_, ρ1) => some (.nx, ρ1)
  | none => none
theorem ds_expr {e : Expr} {m : Mr RV} (h : DE X pa e m) (hs : swapsWith e none pos.line X.env = pure false := by rfl) : DS X pa (.Expr e pos) (mDrop m) := DS.of (ps_expr h hs) fun {B F H σ ρ fl ρ' D} R e p => by
  unfold mDrop at e
  split at e
  · rename_i r ρ1 h1
    cases e
    exact ⟨B, F, ρ, r, ρ', R, h1, fun F1 H1 v E1 R1 _ => p F1 H1 σ E1 R1⟩
  · cases e
/-- what is handed back: a slot's own list goes along -/
def mRet (m : Mr RV) : Ms := fun ρ => match m ρ with
  | some (.dat d, ρ1) => some (.rt (.dat d), ρ1)
  | some (.own ds, ρ1) => some (.rt (.own ds), ρ1)
  | some (.bor i, ρ1) => (match ρ1[i]? with
    | some (some (Val.dat d)) => some (.rt (.dat d), ρ1)
    | some (some (Val.own ds)) => some (.rt (.own ds), ρ1.set i none)
    | _ => none)
  | _ => none
theorem Rep.moved {K : Frag} {B F H : Hp} {σ : St} {ρ : Ev} {i : Nat} {ds : List PD} {v : V} (R : Rep K B F pa H σ ρ) (hv : σ[i]? = some (some v)) (q : ρ[i]? = some (some (Val.own ds))) : RepR K B F H σ (ρ.set i none) (.own ds) v := by
  obtain ⟨a, vs, h1, h2, h3, h4, h5⟩ := R.mu i _ ds q rfl
  rw [hv] at h1
  cases h1
  refine ⟨a, vs, rfl, h2, h3, h4, h5, fun j y es hj hm z => ?_⟩
  rcases get_set hj with ⟨_, w, _⟩ | ⟨ne, hj'⟩
  · cases w
  · exact ne (R.inj i j _ _ _ es a q hj' rfl hm hv z)
theorem ds_ret {e : Expr} {m : Mr RV} (h : DE X pa e m) : DS X pa (.Return (some e) pos) (mRet m) := DS.of (ps_ret h) fun {B F H σ ρ fl ρ' D} R e p => by
  unfold mRet at e
  split at e
  · rename_i d ρ1 h1
    cases e
    exact ⟨B, F, ρ, _, ρ', R, h1, fun F1 H1 v E1 R1 P1 => p F1 H1 σ E1 R1 v P1⟩
  · rename_i d ρ1 h1
    cases e
    exact ⟨B, F, ρ, _, ρ', R, h1, fun F1 H1 v E1 R1 P1 => p F1 H1 σ E1 R1 v P1⟩
  · rename_i i ρ1 h1
    split at e
    · rename_i d q
      cases e
      refine ⟨B, F, ρ, _, ρ', R, h1, fun F1 H1 v E1 R1 P1 => p F1 H1 σ E1 R1 v ?_⟩
      have P1' : σ[i]? = some (some v) := P1
      obtain ⟨u, g1, g2⟩ := R1.dat i d q
      rw [P1'] at g1; cases g1
      exact g2
    · rename_i ds q
      cases e
      refine ⟨B, F, ρ, _, ρ1, R, h1, fun F1 H1 v E1 R1 P1 => ?_⟩
      exact p F1 H1 σ E1 (R1.kill i) v (R1.moved P1 q)
    · cases e
  · cases e
def mIfS (mc : Mr Bool) (a b : Ms) : Ms := fun ρ => match mc ρ with
  | some (true, ρ1) => a ρ1
  | some (false, ρ1) => b ρ1
  | none => none
theorem ds_if {c : Expr} {a b : List Stmt} {mc : Mr Bool} {ma mb : Ms} (hc : DT X pa c mc) (ha : DSs X pa a ma) (hb : DSs X pa b mb) : DS X pa (.If c a b pos) (mIfS mc ma mb) := DS.of (ps_if hc ha hb) fun {B F H σ ρ fl ρ' D} R e p => by
  unfold mIfS at e
  split at e
  · rename_i ρ1 h1
    refine ⟨B, F, ρ, true, ρ1, R, h1, fun F1 H1 E1 R1 => ifT ?_⟩
    exact ⟨B, F1, ρ1, fl, ρ', R1, e, p.ext E1⟩
  · rename_i ρ1 h1
    refine ⟨B, F, ρ, false, ρ1, R, h1, fun F1 H1 E1 R1 => ifF ?_⟩
    exact ⟨B, F1, ρ1, fl, ρ', R1, e, p.ext E1⟩
  · cases e
/-! ### names are given -/
/-- a value is put into a slot -/
def put (i : Nat) : RV → Ev → Option Ev
  | .dat d, ρ => some (ρ.set i (some (Val.dat d)))
  | .own ds, ρ => some (ρ.set i (some (Val.own ds)))
  | .bor j, ρ => (match ρ[j]? with
    | some (some (Val.dat d)) => some (ρ.set i (some (Val.dat d)))
    | some (some (Val.own ds)) => some ((ρ.set j (some (Val.dat (.list ds)))).set i (some (Val.dat (.list ds))))
    | _ => none)
  | .scr _, _ => none
theorem put_rep {K : Frag} {B F H : Hp} {σ : St} {ρ ρ' : Ev} {r : RV} {v : V} {i : Nat} (R : Rep K B F pa H σ ρ) (P : RepR K B F H σ ρ r v) (e : put i r ρ = some ρ') : ∃ F', Ext B F F' ∧ Rep K B F' pa H (σ.set i (some v)) ρ' := by
  cases r with
  | dat d => cases e; exact ⟨F, Ext.refl _ _, R.setDat P⟩
  | own ds => cases e; exact ⟨F, Ext.refl _ _, R.setOwn P⟩
  | scr ds => cases e
  | bor j =>
    have P' : σ[j]? = some (some v) := P
    have e' : (match ρ[j]? with
      | some (some (Val.dat d)) => some (ρ.set i (some (Val.dat d)))
      | some (some (Val.own ds)) => some ((ρ.set j (some (Val.dat (.list ds)))).set i (some (Val.dat (.list ds))))
      | _ => none) = some ρ' := e
    clear e
    split at e'
    · rename_i d q
      cases e'
      obtain ⟨u, h1, h2⟩ := R.dat j d q
      rw [P'] at h1; cases h1
      exact ⟨F, Ext.refl _ _, R.setDat h2⟩
    · rename_i ds q
      cases e'
      obtain ⟨F', E', R'⟩ := R.freeze q
      obtain ⟨u, h1, h2⟩ := R'.dat j (.list ds) (List.getElem?_set_self (List.getElem?_eq_some_iff.mp q).1)
      rw [P'] at h1; cases h1
      exact ⟨F', E', R'.setDat h2⟩
    · cases e'
def mSet (i : Nat) (m : Mr RV) : Ms := fun ρ => match m ρ with
  | some (r, ρ1) => (match put i r ρ1 with
    | some ρ2 => some (.nx, ρ2)
    | none => none)
  | none => none
theorem mSet_run {K : Frag} {i : Nat} {m : Mr RV} {te : TE} {B F H : Hp} {σ : St} {ρ ρ' : Ev} {fl : Fl} {D : Ends} (R : Rep K B F pa H σ ρ) (e : mSet i m ρ = some (fl, ρ')) (p : SPost K B F pa fl ρ' D) : tAsg (tM K pa m) (gName i) D σ H := by
  unfold mSet at e
  split at e
  · rename_i r ρ1 h1
    split at e
    · rename_i ρ2 h2
      cases e
      refine ⟨B, F, ρ, r, ρ1, R, h1, fun F1 H1 v E1 R1 P1 => ?_⟩
      obtain ⟨F2, E2, R2⟩ := put_rep R1 P1 h2
      exact p F2 H1 _ (E1.trans E2) R2
    · cases e
  · cases e
theorem ds_set (i : Nat) {x : Str} {e : Expr} {m : Mr RV} {pos' : Pos} (hN : X.N.Nodup) (he : DE X pa e m) (hi : X.N[i]? = some x := by rfl) (hx : Loc X.env.scope x := by first | exact Or.inl rfl | exact Or.inr rfl) (hs : swapsWith e (some (.Name x pos')) pos.line X.env = pure false := by rfl)
    (hf : X.fn x = true ∨ X.env.scope.names.lookup x = some .local := by first | exact .inl rfl | exact .inr rfl | assumption) : DS X pa (.Assign [.Name x pos'] e pos) (mSet i m) :=
  DS.of (ps_set hN hi hx he hs hf) fun R e p => mSet_run (te := tC .non) R e p
/-! ### targets -/
/-- but the slots is all stay -/
def Off (is : List Nat) (σ σ' : St) : Prop := σ'.length = σ.length ∧ ∀ i, i ∉ is → σ'[i]? = σ[i]?
theorem Off.refl (is : List Nat) (σ : St) : Off is σ σ := ⟨rfl, fun _ _ => rfl⟩
theorem Off.trans {is : List Nat} {a b c : St} (h : Off is a b) (g : Off is b c) : Off is a c := ⟨g.1.trans h.1, fun i hi => (g.2 i hi).trans (h.2 i hi)⟩
theorem Off.mono {is js : List Nat} {a b : St} (h : Off is a b) (l : ∀ i ∈ is, i ∈ js) : Off js a b := ⟨h.1, fun i hi => h.2 i fun q => hi (l i q)⟩
abbrev Bd (α : Type) := α → Ev → Option Ev
def tMG (K : Frag) (pa : Nat → Addr) (is : List Nat) (b : Bd PD) : TG := fun v σ H Q => ∃ B F ρ d ρ', Rep K B F pa H σ ρ ∧ Has K F v d ∧ b d ρ = some ρ' ∧ ∀ F' H' σ', Ext B F F' → Rep K B F' pa H' σ' ρ' → Off is σ σ' → Q σ' H'
def tMGs (K : Frag) (pa : Nat → Addr) (is : List Nat) (b : Bd (List PD)) : TGs := fun vs σ H Q => ∃ B F ρ ds ρ', Rep K B F pa H σ ρ ∧ HasL K F vs ds ∧ b ds ρ = some ρ' ∧ ∀ F' H' σ', Ext B F F' → Rep K B F' pa H' σ' ρ' → Off is σ σ' → Q σ' H'
def DG (X : Cx) (pa : Nat → Addr) (e : Expr) (is : List Nat) (b : Bd PD) : Prop := PG X e (tMG X.K pa is b)
def DGs (X : Cx) (pa : Nat → Addr) (es : List Expr) (is : List Nat) (b : Bd (List PD)) : Prop := PGs X es (tMGs X.K pa is b)
def bName (i : Nat) : Bd PD := fun d ρ => some (ρ.set i (some (Val.dat d)))
def bNil : Bd (List PD) := fun ds ρ => match ds with
  | [] => some ρ
  | _ => none
def bCons (b : Bd PD) (bs : Bd (List PD)) : Bd (List PD) := fun ds ρ => match ds with
  | d :: ds => (match b d ρ with
    | some ρ1 => bs ds ρ1
    | none => none)
  | [] => none
def bTup (n : Nat) (bs : Bd (List PD)) : Bd PD := fun d ρ => match d with
  | .tuple ds => if ds.length = n then bs ds ρ else none
  | _ => none
theorem dg_name (i : Nat) {x : Str} (hN : X.N.Nodup) (hi : X.N[i]? = some x := by rfl) (hx : Loc X.env.scope x := by first | exact Or.inl rfl | exact Or.inr rfl) (hf : X.fn x = true ∨ X.env.scope.names.lookup x = some .local := by first | exact .inl rfl | exact .inr rfl | assumption) :
    DG X pa (.Name x pos) [i] (bName i) := by
  constructor
  intro pins s σ H v u Q I r h
  refine (pg_name hN hi hx hf).run pins s σ H v u Q I r ?_
  obtain ⟨B, F, ρ, d, ρ', R, hv, e, q⟩ := h
  cases e
  exact q F H _ (Ext.refl _ _) (R.setDat hv) ⟨by rw [List.length_set], fun j hj => List.getElem?_set_ne (fun z => hj (by simp [z]))⟩
theorem dgs_nil : DGs X pa [] [] bNil := by
  constructor
  intro pins s σ H vs us Q I r h
  refine pgs_nil.run pins s σ H vs us Q I r ?_
  obtain ⟨B, F, ρ, ds, ρ', R, hv, e, q⟩ := h
  unfold bNil at e
  split at e
  · cases e
    exact ⟨hv.nil_inv, q F H _ (Ext.refl _ _) R (Off.refl _ _)⟩
  · cases e
theorem dgs_cons {e : Expr} {es : List Expr} {is js : List Nat} {b : Bd PD} {bs : Bd (List PD)} (h1 : DG X pa e is b) (h2 : DGs X pa es js bs)
    (hs : (assignEach (e :: es) X.env).map (·.2) = assign e X.env :: (assignEach es X.env).map (·.2) := by rfl) : DGs X pa (e :: es) (is ++ js) (bCons b bs) := by
  constructor
  intro pins s σ H vs us Q I r h
  refine (pgs_cons h1 h2 hs).run pins s σ H vs us Q I r ?_
  obtain ⟨B, F, ρ, ds, ρ', R, hv, e, q⟩ := h
  unfold bCons at e
  split at e
  · rename_i d ds
    split at e
    · rename_i ρ1 e1
      obtain ⟨v, ws, rfl, g1, g2⟩ := hv.cons_inv
      refine ⟨v, ws, rfl, B, F, ρ, d, ρ1, R, g1, e1, fun F1 H1 σ1 E1 R1 O1 => ?_⟩
      exact ⟨B, F1, ρ1, ds, ρ', R1, g2.le E1.le, e, fun F2 H2 σ2 E2 R2 O2 => q F2 H2 σ2 (E1.trans E2) R2 ((O1.mono fun i hi => List.mem_append_left _ hi).trans (O2.mono fun i hi => List.mem_append_right _ hi))⟩
    · cases e
  · cases e
/-- xs[e] = .., xs a slot with a list of its own (or lent) -/
def bSub (i : Nat) (m : Mr RV) : Bd PD := fun d ρ => match ρ[i]? with
  | some (some _) => (match m ρ with
    | some (RV.dat (.int k), ρ1) => (match ρ1[i]? with
      | some (some x) => (match x.mut with
        | some ds => (match ixN ds.length k with
          | some j => some (ρ1.set i (some (x.put (ds.set j d))))
          | none => none)
        | none => none)
      | _ => none)
    | _ => none)
  | _ => none
theorem Rep.alive {K : Frag} {B F H : Hp} {σ : St} {ρ : Ev} {i : Nat} {x : Val} (R : Rep K B F pa H σ ρ) (h : ρ[i]? = some (some x)) : ∃ o, σ[i]? = some (some o) := by
  cases x with
  | dat d => obtain ⟨v, g, _⟩ := R.dat i d h; exact ⟨v, g⟩
  | own d => obtain ⟨a, _, g, _⟩ := R.mu i _ d h rfl; exact ⟨_, g⟩
  | ref d => obtain ⟨a, _, g, _⟩ := R.mu i _ d h rfl; exact ⟨_, g⟩
  | scr d => obtain ⟨a, _, g, _⟩ := R.scr i d h; exact ⟨_, g⟩
theorem dg_sub (i : Nat) {x : Str} {px : Pos} {e : Expr} {m : Mr RV} (he : DE X pa e m) (hN : X.N[i]? = some x := by rfl) (hv : Vis X.env.scope x := by first | exact Or.inl rfl | exact Or.inr (Or.inl rfl) | exact Or.inr (Or.inr rfl)) (hd : (x == ("__debug__" : Str)) = false := by decide) (hcd : (x == ("__classdict__" : Str)) = false := by decide)
    (ha : ∀ v, assign (.Subscript (.Name x px) e pos) X.env v = (do
      let ov ← holding [v] (eval (.Name x px) X.env)
      let iv ← holding [v, ov] (eval e X.env)
      standAt pos
      holding [v, ov, iv] (setItem ov iv v)
      release [v, ov, iv] []) := by intro _; rfl) : DG X pa (.Subscript (.Name x px) e pos) [] (bSub i m) := by
  constructor
  intro pins s σ H v u Q I r g
  refine (pg_sub (pe_var hN hv hd hcd) he set_list ha).run pins s σ H v u Q I r ?_
  obtain ⟨B, F, ρ, d, ρ', R, hv, e1, q⟩ := g
  unfold bSub at e1
  split at e1
  · rename_i x0 h0
    split at e1
    · rename_i k ρ1 h1
      split at e1
      · rename_i y hy
        split at e1
        · rename_i ds hm
          split at e1
          · rename_i j hj
            cases e1
            -- the slot's value ahead of the index's evaluation is that behind it
            obtain ⟨o, ho⟩ := R.alive h0
            refine ⟨o, ho, B, F, ρ, _, ρ1, R, h1, fun F1 H1 w E1 R1 P1 => ?_⟩
            cases P1
            obtain ⟨a, vs, g1, g2, g3, g4, g5⟩ := R1.mu i y ds hy hm
            rw [ho] at g1
            cases g1
            refine ⟨a, vs, k, j, rfl, rfl, g2, by rw [g5.length]; exact hj, ?_⟩
            exact q F1 _ σ E1 (R1.write hy hm ho (g5.set (hv.le E1.le) j)) (Off.refl _ _)
          · cases e1
        · cases e1
      · cases e1
    · cases e1
  · cases e1
/-- target = e, whatever the target -/
def mAsg (m : Mr RV) (b : Bd PD) : Ms := fun ρ => match m ρ with
  | some (r, ρ1) => (match toDat r ρ1 with
    | some (d, ρ2) => (match b d ρ2 with
      | some ρ3 => some (.nx, ρ3)
      | none => none)
    | none => none)
  | none => none
theorem ds_asg {tg e : Expr} {m : Mr RV} {is : List Nat} {b : Bd PD} (he : DE X pa e m) (hg : DG X pa tg is b) (hs : swapsWithSole [tg] e pos.line X.env = pure false := by rfl) (hw : swappedStores [tg] e X.env = pure none := by rfl) (h1 : (assignEach [tg] X.env).map (·.2) = [assign tg X.env] := by rfl) : DS X pa (.Assign [tg] e pos) (mAsg m b) :=
  DS.of (ps_asg he hg hs hw h1) fun {B F H σ ρ fl ρ' D} R e p => by
    unfold mAsg at e
    split at e
    · rename_i r ρ1 h1
      split at e
      · rename_i d ρ2 h2
        split at e
        · rename_i ρ3 h3
          cases e
          refine ⟨B, F, ρ, r, ρ1, R, h1, fun F1 H1 v E1 R1 P1 => ?_⟩
          obtain ⟨F2, E2, R2, hv⟩ := toDat_rep R1 P1 h2
          exact ⟨B, F2, ρ2, d, ρ', R2, hv, h3, fun F3 H3 σ3 E3 R3 _ => p F3 H3 σ3 (E1.trans (E2.trans E3)) R3⟩
        · cases e
      · cases e
    · cases e
/-! ### displays -/
theorem small_line {n : Nat} (h : n ≤ 1000) : n ≤ sizeLine := Nat.le_trans h (by rw [sizeLine_eq]; decide)
def mTup (ms : Mr (List RV)) : Mr RV := fun ρ => match ms ρ with
  | some (rs, ρ1) => (match toDatL (rs.map holdR) ρ1 with
    | some (ds, ρ2) => if ds.length ≤ 1000 then some (.dat (.tuple ds), ρ2) else none
    | none => none)
  | none => none
def mLst (ms : Mr (List RV)) : Mr RV := fun ρ => match ms ρ with
  | some (rs, ρ1) => (match toDatL (rs.map holdR) ρ1 with
    | some (ds, ρ2) => if ds.length ≤ 1000 then some (.own ds, ρ2) else none
    | none => none)
  | none => none
theorem de_tup {es : List Expr} {x1} {ms : Mr (List RV)} (h : DA X pa es ms) : DE X pa (.Tuple es x1 pos) (mTup ms) := DE.of (pe_tup h) fun {B F H σ ρ r ρ' Q} R e p => by
  unfold mTup at e
  split at e
  · rename_i rs ρ1 h1
    split at e
    · rename_i ds ρ2 h2
      split at e
      · rename_i hl
        cases e
        refine ⟨B, F, ρ, rs, ρ1, R, h1, fun F1 H1 vs E1 R1 P1 => ?_⟩
        obtain ⟨F2, E2, R2, hv⟩ := toDatL_rep R1 P1 h2
        refine ⟨small_line (by rw [hv.length]; exact hl), fun q hq => ?_⟩
        exact p _ _ _ (E1.trans (E2.trans (R2.newExt (o := .tup vs) hq))) (R2.new hq) (.tup (SqT.of upd_same) (hv.le (Le.upd (R2.fh.none hq))))
      · cases e
    · cases e
  · cases e
theorem de_lst {es : List Expr} {ms : Mr (List RV)} (h : DA X pa es ms) : DE X pa (.List es pos) (mLst ms) := DE.of (pe_lst h) fun {B F H σ ρ r ρ' Q} R e p => by
  unfold mLst at e
  split at e
  · rename_i rs ρ1 h1
    split at e
    · rename_i ds ρ2 h2
      split at e
      · rename_i hl
        cases e
        refine ⟨B, F, ρ, rs, ρ1, R, h1, fun F1 H1 vs E1 R1 P1 => ?_⟩
        obtain ⟨F2, E2, R2, hv⟩ := toDatL_rep R1 P1 h2
        refine ⟨small_line (by rw [hv.length]; exact hl), fun q hq => ?_⟩
        exact p F2 _ _ (E1.trans E2) (R2.alloc hq) (R2.newOwn hq hv)
      · cases e
    · cases e
  · cases e
/-! ### a, b = x, y: new lists among the values stay one's own -/
/-- the values have come, each new list apart -/
def RepRo (K : Frag) (B F : Hp) (H : Hp) (σ : St) (ρ : Ev) : List RV → List V → Prop
  | [], vs => vs = []
  | r :: rs, vs => ∃ v ws, vs = v :: ws ∧ RepR K B F H σ ρ r v ∧ (∀ ds a, r = .own ds → v = .ref a → ∀ (j : Nat) es, rs[j]? = some (.own es) → ws[j]? ≠ some (.ref a)) ∧ RepRo K B F H σ ρ rs ws
def tMO (K : Frag) (pa : Nat → Addr) (m : Mr (List RV)) : TA := fun σ H Q => ∃ B F ρ rs ρ', Rep K B F pa H σ ρ ∧ m ρ = some (rs, ρ') ∧ ∀ F' H' vs, Ext B F F' → Rep K B F' pa H' σ ρ' → RepRo K B F' H' σ ρ' rs vs → Q vs H'
def DO (X : Cx) (pa : Nat → Addr) (es : List Expr) (m : Mr (List RV)) : Prop := PA X es (tMO X.K pa m)
theorem do_nil : DO X pa [] mNil := by
  constructor
  intro ps pins s σ H Q I h
  refine pa_nil.run ps pins s σ H Q I ?_
  obtain ⟨B, F, ρ, rs, ρ', R, e, q⟩ := h
  cases e
  exact q F H [] (Ext.refl _ _) R rfl
theorem RepRo.prot {K : Frag} {B B' F H : Hp} {σ : St} {ρ : Ev} (l : Le B B') : ∀ {rs : List RV} {vs : List V}, RepRo K B' F H σ ρ rs vs → RepRo K B F H σ ρ rs vs
  | [], _, h => h
  | r :: rs, _, ⟨v, ws, e, h, a, t⟩ => by
    refine ⟨v, ws, e, ?_, a, RepRo.prot l t⟩
    cases r with
    | dat d => exact h
    | bor i => exact h
    | scr d => exact h
    | own d =>
      obtain ⟨b, us, h1, h2, h3, h4, h5⟩ := h
      exact ⟨b, us, h1, h2, h3, l.none h4, h5⟩
theorem RepRo.apart {K : Frag} {B F H : Hp} {σ : St} {ρ : Ev} {a : Addr} {o : HO} (hB : B a = some o) : ∀ {rs : List RV} {vs : List V}, RepRo K B F H σ ρ rs vs → ∀ (j : Nat) es, rs[j]? = some (.own es) → vs[j]? ≠ some (.ref a)
  | [], _, _, j, es, e, _ => by simp at e
  | r :: rs, _, ⟨v, ws, ev, h, _, t⟩, 0, es, e, z => by
    subst ev
    simp at e
    subst e
    obtain ⟨b, us, h1, h2, h3, h4, h5⟩ := h
    have z' : v = .ref a := by simpa using z
    rw [h1] at z'
    cases z'
    rw [hB] at h4; cases h4
  | r :: rs, _, ⟨v, ws, ev, h, _, t⟩, j + 1, es, e, z => by
    subst ev
    exact RepRo.apart hB t j es (by simpa using e) (by simpa using z)
theorem do_cons {e : Expr} {es : List Expr} {m : Mr RV} {ms : Mr (List RV)} (h : DE X pa e m) (hr : DO X pa es ms) (hs : starEach (e :: es) X.env = (false, eval e X.env) :: starEach es X.env := by rfl) : DO X pa (e :: es) (mCons m ms) := by
  constructor
  intro ps pins s σ H Q I g
  refine (pa_cons h hr hs).run ps pins s σ H Q I ?_
  obtain ⟨B, F, ρ, rs, ρ', R, e, q⟩ := g
  unfold mCons at e
  split at e
  · rename_i r ρ1 h1
    split at e
    · rename_i rs' ρ2 h2
      cases e
      refine ⟨B, F, ρ, r, ρ1, R, h1, fun F1 H1 v E1 R1 P1 => ?_⟩
      have plain : (∀ F2 H2, Le F1 F2 → RepR X.K B F2 H2 σ ρ' r v) → (∀ ds, r ≠ .own ds) → tMO X.K pa ms σ H1 fun xs H2 => Q (v :: xs) H2 := fun keep no =>
        ⟨B, F1, ρ1, rs', ρ', R1, h2, fun F2 H2 vs E2 R2 P2 => q F2 H2 (v :: vs) (E1.trans E2) R2 ⟨v, vs, rfl, keep F2 H2 E2.le, fun ds a z => absurd z (no ds), P2⟩⟩
      cases r with
      | dat d => exact plain (fun F2 H2 l => Has.le l P1) (fun ds z => by cases z)
      | bor i => exact plain (fun F2 H2 l => P1) (fun ds z => by cases z)
      | scr ds =>
        obtain ⟨a, us, g1, g2, g3⟩ := P1
        exact plain (fun F2 H2 l => ⟨a, us, g1, SqL.le l g2, g3.le l⟩) (fun ds z => by cases z)
      | own ds =>
        obtain ⟨a, us, rfl, g1, g2, g3, g4, g5⟩ := P1
        have R1' : Rep X.K (upd B a (.lst us)) F1 pa H1 σ ρ1 := by
          refine ⟨R1.fh, fun b o z => ?_, R1.tb, R1.len, R1.dat, fun i x fs e1 e2 => ?_, R1.pin, R1.scr, R1.inj⟩
          · by_cases w : b = a
            · subst w; rw [upd_same] at z; cases z; exact .of g1
            · rw [upd_ne w] at z; exact R1.bh b o z
          · obtain ⟨b, ws, k1, k2, k3, k4, k5⟩ := R1.mu i x fs e1 e2
            refine ⟨b, ws, k1, k2, k3, ?_, k5⟩
            rw [upd_ne]
            · exact k4
            · rintro rfl; exact g5 i x fs e1 e2 k1
        refine ⟨upd B a (.lst us), F1, ρ1, rs', ρ', R1', h2, fun F2 H2 vs E2 R2 P2 => ?_⟩
        have lB : Le B (upd B a (.lst us)) := Le.upd g3
        have E2' : Ext B F1 F2 := ⟨E2.le, fun b n z => lB.none (E2.new b n z)⟩
        have R2' : Rep X.K B F2 pa H2 σ ρ' := ⟨R2.fh, lB.trans R2.bh, R2.tb, R2.len, R2.dat, fun i x fs e1 e2 => by
          obtain ⟨b, ws, k1, k2, k3, k4, k5⟩ := R2.mu i x fs e1 e2
          exact ⟨b, ws, k1, k2, k3, lB.none k4, k5⟩, R2.pin, R2.scr, R2.inj⟩
        have F2a : F2 a = none := by
          cases z : F2 a with
          | none => rfl
          | some o =>
            have w := E2.new a g2 (by rw [z]; simp)
            rw [upd_same] at w; cases w
        refine q F2 H2 _ (E1.trans E2') R2' ⟨_, vs, rfl, ⟨a, us, rfl, R2.bh a _ upd_same, F2a, g3, g4.le E2.le, fun i x fs e1 e2 z => ?_⟩, fun ds' a' _ z => ?_, RepRo.prot lB P2⟩
        · obtain ⟨b, ws, k1, k2, k3, k4, k5⟩ := R2.mu i x fs e1 e2
          rw [z] at k1
          cases k1
          rw [upd_same] at k4; cases k4
        · cases z
          exact RepRo.apart upd_same P2
    · cases e
  · cases e
/-- the slots are given their values, one after another -/
def puts : List Nat → List RV → Ev → Option Ev
  | [], [], ρ => some ρ
  | i :: is, r :: rs, ρ => (match r with
    | .bor _ => none
    | .scr _ => none
    | r => (match put i r ρ with
      | some ρ1 => puts is rs ρ1
      | none => none))
  | _, _, _ => none
def setL (σ : St) : List Nat → List V → St
  | i :: is, v :: vs => setL (σ.set i (some v)) is vs
  | _, _ => σ
theorem RepRo.store {K : Frag} {B F H : Hp} {σ : St} {ρ : Ev} {i : Nat} {v : V} {x : Val} (hl : ρ.length = σ.length) : ∀ {rs : List RV} {ws : List V}, RepRo K B F H σ ρ rs ws →
    (∀ es a, x.mut = some es → v = .ref a → ∀ (j : Nat) es, rs[j]? = some (.own es) → ws[j]? ≠ some (.ref a)) → (∀ r ∈ rs, ∀ k, r ≠ .bor k) → RepRo K B F H (σ.set i (some v)) (ρ.set i (some x)) rs ws
  | [], _, h, _, _ => h
  | r2 :: rs2, _, ⟨v2, ws2, ev2, P2, ap2, Ps2⟩, hx, nb => by
    subst ev2
    refine ⟨v2, ws2, rfl, ?_, ap2, RepRo.store hl Ps2 (fun es a h1 h2 j fs h3 => hx es a h1 h2 (j + 1) fs (by simpa using h3)) fun q hq => nb q (List.mem_cons_of_mem _ hq)⟩
    cases r2 with
    | dat d => exact P2
    | scr d => exact P2
    | bor k => exact absurd rfl (nb _ (List.mem_cons_self ..) k)
    | own es =>
      obtain ⟨a, us, h1, h2, h3, h4, h5, h6⟩ := P2
      refine ⟨a, us, h1, h2, h3, h4, h5, fun k y fs hk hm z => ?_⟩
      rcases get_set hk with ⟨rfl, w, hl1⟩ | ⟨ne, hk'⟩
      · cases w
        have hl' : i < σ.length := by rw [← hl]; exact hl1
        rw [List.getElem?_set_self hl'] at z
        have z' : v = .ref a := by simpa using z
        exact hx fs a hm z' 0 es rfl (by rw [h1]; rfl)
      · rw [List.getElem?_set_ne ne] at z
        exact h6 k y fs hk' hm z
theorem puts_rep {K : Frag} {B F H : Hp} : ∀ {is : List Nat} {rs : List RV} {vs : List V} {σ : St} {ρ ρ' : Ev}, Rep K B F pa H σ ρ → RepRo K B F H σ ρ rs vs → puts is rs ρ = some ρ' → Rep K B F pa H (setL σ is vs) ρ'
  | [], [], vs, σ, ρ, ρ', R, P, e => by
    cases e
    rw [show vs = [] from P]
    exact R
  | i :: is, r :: rs, vs, σ, ρ, ρ', R, ⟨v, ws, ev, P, ap, Ps⟩, e => by
    subst ev
    have nb : ∀ {is : List Nat} {rs : List RV} {ρ ρ' : Ev}, puts is rs ρ = some ρ' → ∀ r ∈ rs, ∀ k, r ≠ .bor k := by
      intro is rs
      induction rs generalizing is with
      | nil => intro _ _ _ r hr; simp at hr
      | cons r0 rs ih =>
        intro ρ ρ' e r hr k
        cases is with
        | nil => cases e
        | cons i0 is =>
          unfold puts at e
          split at e
          · cases e
          · cases e
          · rename_i n1 n2
            split at e
            · rename_i ρ1 h1
              rcases List.mem_cons.mp hr with rfl | hr
              · exact fun z => n1 k z
              · exact ih e r hr k
            · cases e
    unfold puts at e
    split at e
    · cases e
    · cases e
    · rename_i n1 n2
      split at e
      · rename_i ρ1 h1
        have nbs := nb e
        cases r with
        | bor k => exact absurd rfl (n1 k)
        | scr k => exact absurd rfl (n2 k)
        | dat d =>
          cases h1
          show Rep K B F pa H (setL (σ.set i (some v)) is ws) ρ'
          exact puts_rep (R.setDat P) (Ps.store R.len (fun es a h => by cases h) nbs) e
        | own ds =>
          cases h1
          show Rep K B F pa H (setL (σ.set i (some v)) is ws) ρ'
          exact puts_rep (R.setOwn P) (Ps.store R.len (fun es a _ hv => ap ds a rfl hv) nbs) e
      · cases e
  | [], _ :: _, _, _, _, _, _, _, e => by cases e
  | _ :: _, [], _, _, _, _, _, _, e => by cases e
def mPar (is : List Nat) (ms : Mr (List RV)) : Ms := fun ρ => match ms ρ with
  | some (rs, ρ1) => (match puts is rs ρ1 with
    | some ρ2 => some (.nx, ρ2)
    | none => none)
  | none => none
theorem RepRo.len {K : Frag} {B F H : Hp} {σ : St} {ρ : Ev} : ∀ {rs : List RV} {vs : List V}, RepRo K B F H σ ρ rs vs → vs.length = rs.length
  | [], _, h => by rw [show _ = [] from h]; rfl
  | _ :: _, _, ⟨v, ws, e, _, _, t⟩ => by rw [e]; exact congrArg Nat.succ (RepRo.len t)
theorem puts_len : ∀ {is : List Nat} {rs : List RV} {ρ ρ' : Ev}, puts is rs ρ = some ρ' → rs.length = is.length
  | [], [], _, _, _ => rfl
  | i :: is, r :: rs, ρ, ρ', e => by
    unfold puts at e
    split at e
    · cases e
    · cases e
    · split at e
      · exact congrArg Nat.succ (puts_len e)
      · cases e
  | [], _ :: _, _, _, e => by cases e
  | _ :: _, [], _, _, e => by cases e
theorem mPar_run {K : Frag} {is : List Nat} {ms : Mr (List RV)} {B F H : Hp} {σ : St} {ρ ρ' : Ev} {fl : Fl} {D : Ends} (R : Rep K B F pa H σ ρ) (e : mPar is ms ρ = some (fl, ρ')) (p : SPost K B F pa fl ρ' D) :
    tMO K pa ms σ H fun vs H1 => vs.length = is.length ∧ ∀ H2, (∀ b o, H1 b = some o → H2 b = some o) → D.nx (setL σ is vs) H2 := by
  unfold mPar at e
  split at e
  · rename_i rs ρ1 h1
    split at e
    · rename_i ρ2 h2
      cases e
      refine ⟨B, F, ρ, rs, ρ1, R, h1, fun F1 H1 vs E1 R1 P1 => ⟨P1.len.trans (puts_len h2), fun H2 l => ?_⟩⟩
      have R2 := puts_rep R1 P1 h2
      refine p F1 H2 _ E1 ⟨R2.fh.trans (.of l), R2.bh.trans (.of l), R2.tb.ext l, R2.len, R2.dat, fun i x ds e1 e2 => ?_, R2.pin, R2.scr, R2.inj⟩
      obtain ⟨a, us, k1, k2, k3⟩ := R2.mu i x ds e1 e2
      exact ⟨a, us, k1, l _ _ k2, k3⟩
    · cases e
  · cases e
theorem ds_par2 (i j : Nat) {x y : Str} {a b : Expr} {ms : Mr (List RV)} {px py pt : Pos} {kt k2 pt2} (hc : X.calm = true) (hN : X.N.Nodup) (ha : DO X pa [a, b] ms) (hij : i ≠ j := by decide) (hi : X.N[i]? = some x := by rfl) (hj : X.N[j]? = some y := by rfl)
    (hx : X.env.scope.names.lookup x = some .local := by rfl) (hy : X.env.scope.names.lookup y = some .local := by rfl)
    (hw : swappedStores [.Tuple [.Name x px, .Name y py] kt pt] (.Tuple [a, b] k2 pt2) X.env = pure (some [x, y]) := by rfl)
    (hs : swapsWithSole [.Tuple [.Name x px, .Name y py] kt pt] (.Tuple [a, b] k2 pt2) pos.line X.env = pure false := by rfl) :
    DS X pa (.Assign [.Tuple [.Name x px, .Name y py] kt pt] (.Tuple [a, b] k2 pt2) pos) (mPar [i, j] ms) :=
  DS.of (ps_par hc hN hi hj hij hx hy ha hw hs) fun {B F H σ ρ fl ρ' D} R e p => by
    obtain ⟨B', F', ρ0, rs, ρ1, R0, e0, q⟩ := mPar_run R e p
    refine ⟨B', F', ρ0, rs, ρ1, R0, e0, fun F1 H1 vs E1 R1 P1 => ?_⟩
    obtain ⟨hl, q2⟩ := q F1 H1 vs E1 R1 P1
    match vs, hl, q2 with
    | [v, w], _, q2 => exact ⟨v, w, rfl, q2 H1 fun _ _ h => h⟩
/-- .. where the tuple is made and taken apart (a name that is captured, four names and more) -/
def gNames : List Nat → TGs
  | [] => gNil
  | i :: is => gCons (gName i) (gNames is)
theorem gNames_run : ∀ {is : List Nat} {vs : List V} {σ : St} {H : Hp} {Q : St → Hp → Prop}, vs.length = is.length → Q (setL σ is vs) H → gNames is vs σ H Q
  | [], [], _, _, _, _, h => ⟨rfl, h⟩
  | i :: is, v :: vs, σ, H, Q, hl, h => ⟨v, vs, rfl, gNames_run (is := is) (by simpa using hl) h⟩
  | [], _ :: _, _, _, _, hl, _ => by simp at hl
  | _ :: _, [], _, _, _, hl, _ => by simp at hl
theorem ds_parT (is : List Nat) {ts es : List Expr} {ms : Mr (List RV)} {pt : Pos} {kt k2 pt2} (hc : X.calm = true) (ha : DO X pa es ms) (hg : PGs X ts (gNames is)) (hn : (assignEach ts X.env).length = is.length := by rfl) (hst : (assignEach ts X.env).findIdx? (·.1) = none := by rfl)
    (hlen : is.length ≤ 1000 := by decide) (hs : swapsWithSole [.Tuple ts kt pt] (.Tuple es k2 pt2) pos.line X.env = pure false := by rfl) (hw : swappedStores [.Tuple ts kt pt] (.Tuple es k2 pt2) X.env = pure none := by rfl) :
    DS X pa (.Assign [.Tuple ts kt pt] (.Tuple es k2 pt2) pos) (mPar is ms) :=
  DS.of (ps_asg (pe_tup ha) (pg_tup hc hg hn hst) hs hw rfl) fun {B F H σ ρ fl ρ' D} R e p => by
    obtain ⟨B', F', ρ0, rs, ρ1, R0, e0, q⟩ := mPar_run R e p
    refine ⟨B', F', ρ0, rs, ρ1, R0, e0, fun F1 H1 vs E1 R1 P1 => ?_⟩
    obtain ⟨hl, q2⟩ := q F1 H1 vs E1 R1 P1
    refine ⟨small_line (by rw [hl]; exact hlen), fun t ht => ⟨t, vs, rfl, SqT.of upd_same, hl, gNames_run hl (q2 _ fun b o h => ?_)⟩⟩
    rw [upd_ne (ne_of_none h ht)]; exact h
end
end DL
/-! DlF: what is walked: iterators by data. -/
namespace DL
open PySem PySem.Spec PyProof.Rows L2
/-! ### enumerate(v): its two new cells, v of any kind -/
set_option maxHeartbeats 1000000 in
inductive Sq where
  | l (a : Addr) (xs : List V) | t (a : Addr) (xs : List V)
def Sq.ad : Sq → Addr
  | .l a _ => a
  | .t a _ => a
def Sq.xs : Sq → List V
  | .l _ xs => xs
  | .t _ xs => xs
/-- it stands in H -/
def Sq.In (K : Frag) (H : Hp) : Sq → Prop
  | .l a xs => SqL K H a xs
  | .t a xs => SqT K H a xs
theorem Sq.In.le {K : Frag} {F G : Hp} (l : Le F G) {q : Sq} (h : q.In K F) : q.In K G := by
  cases q with
  | l a xs => exact SqL.le l h
  | t a xs => exact SqT.le l h
/-- .. in the machine's heap -/
def Sq.At (h : Heap) (its : List Value) : Sq → Prop
  | .l a _ => h.IsList a its.toArray
  | .t a _ => h.IsTuple a its.toArray
def Sq.itO : Sq → Obj
  | .l a _ => { cls := .type "list_iterator", data := .fields #[.ref a, .int 0 0] }
  | .t a _ => { cls := .type "tuple_iterator", data := .fields #[.ref a, .int 0 0] }
def Sq.ItAt (h : Heap) (it : Addr) (i : Nat) : Sq → Prop
  | .l a _ => h.IsListIter it a i
  | .t a _ => h.IsTupleIter it a i
theorem Sq.at_of {X : Cx} {pins : List (Addr × Obj)} {σ : St} {H : Hp} {s : Shared} (I : Inv X pins σ H s) {q : Sq} (h : q.In X.K H) : ∃ its, Vals q.xs its ∧ q.At s.heap its ∧ q.ad < s.heap.objs.size := by
  cases q with
  | l a xs =>
    obtain ⟨its, rv, p, _⟩ := I.list h
    exact ⟨its, rv, p.isList, let ⟨o, ho, _⟩ := p.isList; Heap.lt_size ho⟩
  | t a xs =>
    obtain ⟨its, rv, p, _⟩ := I.tuple h
    exact ⟨its, rv, p, p.lt⟩
theorem Sq.begins (q : Sq) (its : List Value) : Begins (.ref q.ad) q.itO (fun h => q.At h its) := by
  cases q with
  | l a xs => exact begins_list a its.toArray
  | t a xs => exact begins_tuple a its.toArray
theorem Sq.it0 {q : Sq} {h : Heap} {it : Addr} (e : h.get? it = some q.itO) : q.ItAt h it 0 := by
  cases q with
  | l a xs => exact ⟨_, e, rfl, rfl⟩
  | t a xs => exact ⟨_, e, rfl, rfl⟩
theorem Sq.ItAt.at {q : Sq} {h h' : Heap} {it : Addr} {i : Nat} (x : q.ItAt h it i) (k : ∀ o, h.get? it = some o → h'.get? it = some o) : q.ItAt h' it i := by
  cases q with
  | l a xs => exact Heap.IsListIter.at x k
  | t a xs => obtain ⟨o, e, r⟩ := x; exact ⟨o, k o e, r⟩
theorem Sq.ItAt.obj {q : Sq} {h : Heap} {it : Addr} {i : Nat} (x : q.ItAt h it i) : ∃ o, h.get? it = some o ∧ ∀ v, o.data ≠ .cell v := by
  cases q with
  | l a xs => obtain ⟨o, e, c, d⟩ := x; exact ⟨o, e, fun v z => by rw [d] at z; cases z⟩
  | t a xs => obtain ⟨o, e, c, d⟩ := x; exact ⟨o, e, fun v z => by rw [d] at z; cases z⟩
/-- it stands apart from an iterator's own objects -/
theorem Sq.apart {X : Cx} {pins : List (Addr × Obj)} {σ : St} {H : Hp} {s : Shared} (I : Inv X pins σ H s) {q : Sq} (h : q.In X.K H) {b : Addr} (f : FpOk X pins H b) : q.ad ≠ b := by
  obtain ⟨f0, -, -, f3, -, -⟩ := f
  have tracked : ∀ {o : HO}, H q.ad = some o → q.ad ≠ b := fun {o} e z => by rw [z, f0] at e; cases e
  have written : ∀ {o : Obj}, X.K.lookup q.ad = some o → q.ad ≠ b := fun {o} e z => by
    have e1 := I.ok.mod.kin _ _ e
    rcases f3 with g | g
    · exact I.ok.noex _ _ e1 (by rw [z]; exact g)
    · have l := Nat.lt_of_lt_of_le (Heap.lt_size e1) (Nat.le_trans I.ok.bsz g)
      rw [z] at l
      exact Nat.lt_irrefl _ l
  cases q with
  | l a xs =>
    rcases h with (h | ⟨o, h⟩) | ⟨o, _, _, h, _⟩
    · exact tracked h
    · exact tracked h
    · exact written h
  | t a xs =>
    rcases h with (h | ⟨o, h⟩) | ⟨o, _, _, h, _⟩
    · exact tracked h
    · exact tracked h
    · exact written h
/-- its iterator draws its items -/
theorem Sq.draws {prog : Program} {w : World} {A : Around} (hh : A.handled = none) (q : Sq) (it : Addr) (its : List Value) (hne : q.ad ≠ it) :
    Draws prog w A it [it, q.ad] its.length (fun i v => its[i]? = some v) (fun i h => q.ItAt h it i ∧ q.At h its) := by
  cases q with
  | l a xs =>
    have D := Draws.list (prog := prog) (w := w) hh it a hne its.toArray
    show Draws prog w A it [it, a] its.length (fun i v => its[i]? = some v) (fun i h => h.IsListIter it a i ∧ h.IsList a its.toArray)
    simpa using D
  | t a xs =>
    have D := Draws.tuple (prog := prog) (w := w) hh it a hne its.toArray
    show Draws prog w A it [it, a] its.length (fun i v => its[i]? = some v) (fun i h => h.IsTupleIter it a i ∧ h.IsTuple a its.toArray)
    simpa using D
/-! ### an iterator that hands out new tuples: n turns, at turn i the tuple vs i; L says what must stand for it -/
def Itn (n : Nat) (L : Hp → Prop) (vs : Nat → List V) : It :=
  ⟨fun i H => i < n ∧ L H, fun i H v H' => ∃ T, v = .ref T ∧ H T = none ∧ H' = upd H T (.tup (vs i)), fun i H => i = n ∧ L H⟩
theorem turn_new {P : Program} {w : World} {K : Frag} {tg : Expr} {it : Addr} {fp wr : List Addr} {n : Nat} {L : Hp → Prop} {vs : Nat → List V} {tn : Nat → Heap → Prop} (small : ∀ i, i < n → (vs i).length ≤ 1000)
    (mem : it ∈ fp) (sub : ∀ b ∈ wr, b ∈ fp) (obj : ∀ i h, tn i h → ∀ b ∈ fp, ∃ o, h.get? b = some o ∧ ∀ v, o.data ≠ .cell v) (keep : ∀ i h h', tn i h → (∀ b ∈ fp, ∀ o, h.get? b = some o → h'.get? b = some o) → tn i h')
    (self : ∀ (A : Around) (i : Nat) (s : Shared) (Q : Value → Shared → Prop) (E : Value → Shared → Prop), tn i s.heap → Q (.ref it) s → wpAny (model P w) A (pyIter (.ref it)) Q E s)
    (go : ∀ (X : Cx), X.prog = P → X.w = w → X.K = K → X.A.handled = none → ∀ (pins : List (Addr × Obj)) (s : Shared) (σ : St) (H : Hp), Inv X pins σ H s → L H → (∀ b ∈ fp, FpOk X pins H b) → ∃ (fq : List Addr) (Y : Nat → Heap → Value → Heap → Prop) (S : Nat → Heap → Prop), GoesN P w X.A tg it fq wr n Y S ∧
      (∀ i, tn i s.heap → S i s.heap) ∧ (∀ i h, S i h → tn i h) ∧ ∀ i v h', i < n → Y i s.heap v h' → ∃ (T : Addr) (us : List Value), v = .ref T ∧ s.heap.objs.size ≤ T ∧ Vals (vs i) us ∧ h'.IsTuple T us.toArray) :
    Turn P w K tg (Itn n L vs) fp it tn where
  mem := mem
  obj := obj
  keep := keep
  self := self
  item := by
    intro X hP hw hK hc i pins s σ H E I hf st hg
    subst hP hw hK
    obtain ⟨hi, hL⟩ := hg
    obtain ⟨fq, Y, S, G, g1, g2, g3⟩ := go X rfl rfl rfl (I.ok.hd hc) pins s σ H I hL hf
    refine G.goes i s _ E hi (g1 i st) ?_ |> fun q => wpAny_mono q (fun r s1 h1 => h1) fun _ _ x => x
    intro v h' tk hY st' hk htk
    obtain ⟨T, us, rfl, hT, rv, ht⟩ := g3 i v h' hi hY
    have new : ObjOk X.prog X.w (upd H T (.tup (vs i))) h' T (.tup (vs i)) := ⟨small_line (small i hi), us, rv, ht⟩
    have I1 := I.turnedNew (t' := tk) (ch := wr) hk (fun b hb => hf b (sub b hb)) hT new
    refine ⟨.ref T, _, I1, rfl, ⟨T, rfl, I.hok.fresh hT, rfl⟩, g2 _ _ st', fun b hb => ?_⟩
    have hb' : b < s.heap.objs.size := let ⟨o, ho, _⟩ := obj i _ st b hb; Heap.lt_size ho
    rw [upd_ne (Nat.ne_of_lt (Nat.lt_of_lt_of_le hb' hT))]
    exact (hf b hb).1
  done := by
    intro X hP hw hK hc i pins s σ H E I hf st hg
    subst hP hw hK
    obtain ⟨rfl, hL⟩ := hg
    obtain ⟨fq, Y, S, G, g1, g2, g3⟩ := go X rfl rfl rfl (I.ok.hd hc) pins s σ H I hL hf
    refine G.stops s _ E (g1 i st) ?_
    intro h' tk hk htk
    have nit : ∀ b u, H b = some u → b ∉ wr := fun b u e z => by
      have q := (hf b (sub b z)).1
      rw [q] at e; cases e
    have nw : ∀ b ∈ wr, b ≠ X.env.locals ∧ (∀ x c, X.env.cells.lookup x = some c → c ≠ b) ∧ ∀ p ∈ X.pn ++ pins, p.1 ≠ b := fun b hb => let ⟨_, f1, _, _, f4, f5⟩ := hf b (sub b hb); ⟨f1, f4, f5⟩
    refine I.step (g' := s.gens) (d' := s.drawn) (ch := wr) (fun b hb => ⟨(hf b (sub b hb)).2.2.2.1, nw b hb⟩) (fun b o _ _ hc e _ => hk b o hc e) (fun b o _ _ hc e _ => ⟨o.slots, hk b o hc e⟩)
      (fun _ _ _ _ z => z) (fun b o hc e => ⟨o, hk b o hc e⟩) (fun _ _ e => e) (fun _ _ _ e => e) (fun b ps e => ⟨#[], by rw [e]; simp⟩) (fun m hm => ?_) (fun b u e => ?_) I.bare
    · obtain ⟨o, es, ep, ho, r⟩ := hm
      exact ⟨o, es, ep, hk _ o (fun z => (nw _ z).1 rfl) ho, r⟩
    · refine (I.hok b u e).stay (fun c v hc q => hk c v ?_ q) (fun _ q => q) fun _ _ q => q
      rcases hc with z | z
      · rw [z]; exact nit b u e
      · exact nit c _ z
theorem getD_some {xs : List V} {i : Nat} {x : V} (h : xs[i]? = some x) : xs.getD i .non = x := by rw [List.getD_eq_getElem?_getD, h]; rfl
/-- zip's tuples -/
def zVs (xs ys : List V) (i : Nat) : List V := [xs.getD i .non, ys.getD i .non]
structure Apart2 (z TI TO i1 i2 : Addr) : Prop where
  a1 : TI ≠ z
  a2 : TO ≠ z
  a3 : TI ≠ TO
  a4 : TI ≠ i1
  a5 : TI ≠ i2
  a6 : z ≠ i1
  a7 : z ≠ i2
  a8 : TO ≠ i1
  a9 : TO ≠ i2
  a10 : i1 ≠ i2
theorem min_of {xs ys : List V} {us ws : List Value} (r : Vals xs us) (q : Vals ys ws) : min us.length ws.length = min xs.length ys.length := by rw [r.length, q.length]
theorem getD_rel {xs : List V} {us : List Value} {i : Nat} {u : Value} (r : Vals xs us) (h : us[i]? = some u) : RelV (xs.getD i .non) u := by
  cases hx : xs[i]? with
  | none =>
    have := r.none_of hx
    rw [h] at this; cases this
  | some x =>
    obtain ⟨u', h', ru⟩ := r.get hx
    rw [h] at h'
    cases h'
    rw [getD_some hx]; exact ru
theorem turn_zip2S {P : Program} {w : World} {K : Frag} {elts : List Expr} {kk : Nat} {tpos : Pos} (q p : Sq) {z TI TO i1 i2 : Addr} (D : Apart2 z TI TO i1 i2) :
    Turn P w K (.Tuple elts kk tpos) (Itn (min q.xs.length p.xs.length) (fun H => q.In K H ∧ p.In K H) (zVs q.xs p.xs)) [z, TI, TO, i1, i2] z
      (fun i h => IsZip h z TI TO .none ∧ IsTupOf2 h TI (.ref i1) (.ref i2) ∧ (∃ a1 a2, IsTupOf2 h TO a1 a2) ∧ q.ItAt h i1 i ∧ p.ItAt h i2 i) := by
  refine turn_new (wr := [z, TO, i1, i2]) (fun _ _ => by show 2 ≤ 1000; decide) (by simp) (fun b hb => ?_) (fun i h st b hb => ?_) (fun i h h' st k => ?_) (fun A i s Q E st h => ?_) fun X hP hw hK hh pins s σ H I hL hf => ?_
  · have e' : b = z ∨ b = TO ∨ b = i1 ∨ b = i2 := by simpa using hb
    rcases e' with rfl | rfl | rfl | rfl <;> simp
  · obtain ⟨h1, h2, ⟨a1, a2, h3⟩, h4, h5⟩ := st
    have e' : b = z ∨ b = TI ∨ b = TO ∨ b = i1 ∨ b = i2 := by simpa using hb
    rcases e' with rfl | rfl | rfl | rfl | rfl
    · exact ⟨_, h1, fun v z => nomatch z⟩
    · exact ⟨_, h2, fun v z => nomatch z⟩
    · exact ⟨_, h3, fun v z => nomatch z⟩
    · exact h4.obj
    · exact h5.obj
  · obtain ⟨h1, h2, ⟨a1, a2, h3⟩, h4, h5⟩ := st
    exact ⟨k z (by simp) _ h1, k TI (by simp) _ h2, ⟨a1, a2, k TO (by simp) _ h3⟩, h4.at fun o e => k i1 (by simp) o e, h5.at fun o e => k i2 (by simp) o e⟩
  · exact wpAny_pyIter_zip st.1 h
  · subst hP hw hK
    obtain ⟨its, rv, ha, hlt⟩ := Sq.at_of I hL.1
    obtain ⟨its2, rv2, ha2, hlt2⟩ := Sq.at_of I hL.2
    have nq : ∀ b, b ∈ [z, TI, TO, i1, i2] → q.ad ≠ b := fun b hb => Sq.apart I hL.1 (hf b hb)
    have np : ∀ b, b ∈ [z, TI, TO, i1, i2] → p.ad ≠ b := fun b hb => Sq.apart I hL.2 (hf b hb)
    have D1 := Sq.draws (prog := X.prog) (w := X.w) (A := X.A.in1) hh q i1 its (nq i1 (by simp))
    have D2 := Sq.draws (prog := X.prog) (w := X.w) (A := X.A.in1) hh p i2 its2 (np i2 (by simp))
    have S : ZipSep2 z TI TO i1 i2 [i1, q.ad] [i2, p.ad] := by
      refine ⟨D.a1, D.a2, D.a3, D.a4, by simp, ?_, ?_, D.a5, by simp, ?_, ?_, ?_, ?_⟩
      · simp [D.a6, (nq z (by simp)).symm]
      · simp [D.a8, (nq TO (by simp)).symm]
      · simp [D.a7, (np z (by simp)).symm]
      · simp [D.a9, (np TO (by simp)).symm]
      · simp [D.a10, (np i1 (by simp)).symm]
      · simp [D.a10.symm, (nq i2 (by simp)).symm]
    have G := GoesN.zip2 (A := X.A) (elts := elts) (x1 := kk) (pos := tpos) S D1 D2
    rw [min_of rv rv2] at G
    refine ⟨_, _, _, G, fun i st => ⟨st.1, st.2.1, st.2.2.1, ⟨st.2.2.2.1, ha⟩, ⟨st.2.2.2.2, ha2⟩⟩, fun i h st => ⟨st.1, st.2.1, st.2.2.1, st.2.2.2.1.1, st.2.2.2.2.1⟩, fun i v h' hi hY => ?_⟩
    obtain ⟨T, x, y, ev, hT, hx, hy, ht⟩ := hY
    exact ⟨T, [x, y], ev, hT, .cons (getD_rel rv hx) (.cons (getD_rel rv2 hy) .nil), ht⟩
/-! ### what may be walked, as an expression -/
section
variable {X : Cx} {tg : Expr} {pos : Pos}
/-- a list or a tuple: known when it has come -/
def iSeq (K : Frag) (tl : TE) : TI := fun σ H R => tl σ H fun x H1 => ∃ q : Sq, x = .ref q.ad ∧ q.In K H1 ∧ (match q with
  | .l a _ => R (Itl K a) H1
  | .t a _ => R (Itt K a) H1)
theorem fresh1 {pins : List (Addr × Obj)} {σ : St} {H : Hp} {s : Shared} (I : Inv X pins σ H s) {b : Addr} (h : s.heap.objs.size ≤ b) : FpOk X pins H b := I.fpOk h (I.hok.fresh h)
theorem pi_seq {l : Expr} {tl : TE} (hl : PE X l tl) : PI X tg l (iSeq X.K tl) := by
  constructor
  intro pins s σ H R I h
  refine thn (hl.run pins s σ H _ I h) ?_
  rintro v s1 ⟨x, H1, I1, r1, q, rfl, hq, hR⟩
  cases r1
  obtain ⟨its, rv, ha, hlt⟩ := Sq.at_of I1 hq
  have push : ∀ (o : Obj), Inv X pins σ H1 { s1 with heap := s1.heap.push o } := fun o => I1.kept (t' := s1.toks) fun b u e => Heap.get?_push_of_some _ e
  have fp : ∀ b ∈ [s1.heap.objs.size], FpOk X pins H1 b := fun b hb => fresh1 I1 (by simp at hb; omega)
  cases q with
  | l a xs => exact wpAny_pyIter_list ha ⟨_, _, _, _, H1, rfl, push _, turn_list a s1.heap.objs.size, ⟨_, Heap.get?_push_size _ rfl, rfl, rfl⟩, fp, hR⟩
  | t a xs => exact wpAny_pyIter_tuple ha ⟨_, _, _, _, H1, rfl, push _, turn_tuple a s1.heap.objs.size, ⟨_, Heap.get?_push_size _ rfl, rfl, rfl⟩, fp, hR⟩
def iZip2 (K : Frag) (ta : TA) : TI := fun σ H R => ta σ H fun vs H1 => ∃ q p : Sq, vs = [.ref q.ad, .ref p.ad] ∧ q.In K H1 ∧ p.In K H1 ∧ R (Itn (min q.xs.length p.xs.length) (fun H => q.In K H ∧ p.In K H) (zVs q.xs p.xs)) H1
theorem apart5 (N : Nat) : Apart2 (N + 4) (N + 2) (N + 3) N (N + 1) := ⟨fun e => absurd (show (N + 2 : Nat) = N + 4 from e) (by omega), fun e => absurd (show (N + 3 : Nat) = N + 4 from e) (by omega), fun e => absurd (show (N + 2 : Nat) = N + 3 from e) (by omega), fun e => absurd (show (N + 2 : Nat) = N from e) (by omega), fun e => absurd (show (N + 2 : Nat) = N + 1 from e) (by omega), fun e => absurd (show (N + 4 : Nat) = N from e) (by omega), fun e => absurd (show (N + 4 : Nat) = N + 1 from e) (by omega), fun e => absurd (show (N + 3 : Nat) = N from e) (by omega), fun e => absurd (show (N + 3 : Nat) = N + 1 from e) (by omega), fun e => absurd (show (N : Nat) = N + 1 from e) (by omega)⟩
theorem pi_zip2S {e e2 : Expr} {ta : TA} {p tpos : Pos} {elts : List Expr} {kk : Nat} (hg : Gl X "zip") (hm : X.mg "zip" = none) (ha : PA X [e, e2] ta) (hs : starEach [e, e2] X.env = [(false, eval e X.env), (false, eval e2 X.env)] := by rfl) (hs2 : starEach [e2] X.env = [(false, eval e2 X.env)] := by rfl) :
    PI X (.Tuple elts kk tpos) (.Call (.Name "zip" p) [e, e2] [] pos) (iZip2 X.K ta) := by
  constructor
  intro pins s σ H R I h
  refine Call_ (ld_blt I hg hm boot_zip (PyProof.Rows.callWith_type1 (thn (ha.run pos pins s σ H _ I h) ?_) (by rw [hs, hs2]) (by rw [hs2]; rfl)))
  rintro us s1 ⟨vs, H1, I1, r1, q, p, rfl, hq, hp, hR⟩
  obtain ⟨u, u2, rfl, ru, ru2⟩ := vals2 r1
  cases ru
  cases ru2
  obtain ⟨its, rv, hat, hlt⟩ := Sq.at_of I1 hq
  obtain ⟨its2, rv2, hat2, hlt2⟩ := Sq.at_of I1 hp
  refine zip_begins2 (q.begins its) (p.begins its2) hat hat2 fun g hz hTI hTO h1 h2 hsz hk => wpAny_pyIter_zip hz ?_
  refine ⟨_, [s1.heap.objs.size + 4, s1.heap.objs.size + 2, s1.heap.objs.size + 3, s1.heap.objs.size, s1.heap.objs.size + 1], _, _, H1, rfl, I1.kept (t' := s1.toks) hk, turn_zip2S q p (apart5 _), ⟨hz, hTI, ⟨_, _, hTO⟩, q.it0 h1, p.it0 h2⟩, fun b hb => ?_, hR⟩
  have e' : b = s1.heap.objs.size + 4 ∨ b = s1.heap.objs.size + 2 ∨ b = s1.heap.objs.size + 3 ∨ b = s1.heap.objs.size ∨ b = s1.heap.objs.size + 1 := by simpa using hb
  exact fresh1 I1 (by rcases e' with rfl | rfl | rfl | rfl | rfl <;> first | exact Nat.le_refl _ | exact Nat.le_add_right _ _)
end
end DL
/-! DlG: for, while, list comprehensions, by data. -/
namespace DL
open PySem PySem.Spec PyProof.Rows L2
/-- J hands out the items, one after another -/
structure Drives (K : Frag) (B : Hp) (pa : Nat → Addr) (J : It) (F0 : Hp) (items : List PD) : Prop where
  go : ∀ (i : Nat) (F H : Hp) (σ : St) (ρ : Ev) (d : PD), items[i]? = some d → Ext B F0 F → Rep K B F pa H σ ρ → J.go i H ∧ ∀ x H', J.yld i H x H' → ∃ F', Ext B F F' ∧ Rep K B F' pa H' σ ρ ∧ Has K F' x d
  stop : ∀ (F H : Hp) (σ : St) (ρ : Ev), Ext B F0 F → Rep K B F pa H σ ρ → J.stop items.length H
def tMI (K : Frag) (pa : Nat → Addr) (m : Mr (List PD)) : TI := fun σ H R => ∃ B F ρ items ρ', Rep K B F pa H σ ρ ∧ m ρ = some (items, ρ') ∧ ∀ F' H' J, Ext B F F' → Rep K B F' pa H' σ ρ' → (∀ B', Le B B' → Drives K B' pa J F' items) → R J H'
def DI (X : Cx) (pa : Nat → Addr) (tg iter : Expr) (m : Mr (List PD)) : Prop := PI X tg iter (tMI X.K pa m)
section
variable {X : Cx} {pa : Nat → Addr} {tg : Expr} {pos : Pos}
theorem DI.of {iter : Expr} {m : Mr (List PD)} {t : TI} (h : PI X tg iter t) (w : ∀ {B F : Hp} {H : Hp} {σ : St} {ρ : Ev} {items : List PD} {ρ' : Ev} {R : It → Hp → Prop}, Rep X.K B F pa H σ ρ → m ρ = some (items, ρ') →
    (∀ F' H' J, Ext B F F' → Rep X.K B F' pa H' σ ρ' → (∀ B', Le B B' → Drives X.K B' pa J F' items) → R J H') → t σ H R) : DI X pa tg iter m :=
  ⟨fun pins s σ H R I ⟨B, F, ρ, it, ρ', Rp, e1, p⟩ => h.run pins s σ H R I (w Rp e1 p)⟩
def itemsOf : PD → Option (List PD)
  | .list ds => some ds
  | .tuple ds => some ds
  | _ => none
def mItems (m : Mr RV) : Mr (List PD) := fun ρ => match m ρ with
  | some (r, ρ1) => (match toDat r ρ1 with
    | some (d, ρ2) => (match itemsOf d with
      | some ds => some (ds, ρ2)
      | none => none)
    | none => none)
  | none => none
/-- data that may be walked, as a list or tuple that stands -/
theorem seq_of {K : Frag} {F : Hp} {v : V} {d : PD} {ds : List PD} (h : Has K F v d) (e : itemsOf d = some ds) : ∃ q : Sq, v = .ref q.ad ∧ q.In K F ∧ HasL K F q.xs ds := by
  cases d with
  | list es => cases e; cases h with
    | lst h t => exact ⟨.l _ _, rfl, SqL.of h, t⟩
  | tuple es => cases e; cases h with
    | tup h t => exact ⟨.t _ _, rfl, h, t⟩
  | none => cases e
  | bool _ => cases e
  | int _ => cases e
  | str _ => cases e
  | dict _ => cases e
theorem di_seq {l : Expr} {m : Mr RV} (h : DE X pa l m) : DI X pa tg l (mItems m) := DI.of (pi_seq h) fun {B F H σ ρ items ρ' R} Rp e p => by
  unfold mItems at e
  split at e
  · rename_i r ρ1 h1
    split at e
    · rename_i d ρ2 h2
      split at e
      · rename_i ds h3
        cases e
        refine ⟨B, F, ρ, r, ρ1, Rp, h1, fun F1 H1 v E1 R1 P1 => ?_⟩
        obtain ⟨F2, E2, R2, hv⟩ := toDat_rep R1 P1 h2
        obtain ⟨q, rfl, hq, hl⟩ := seq_of hv h3
        refine ⟨q, rfl, hq.le R2.fh, ?_⟩
        cases q with
        | l a xs =>
          refine p F2 H1 _ (E1.trans E2) R2 fun B' lB => ⟨fun i G H' σ' ρ'' d hd E' R' => ?_, fun G H' σ' ρ'' E' R' => ⟨xs, SqL.le (E'.le.trans R'.fh) hq, Nat.le_of_eq hl.length⟩⟩
          obtain ⟨x, hx, hx2⟩ := hl.get hd
          have hs : SqL X.K H' a xs := SqL.le (E'.le.trans R'.fh) hq
          refine ⟨⟨xs, x, hs, hx⟩, fun y H'' ⟨e1, e2⟩ => ?_⟩
          subst e1
          have ey : x = y := Option.some.inj (hx.symm.trans (e2 xs hs))
          subst ey
          exact ⟨G, Ext.refl _ _, R', hx2.le E'.le⟩
        | t a xs =>
          refine p F2 H1 _ (E1.trans E2) R2 fun B' lB => ⟨fun i G H' σ' ρ'' d hd E' R' => ?_, fun G H' σ' ρ'' E' R' => ⟨xs, SqT.le (E'.le.trans R'.fh) hq, Nat.le_of_eq hl.length⟩⟩
          obtain ⟨x, hx, hx2⟩ := hl.get hd
          have hs : SqT X.K H' a xs := SqT.le (E'.le.trans R'.fh) hq
          refine ⟨⟨xs, x, hs, hx⟩, fun y H'' ⟨e1, e2⟩ => ?_⟩
          subst e1
          have ey : x = y := Option.some.inj (hx.symm.trans (e2 xs hs))
          subst ey
          exact ⟨G, Ext.refl _ _, R', hx2.le E'.le⟩
      · cases e
    · cases e
  · cases e
/-- new tuples drive -/
theorem drives_new {K : Frag} {B F0 : Hp} {n : Nat} {L : Hp → Prop} {vs : Nat → List V} {items : List PD} (hn : items.length = n) (hL : ∀ G H, Le F0 G → Le G H → L H)
    (hi : ∀ i d, items[i]? = some d → ∃ es, d = .tuple es ∧ HasL K F0 (vs i) es) : Drives K B pa (Itn n L vs) F0 items := by
  refine ⟨fun i F H σ ρ d hd E R => ?_, fun F H σ ρ E R => ⟨hn, hL F H E.le R.fh⟩⟩
  have hl : i < items.length := (List.getElem?_eq_some_iff.mp hd).1
  refine ⟨⟨by rw [← hn]; exact hl, hL F H E.le R.fh⟩, fun x H' ⟨T, e1, e2, e3⟩ => ?_⟩
  obtain ⟨es, rfl, h⟩ := hi i d hd
  subst e1 e3
  exact ⟨_, R.newExt (o := .tup (vs i)) e2, R.new e2, .tup (SqT.of upd_same) ((h.le E.le).le (Le.upd (R.fh.none e2)))⟩
def enumD : Nat → List PD → List PD
  | _, [] => []
  | k, d :: ds => .tuple [.int (k : Nat), d] :: enumD (k + 1) ds
theorem enumD_len : ∀ (k : Nat) (ds : List PD), (enumD k ds).length = ds.length
  | _, [] => rfl
  | k, _ :: ds => congrArg Nat.succ (enumD_len (k + 1) ds)
theorem enumD_get : ∀ (k : Nat) (ds : List PD) (i : Nat), (enumD k ds)[i]? = (ds[i]?).map fun d => .tuple [.int ((k + i : Nat) : Int), d]
  | _, [], i => by simp [enumD]
  | k, d :: ds, 0 => by simp [enumD]
  | k, d :: ds, i + 1 => by
    have := enumD_get (k + 1) ds i
    simp only [enumD, List.getElem?_cons_succ, this]
    rw [show k + 1 + i = k + (i + 1) by omega]
def zipD (xs ys : List PD) : List PD := List.zipWith (fun x y => .tuple [x, y]) xs ys
/-- the walked arguments of zip, enumerate: held as data -/
def mArgs (ms : Mr (List RV)) : Mr (List PD) := fun ρ => match ms ρ with
  | some (rs, ρ1) => toDatL (rs.map holdR) ρ1
  | none => none
def mEnum (ms : Mr (List RV)) : Mr (List PD) := fun ρ => match mArgs ms ρ with
  | some ([d], ρ1) => (match itemsOf d with
    | some ds => some (enumD 0 ds, ρ1)
    | none => none)
  | _ => none
def mZip (ms : Mr (List RV)) : Mr (List PD) := fun ρ => match mArgs ms ρ with
  | some ([d, e], ρ1) => (match itemsOf d with
    | some ds => (match itemsOf e with
      | some es => some (zipD ds es, ρ1)
      | none => none)
    | none => none)
  | _ => none
theorem mArgs_run {ms : Mr (List RV)} {B F H : Hp} {σ : St} {ρ ρ' : Ev} {ds : List PD} {Q : List V → Hp → Prop} (R : Rep X.K B F pa H σ ρ) (e : mArgs ms ρ = some (ds, ρ')) (q : ∀ F' H' vs, Ext B F F' → Rep X.K B F' pa H' σ ρ' → HasL X.K F' vs ds → Q vs H') : tMA X.K pa ms σ H Q := by
  unfold mArgs at e
  split at e
  · rename_i rs ρ1 h1
    refine ⟨B, F, ρ, rs, ρ1, R, h1, fun F1 H1 vs E1 R1 P1 => ?_⟩
    obtain ⟨F2, E2, R2, hv⟩ := toDatL_rep R1 P1 e
    exact q F2 H1 vs (E1.trans E2) R2 hv
  · cases e
theorem di_zip {e e2 : Expr} {ms : Mr (List RV)} {p tpos : Pos} {elts : List Expr} {kk : Nat} (hm : X.mg "zip" = none) (ha : DA X pa [e, e2] ms) (hg : Gl X "zip" := by rfl) (hs : starEach [e, e2] X.env = [(false, eval e X.env), (false, eval e2 X.env)] := by rfl) (hs2 : starEach [e2] X.env = [(false, eval e2 X.env)] := by rfl) :
    DI X pa (.Tuple elts kk tpos) (.Call (.Name "zip" p) [e, e2] [] pos) (mZip ms) := DI.of (pi_zip2S hg hm ha hs hs2) fun {B F H σ ρ items ρ' R} Rp e p => by
  unfold mZip at e
  split at e
  · rename_i d d2 ρ1 h1
    split at e
    · rename_i ds h2
      split at e
      · rename_i es h3
        cases e
        refine mArgs_run Rp h1 fun F1 H1 vs E1 R1 hv => ?_
        obtain ⟨v, r, rfl, hv1, hr⟩ := hv.cons_inv
        obtain ⟨v2, r2, rfl, hv2, hr2⟩ := hr.cons_inv
        cases hr2
        obtain ⟨q, rfl, hq, hl⟩ := seq_of hv1 h2
        obtain ⟨q2, rfl, hq2, hl2⟩ := seq_of hv2 h3
        refine ⟨q, q2, rfl, hq.le R1.fh, hq2.le R1.fh, p F1 H1 _ E1 R1 fun B' lB => drives_new (by unfold zipD; rw [List.length_zipWith, hl.length, hl2.length]) (fun G H' l1 l2 => ⟨hq.le (l1.trans l2), hq2.le (l1.trans l2)⟩) fun i d' hd => ?_⟩
        unfold zipD at hd
        rw [List.getElem?_zipWith] at hd
        split at hd
        · rename_i x y hx hy
          cases hd
          obtain ⟨u, hu, hu2⟩ := hl.get hx
          obtain ⟨u', hu', hu2'⟩ := hl2.get hy
          refine ⟨_, rfl, ?_⟩
          unfold zVs
          rw [getD_some hu, getD_some hu']
          exact .cons hu2 (.cons hu2' .nil)
        · cases hd
      · cases e
    · cases e
  · cases e
def rangeD (lo : Int) (n : Nat) : List PD := (List.range n).map fun i => .int (lo + (i : Nat))
theorem drives_range {K : Frag} {B F0 : Hp} (lo : Int) (n : Nat) : Drives K B pa (Itr lo n) F0 (rangeD lo n) := by
  refine ⟨fun i F H σ ρ d hd E R => ?_, fun F H σ ρ E R => by show n ≤ (rangeD lo n).length; unfold rangeD; simp⟩
  unfold rangeD at hd
  rw [List.getElem?_map] at hd
  by_cases hi : i < n
  · rw [List.getElem?_range hi] at hd
    cases hd
    refine ⟨hi, fun x H' ⟨e1, e2⟩ => ?_⟩
    subst e1 e2
    exact ⟨F, Ext.refl _ _, R, .int _⟩
  · rw [List.getElem?_eq_none (by simpa using hi)] at hd
    cases hd
def inRange (i : Int) : Bool := decide (-(2 ^ 62) ≤ i) && decide (i < 2 ^ 62)
theorem inRange_ok {i : Int} (h : inRange i = true) : -(2 ^ 62) ≤ i ∧ i < 2 ^ 62 := by
  unfold inRange at h
  simpa using h
def mRange1 (ms : Mr (List RV)) : Mr (List PD) := fun ρ => match mArgs ms ρ with
  | some ([.int n], ρ1) => if inRange n = true then some (rangeD 0 n.toNat, ρ1) else none
  | _ => none
def mRange2 (ms : Mr (List RV)) : Mr (List PD) := fun ρ => match mArgs ms ρ with
  | some ([.int a, .int b], ρ1) => if inRange a = true ∧ inRange b = true then some (rangeD a (b - a).toNat, ρ1) else none
  | _ => none
theorem di_range1 {a : Expr} {ms : Mr (List RV)} {p : Pos} (hm : X.mg "range" = none) (ha : DA X pa [a] ms) (hg : Gl X "range" := by rfl) (hs : starEach [a] X.env = [(false, eval a X.env)] := by rfl) : DI X pa tg (.Call (.Name "range" p) [a] [] pos) (mRange1 ms) :=
  DI.of (pi_range1 hg hm ha hs) fun {B F H σ ρ items ρ' R} Rp e p => by
    unfold mRange1 at e
    split at e
    · rename_i n ρ1 h1
      split at e
      · rename_i hn
        cases e
        refine mArgs_run Rp h1 fun F1 H1 vs E1 R1 hv => ?_
        obtain ⟨v, r, rfl, hv1, hr⟩ := hv.cons_inv
        cases hr
        cases hv1
        obtain ⟨b1, b2⟩ := inRange_ok hn
        exact ⟨n, rfl, b1, b2, p F1 H1 _ E1 R1 fun B' lB => drives_range 0 n.toNat⟩
      · cases e
    · cases e
theorem di_range2 {a b : Expr} {ms : Mr (List RV)} {p : Pos} (hm : X.mg "range" = none) (ha : DA X pa [a, b] ms) (hg : Gl X "range" := by rfl) (hs : starEach [a, b] X.env = [(false, eval a X.env), (false, eval b X.env)] := by rfl) (hs2 : starEach [b] X.env = [(false, eval b X.env)] := by rfl) :
    DI X pa tg (.Call (.Name "range" p) [a, b] [] pos) (mRange2 ms) :=
  DI.of (pi_range2 hg hm ha hs hs2) fun {B F H σ ρ items ρ' R} Rp e p => by
    unfold mRange2 at e
    split at e
    · rename_i x y ρ1 h1
      split at e
      · rename_i hn
        cases e
        refine mArgs_run Rp h1 fun F1 H1 vs E1 R1 hv => ?_
        obtain ⟨v, r, rfl, hv1, hr⟩ := hv.cons_inv
        obtain ⟨v2, r2, rfl, hv2, hr2⟩ := hr.cons_inv
        cases hr2
        cases hv1
        cases hv2
        obtain ⟨b1, b2⟩ := inRange_ok hn.1
        obtain ⟨b3, b4⟩ := inRange_ok hn.2
        exact ⟨x, y, rfl, ⟨b1, b2, b3, b4⟩, p F1 H1 _ E1 R1 fun B' lB => drives_range x (y - x).toNat⟩
      · cases e
    · cases e
/-! ### for -/
def mFor (b : Bd PD) (body : Ms) : List PD → Ms
  | [] => fun ρ => some (.nx, ρ)
  | x :: xs => fun ρ => match b x ρ with
    | some ρ1 => (match body ρ1 with
      | some (.nx, ρ2) => mFor b body xs ρ2
      | some (.ct, ρ2) => mFor b body xs ρ2
      | some (.bk, ρ2) => some (.nx, ρ2)
      | some (.rt r, ρ2) => some (.rt r, ρ2)
      | none => none)
    | none => none
def mForS (mi : Mr (List PD)) (b : Bd PD) (body : Ms) : Ms := fun ρ => match mi ρ with
  | some (items, ρ1) => mFor b body items ρ1
  | none => none
theorem ds_for {iter : Expr} {body : List Stmt} {mi : Mr (List PD)} {is : List Nat} {b : Bd PD} {mb : Ms} (hp : PassesOwn (model X.prog X.w) X.A X.env X.xe) (hc : X.calm = true) (hi : DI X pa tg iter mi) (hg : DG X pa tg is b) (hb : DSs X pa body mb)
    (hs : ∀ x, foldedSetIterable iter X.env x = pure x := by intro _; rfl) : DS X pa (.For tg iter body [] pos) (mForS mi b mb) := DS.of (ps_for hp hc hi hg hb hs) fun {B F H σ ρ fl ρ' D} R e p => by
  unfold mForS at e
  split at e
  · rename_i items ρ1 h1
    refine ⟨B, F, ρ, items, ρ1, R, h1, fun F0 H0 J E0 R0 dr => ?_⟩
    have dr := dr B (Le.refl _)
    refine ⟨fun i m σ H => m = items.length - i ∧ i ≤ items.length ∧ ∃ G ρi, Ext B F0 G ∧ Rep X.K B G pa H σ ρi ∧ mFor b mb (items.drop i) ρi = some (fl, ρ'), ⟨_, rfl, Nat.zero_le _, F0, ρ1, Ext.refl _ _, R0, e⟩, ?_⟩
    rintro i m σ1 H1 ⟨rfl, hi, G, ρi, EG, RG, eq⟩
    by_cases hlt : i < items.length
    · have hd : items[i]? = some items[i] := by simp [hlt]
      obtain ⟨hgo, hy⟩ := dr.go i G H1 σ1 ρi items[i] hd EG RG
      refine .inr ⟨hgo, fun σ' H' => ∃ G' ρi', Ext B F0 G' ∧ Rep X.K B G' pa H' σ' ρi' ∧ mFor b mb (items.drop (i + 1)) ρi' = some (fl, ρ'), fun σ' H' q => ⟨items.length - (i + 1), by omega, rfl, hlt, q⟩, fun x H' yy => ?_⟩
      obtain ⟨G1, E1, R1, hx⟩ := hy x H' yy
      rw [List.drop_eq_getElem_cons hlt] at eq
      unfold mFor at eq
      split at eq
      · rename_i ρ2 e2
        refine ⟨B, G1, ρi, _, ρ2, R1, hx, e2, fun G2 H2 σ2 E2 R2 _ => ?_⟩
        have E02 : Ext B F0 G2 := EG.trans (E1.trans E2)
        have run : ∀ {fl1 : Fl} {ρ3 : Ev} {D' : Ends}, mb ρ2 = some (fl1, ρ3) → SPost X.K B G2 pa fl1 ρ3 D' → tMS X.K pa mb D' σ2 H2 := fun {fl1 ρ3 D'} h q => ⟨B, G2, ρ2, fl1, ρ3, R2, h, q⟩
        split at eq
        · rename_i ρ3 e3
          exact run e3 fun G3 H3 σ3 E3 R3 => ⟨G3, ρ3, E02.trans E3, R3, eq⟩
        · rename_i ρ3 e3
          exact run e3 fun G3 H3 σ3 E3 R3 => ⟨G3, ρ3, E02.trans E3, R3, eq⟩
        · rename_i ρ3 e3
          cases eq
          exact run e3 fun G3 H3 σ3 E3 R3 => p G3 H3 σ3 (E0.trans (E02.trans E3)) R3
        · rename_i r ρ3 e3
          cases eq
          exact run e3 fun G3 H3 σ3 E3 R3 v P3 => p G3 H3 σ3 (E0.trans (E02.trans E3)) R3 v P3
        · cases eq
      · cases eq
    · have ei : i = items.length := by omega
      subst ei
      rw [List.drop_length] at eq
      cases eq
      exact .inl ⟨dr.stop G H1 σ1 _ EG RG, p G H1 σ1 (E0.trans EG) RG⟩
  · cases e
/-! ### while: at most n turns -/
end
/-! ### list comprehensions -/
def wipeE (ρ : Ev) : List Nat → Ev
  | [] => ρ
  | v :: vs => (wipeE ρ vs).set v none
/-- the slots vs hold again what data they held -/
def backE (ρ0 : Ev) (ρ : Ev) : List Nat → Ev
  | [] => ρ
  | v :: vs => (backE ρ0 ρ vs).set v (match ρ0[v]? with
    | some (some (Val.dat d)) => some (Val.dat d)
    | _ => none)
section
variable {K : Frag} {B F H : Hp} {pa : Nat → Addr} {σ : St} {ρ : Ev}
theorem get_wipe : ∀ {vs : List Nat} {i : Nat} {x : Val}, (wipeE ρ vs)[i]? = some (some x) → ρ[i]? = some (some x) ∧ i ∉ vs
  | [], _, _, h => ⟨h, by simp⟩
  | v :: vs, i, x, h => by
    rcases get_set (show ((wipeE ρ vs).set v none)[i]? = some (some x) from h) with ⟨_, z, _⟩ | ⟨ne, h'⟩
    · cases z
    · obtain ⟨h1, h2⟩ := get_wipe h'
      exact ⟨h1, by simp [h2, ne.symm]⟩
theorem wipeE_len : ∀ vs : List Nat, (wipeE ρ vs).length = ρ.length
  | [] => rfl
  | v :: vs => by show ((wipeE ρ vs).set v none).length = _; rw [List.length_set, wipeE_len vs]
theorem wipe_off {i : Nat} : ∀ {vs : List Nat}, i ∉ vs → (wipe σ vs)[i]? = σ[i]? := wipe_out
theorem Rep.wipe (R : Rep K B F pa H σ ρ) (vs : List Nat) : Rep K B F pa H (L2.wipe σ vs) (wipeE ρ vs) := by
  refine ⟨R.fh, R.bh, R.tb, by rw [wipeE_len, wipe_length]; exact R.len, fun i d h => ?_, fun i x ds h m => ?_, fun i ds h => ?_, fun i ds h => ?_, fun i j x y ds es a h1 h2 m1 m2 g1 g2 => ?_⟩
  · obtain ⟨q, n⟩ := get_wipe h; rw [wipe_off n]; exact R.dat i d q
  · obtain ⟨q, n⟩ := get_wipe h; rw [wipe_off n]; exact R.mu i x ds q m
  · obtain ⟨q, n⟩ := get_wipe h; rw [wipe_off n]; exact R.pin i ds q
  · obtain ⟨q, n⟩ := get_wipe h; rw [wipe_off n]; exact R.scr i ds q
  · obtain ⟨q1, n1⟩ := get_wipe h1
    obtain ⟨q2, n2⟩ := get_wipe h2
    rw [wipe_off n1] at g1
    rw [wipe_off n2] at g2
    exact R.inj i j x y ds es a q1 q2 m1 m2 g1 g2
theorem get_back {ρ0 : Ev} : ∀ {vs : List Nat} {i : Nat} {x : Val}, (backE ρ0 ρ vs)[i]? = some (some x) → (i ∉ vs ∧ ρ[i]? = some (some x)) ∨ (i ∈ vs ∧ (∃ d, x = .dat d) ∧ ρ0[i]? = some (some x))
  | [], _, _, h => .inl ⟨by simp, h⟩
  | v :: vs, i, x, h => by
    rcases get_set (show ((backE ρ0 ρ vs).set v _)[i]? = some (some x) from h) with ⟨rfl, z, _⟩ | ⟨ne, h'⟩
    · split at z
      · rename_i d q
        cases z
        exact .inr ⟨by simp, ⟨d, rfl⟩, q⟩
      · cases z
    · rcases get_back h' with ⟨n, q⟩ | ⟨n, q⟩
      · exact .inl ⟨by simp [n, ne.symm], q⟩
      · exact .inr ⟨by simp [n], q⟩
theorem backE_len {ρ0 : Ev} : ∀ vs : List Nat, (backE ρ0 ρ vs).length = ρ.length
  | [] => rfl
  | v :: vs => by show ((backE ρ0 ρ vs).set v _).length = _; rw [List.length_set, backE_len vs]
theorem Rep.back {F' H' : Hp} {ρ0 : Ev} {vs : List Nat} (R0 : Rep K B F pa H σ ρ0) (E : Ext B F F') (R : Rep K B F' pa H' (L2.wipe σ vs) ρ) : Rep K B F' pa H' σ (backE ρ0 ρ vs) := by
  refine ⟨R.fh, R.bh, R.tb, by rw [backE_len, R.len, wipe_length], fun i d h => ?_, fun i x ds h m => ?_, fun i ds h => ?_, fun i ds h => ?_, fun i j x y ds es a h1 h2 m1 m2 g1 g2 => ?_⟩
  · rcases get_back h with ⟨n, q⟩ | ⟨n, _, q⟩
    · have := R.dat i d q
      rw [wipe_off n] at this; exact this
    · obtain ⟨v, k1, k2⟩ := R0.dat i d q
      exact ⟨v, k1, k2.le E.le⟩
  · rcases get_back h with ⟨n, q⟩ | ⟨n, ⟨d, rfl⟩, q⟩
    · have := R.mu i x ds q m
      rw [wipe_off n] at this; exact this
    · cases m
  · rcases get_back h with ⟨n, q⟩ | ⟨n, ⟨d, z⟩, q⟩
    · have := R.pin i ds q
      rw [wipe_off n] at this; exact this
    · cases z
  · rcases get_back h with ⟨n, q⟩ | ⟨n, ⟨d, z⟩, q⟩
    · have := R.scr i ds q
      rw [wipe_off n] at this; exact this
    · cases z
  · rcases get_back h1 with ⟨n1, q1⟩ | ⟨_, ⟨d, rfl⟩, _⟩
    · rcases get_back h2 with ⟨n2, q2⟩ | ⟨_, ⟨d, rfl⟩, _⟩
      · exact R.inj i j x y ds es a q1 q2 m1 m2 (by rw [wipe_off n1]; exact g1) (by rw [wipe_off n2]; exact g2)
      · cases m2
    · cases m1
/-- a new list is protected while something else runs -/
theorem Rep.guard (R : Rep K B F pa H σ ρ) {a : Addr} {us : List V} (g1 : H a = some (.lst us)) (g5 : ∀ (i : Nat) (x : Val) es, ρ[i]? = some (some x) → x.mut = some es → σ[i]? ≠ some (some (.ref a))) : Rep K (upd B a (.lst us)) F pa H σ ρ := by
  refine ⟨R.fh, fun b o z => ?_, R.tb, R.len, R.dat, fun i x fs e1 e2 => ?_, R.pin, R.scr, R.inj⟩
  · by_cases w : b = a
    · subst w; rw [upd_same] at z; cases z; exact .of g1
    · rw [upd_ne w] at z; exact R.bh b o z
  · obtain ⟨b, ws, k1, k2, k3, k4, k5⟩ := R.mu i x fs e1 e2
    refine ⟨b, ws, k1, k2, k3, ?_, k5⟩
    rw [upd_ne]
    · exact k4
    · rintro rfl; exact g5 i x fs e1 e2 k1
theorem Rep.unguard {F0 : Hp} {a : Addr} {us : List V} {ds : List PD} (nB : B a = none) (nF : F0 a = none) (hd : HasL K F0 us ds) (E : Ext (upd B a (.lst us)) F0 F) (R : Rep K (upd B a (.lst us)) F pa H σ ρ) :
    Ext B F0 F ∧ Rep K B F pa H σ ρ ∧ RepR K B F H σ ρ (.own ds) (.ref a) := by
  have lB : Le B (upd B a (.lst us)) := Le.upd nB
  have R' : Rep K B F pa H σ ρ := ⟨R.fh, lB.trans R.bh, R.tb, R.len, R.dat, fun i x fs e1 e2 => by
    obtain ⟨b, ws, k1, k2, k3, k4, k5⟩ := R.mu i x fs e1 e2
    exact ⟨b, ws, k1, k2, k3, lB.none k4, k5⟩, R.pin, R.scr, R.inj⟩
  have nF' : F a = none := by
    cases z : F a with
    | none => rfl
    | some o =>
      have w := E.new a nF (by rw [z]; simp)
      rw [upd_same] at w; cases w
  refine ⟨⟨E.le, fun b n z => lB.none (E.new b n z)⟩, R', a, us, rfl, R.bh a _ upd_same, nF', nB, hd.le E.le, fun i x fs e1 e2 z => ?_⟩
  obtain ⟨b, ws, k1, k2, k3, k4, k5⟩ := R.mu i x fs e1 e2
  rw [z] at k1
  cases k1
  rw [upd_same] at k4; cases k4
end
theorem wipe_same {σ σ2 : St} {is vs : List Nat} (O : Off is (L2.wipe σ vs) σ2) (h : ∀ i ∈ is, i ∈ vs) : L2.wipe σ2 vs = L2.wipe σ vs := by
  apply List.ext_getElem?
  intro i
  have hl : (L2.wipe σ2 vs).length = (L2.wipe σ vs).length := by rw [wipe_length, wipe_length, O.1, wipe_length]
  by_cases hi : i ∈ vs
  · have w : ∀ (τ : St) (vs : List Nat), i ∈ vs → (L2.wipe τ vs)[i]? = if i < τ.length then some none else none := by
      intro τ vs
      induction vs with
      | nil => intro h; simp at h
      | cons v vs ih =>
        intro hm
        show ((L2.wipe τ vs).set v none)[i]? = _
        by_cases e : v = i
        · subst e
          by_cases hl : v < τ.length
          · rw [List.getElem?_set_self (by rw [wipe_length]; exact hl), if_pos hl]
          · rw [List.getElem?_eq_none (by rw [List.length_set, wipe_length]; omega), if_neg hl]
        · rw [List.getElem?_set_ne e]
          exact ih ((List.mem_cons.mp hm).resolve_left fun z => e z.symm)
    have ln : σ2.length = σ.length := by
      have l2 := hl
      rw [wipe_length, wipe_length] at l2
      exact l2
    rw [w σ2 vs hi, w σ vs hi, ln]
  · rw [wipe_off hi, O.2 i fun q => hi (h i q)]
section
variable {X : Cx} {pa : Nat → Addr} {tg : Expr} {pos : Pos}
def DTs (X : Cx) (pa : Nat → Addr) (ifs : List Expr) (m : Mr Bool) : Prop := PTs X ifs (tMT X.K pa m)
def mYes : Mr Bool := fun ρ => some (true, ρ)
theorem dts_nil : DTs X pa [] mYes := ⟨fun pins s σ H Q I ⟨B, F, ρ, b, ρ', R, e, p⟩ => pts_nil.run pins s σ H Q I (by cases e; exact p F H (Ext.refl _ _) R)⟩
theorem dts_one {c : Expr} {m : Mr Bool} (h : DT X pa c m) : DTs X pa [c] m := pts_one h
def mLc (vs : List Nat) (b : Bd PD) (mc : Mr Bool) (me : Mr RV) : List PD → Ev → Option (List PD × Ev)
  | [], ρ => some ([], ρ)
  | x :: xs, ρ => match b x ρ with
    | some ρ1 => (match mc ρ1 with
      | some (true, ρ2) => (match me ρ2 with
        | some (r, ρ3) => (match toDat r ρ3 with
          | some (d, ρ4) => (match mLc vs b mc me xs (wipeE ρ4 vs) with
            | some (ds, ρ5) => some (d :: ds, ρ5)
            | none => none)
          | none => none)
        | none => none)
      | some (false, ρ2) => mLc vs b mc me xs (wipeE ρ2 vs)
      | none => none)
    | none => none
def mComp (vs : List Nat) (mi : Mr (List PD)) (b : Bd PD) (mc : Mr Bool) (me : Mr RV) : Mr RV := fun ρ => match mi ρ with
  | some (items, ρ1) => if items.length ≤ 1000000 then (match mLc vs b mc me items (wipeE ρ1 vs) with
    | some (ds, ρ2) => some (.own ds, backE ρ1 ρ2 vs)
    | none => none) else none
  | none => none
/-- the reading of a comprehension, whatever is done with the list -/
theorem tLc_run {K : Frag} {mi : Mr (List PD)} {is vs : List Nat} {b : Bd PD} {mc : Mr Bool} {me : Mr RV} (hsub : ∀ i ∈ is, i ∈ vs) {B F H : Hp} {σ : St} {ρ ρ' : Ev} {r : RV} {Q : VK} (R : Rep K B F pa H σ ρ) (e : mComp vs mi b mc me ρ = some (r, ρ')) (p : EPost K B F pa σ r ρ' Q) :
    tLc (tMI K pa mi) (tMG K pa is b) (tMT K pa mc) (tM K pa me) vs σ H Q := by
  unfold mComp at e
  split at e
  · rename_i items ρ1 h1
    split at e
    · rename_i hsz
      split at e
      · rename_i total ρ2 h2
        cases e
        refine ⟨B, F, ρ, items, ρ1, R, h1, fun F0 H0 J E0 R0 dr0 D hD => ?_⟩
        have W0 := R0.wipe vs
        refine ⟨fun i m H => m = items.length - i ∧ i ≤ items.length ∧ ∃ G ρi acc rest, Ext B F0 G ∧ Rep K B G pa H (L2.wipe σ vs) ρi ∧ RepR K B G H (L2.wipe σ vs) ρi (.own acc) (.ref D) ∧ acc.length ≤ i ∧ mLc vs b mc me (items.drop i) ρi = some (rest, ρ2) ∧ acc ++ rest = total,
          ⟨_, rfl, Nat.zero_le _, F0, _, [], total, Ext.refl _ _, W0.alloc hD, W0.newOwn hD .nil, Nat.zero_le _, h2, rfl⟩, ?_⟩
        rintro i m H1 ⟨rfl, hi, G, ρi, acc, rest, EG, RG, PG, hacc, eq, htot⟩
        obtain ⟨D', accV, eD, d1, d2, d3, d4, d5⟩ := PG
        cases eD
        by_cases hlt : i < items.length
        · -- the list so far is protected in this turn
          have RG' := RG.guard d1 d5
          have lB : Le B (upd B D (.lst accV)) := Le.upd d3
          have dr := dr0 _ lB
          have EG' : Ext (upd B D (.lst accV)) F0 G := ⟨EG.le, fun c n z => by
            by_cases w : c = D
            · rw [w, d2] at z; exact absurd rfl z
            · rw [upd_ne w]; exact EG.new c n z⟩
          have hd : items[i]? = some items[i] := by simp [hlt]
          obtain ⟨hgo, hy⟩ := dr.go i G H1 _ ρi items[i] hd EG' RG'
          refine .inr ⟨hgo, fun H' => ∃ G' ρi' acc' rest', Ext B F0 G' ∧ Rep K B G' pa H' (L2.wipe σ vs) ρi' ∧ RepR K B G' H' (L2.wipe σ vs) ρi' (.own acc') (.ref D) ∧ acc'.length ≤ i + 1 ∧ mLc vs b mc me (items.drop (i + 1)) ρi' = some (rest', ρ2) ∧ acc' ++ rest' = total, fun H' q => ⟨items.length - (i + 1), by omega, rfl, hlt, q⟩, fun x H' yy => ?_⟩
          obtain ⟨G1, E1, R1, hx⟩ := hy x H' yy
          rw [List.drop_eq_getElem_cons hlt] at eq
          unfold mLc at eq
          split at eq
          · rename_i ρa ha
            refine ⟨_, G1, ρi, _, ρa, R1, hx, ha, fun G2 H2 σ2 E2 R2 O2 => ⟨wipe_same O2 hsub, ?_⟩⟩
            have wp : ∀ {G3 H3 : Hp} {ρ3 : Ev}, Rep K (upd B D (.lst accV)) G3 pa H3 σ2 ρ3 → Rep K (upd B D (.lst accV)) G3 pa H3 (L2.wipe σ vs) (wipeE ρ3 vs) := fun {G3 H3 ρ3} R3 => by
              have := R3.wipe vs
              rw [wipe_same O2 hsub] at this; exact this
            split at eq
            · rename_i ρb hb
              refine ⟨_, G2, ρa, true, ρb, R2, hb, fun G3 H3 E3 R3 => ifT ?_⟩
              split at eq
              · rename_i r2 ρc hc
                split at eq
                · rename_i d ρd hdat
                  split at eq
                  · rename_i ds ρe hrest
                    cases eq
                    refine ⟨_, G3, ρb, r2, ρc, R3, hc, fun G4 H4 v E4 R4 P4 => ?_⟩
                    obtain ⟨G5, E5, R5, hv⟩ := toDat_rep R4 P4 hdat
                    obtain ⟨EE, R6, P6⟩ := Rep.unguard d3 d2 d4 (E1.trans (E2.trans (E3.trans (E4.trans E5)))) (wp R5)
                    obtain ⟨D'', accV', eD', k1, k2, k3, k4, k5⟩ := P6
                    cases eD'
                    refine ⟨accV', k1, ?_, G5, wipeE ρd vs, acc ++ [d], ds, EG.trans EE, ?_, ⟨D, accV' ++ [v], rfl, upd_same, k2, k3, k4.append (.cons hv .nil), k5⟩, by rw [List.length_append]; simp; omega, hrest, by rw [← htot]; simp⟩
                    · rw [k4.length, sizeLine_eq]
                      omega
                    · refine ⟨fun c o z => ?_, fun c o z => ?_, R6.tb.write k1, R6.len, R6.dat, fun j y fs e1 e2 => ?_, R6.pin, R6.scr, R6.inj⟩
                      · rw [upd_ne (fun w => by rw [w, k2] at z; cases z)]; exact R6.fh c o z
                      · rw [upd_ne (fun w => by rw [w, k3] at z; cases z)]; exact R6.bh c o z
                      · obtain ⟨c, ws, j1, j2, j3⟩ := R6.mu j y fs e1 e2
                        refine ⟨c, ws, j1, ?_, j3⟩
                        rw [upd_ne]
                        · exact j2
                        · rintro rfl; exact k5 j y fs e1 e2 j1
                  · cases eq
                · cases eq
              · cases eq
            · rename_i ρb hb
              refine ⟨_, G2, ρa, false, ρb, R2, hb, fun G3 H3 E3 R3 => ifF ?_⟩
              obtain ⟨EE, R6, P6⟩ := Rep.unguard d3 d2 d4 (E1.trans (E2.trans E3)) (wp R3)
              exact ⟨G3, wipeE ρb vs, acc, rest, EG.trans EE, R6, P6, by omega, eq, htot⟩
            · cases eq
          · cases eq
        · have ei : i = items.length := by omega
          subst ei
          rw [List.drop_length] at eq
          cases eq
          rw [List.append_nil] at htot
          subst htot
          refine .inl ⟨(dr0 B (Le.refl _)).stop G H1 _ ρ2 EG RG, ?_⟩
          have RB : Rep K B G pa H1 σ (backE ρ1 ρ2 vs) := R0.back EG RG
          refine p G H1 _ (E0.trans EG) RB ⟨D, accV, rfl, d1, d2, d3, d4, fun j y fs e1 e2 z => ?_⟩
          rcases get_back e1 with ⟨n, q⟩ | ⟨_, ⟨d, rfl⟩, _⟩
          · exact d5 j y fs q e2 (by rw [wipe_off n]; exact z)
          · cases e2
      · cases e
    · cases e
  · cases e
theorem de_comp {elt iter : Expr} {ifs : List Expr} {scope : Scope} (own : List (Str × Nat)) {mi : Mr (List PD)} {is : List Nat} {b : Bd PD} {mc : Mr Bool} {me : Mr RV} (hc : X.calm = true) (hN : X.N.Nodup) (hi : DI X pa tg iter mi) (ok : BlkOk X.N X.env.scope scope own)
    (hg : ∀ (s : Shared) (H : Hp) (C : Addr) (cl : List (Str × Addr)) (fp : List Addr), DG (X.blk s H scope (compEnvC scope cl C X.env) fp) pa tg is b) (ht : ∀ (s : Shared) (H : Hp) (C : Addr) (cl : List (Str × Addr)) (fp : List Addr), DTs (X.blk s H scope (compEnvC scope cl C X.env) fp) pa ifs mc)
    (he : ∀ (s : Shared) (H : Hp) (C : Addr) (cl : List (Str × Addr)) (fp : List Addr), DE (X.blk s H scope (compEnvC scope cl C X.env) fp) pa elt me) (hsub : ∀ i ∈ is, i ∈ own.map (·.2) := by decide) (hs : ∀ x, foldedSetIterable iter X.env x = pure x := by intro _; rfl) :
    DE X pa (.ListComp elt [⟨tg, iter, ifs, 0⟩] scope pos) (mComp (own.map (·.2)) mi b mc me) :=
  DE.of (pe_lc (g := tMG X.K pa is b) (tt := tMT X.K pa mc) (te := tM X.K pa me) hc hN hi ok hg ht he hs) fun R e p => tLc_run hsub R e p
theorem ds_setComp (i : Nat) {y : Str} {py spos : Pos} {elt iter : Expr} {ifs : List Expr} {scope : Scope} (own : List (Str × Nat)) {mi : Mr (List PD)} {is : List Nat} {b : Bd PD} {mc : Mr Bool} {me : Mr RV} (hc : X.calm = true) (hN : X.N.Nodup) (hi : DI X pa tg iter mi) (ok : BlkOk X.N X.env.scope scope own)
    (hg : ∀ (s : Shared) (H : Hp) (C : Addr) (cl : List (Str × Addr)) (fp : List Addr), DG (X.blk s H scope (compEnvC scope cl C X.env) fp) pa tg is b) (ht : ∀ (s : Shared) (H : Hp) (C : Addr) (cl : List (Str × Addr)) (fp : List Addr), DTs (X.blk s H scope (compEnvC scope cl C X.env) fp) pa ifs mc)
    (he : ∀ (s : Shared) (H : Hp) (C : Addr) (cl : List (Str × Addr)) (fp : List Addr), DE (X.blk s H scope (compEnvC scope cl C X.env) fp) pa elt me) (hsub : ∀ i ∈ is, i ∈ own.map (·.2) := by decide) (hs : ∀ x, foldedSetIterable iter X.env x = pure x := by intro _; rfl)
    (hy : X.N[i]? = some y := by rfl) (hyl : X.env.scope.names.lookup y = some .local := by rfl)
    (hsw : swapsWith (.ListComp elt [⟨tg, iter, ifs, 0⟩] scope pos) (some (.Name y py)) spos.line X.env = pure true := by exact sw_true rfl rfl rfl (by decide +kernel)) :
    DS X pa (.Assign [.Name y py] (.ListComp elt [⟨tg, iter, ifs, 0⟩] scope pos) spos) (mSet i (mComp (own.map (·.2)) mi b mc me)) :=
  DS.of (ps_setLc (g := tMG X.K pa is b) (tt := tMT X.K pa mc) (te := tM X.K pa me) hc hN hy hyl hsw hi ok hg ht he hs) fun {B F H σ ρ fl ρ' D} R e p => by
    unfold mSet at e
    split at e
    · rename_i r ρ1 h1
      split at e
      · rename_i ρ2 h2
        cases e
        refine tLc_run hsub R h1 fun F1 H1 v E1 R1 P1 => ?_
        obtain ⟨F2, E2, R2⟩ := put_rep R1 P1 h2
        exact p F2 H1 _ (E1.trans E2) R2
      · cases e
    · cases e
end
end DL
/-! DlH: operators, comparisons, subscripts, built-in functions, by data. -/
namespace DL
open PySem PySem.Spec PyProof.Rows L2
section
variable {X : Cx} {pa : Nat → Addr} {pos : Pos}
theorem Top.int {K : Frag} {F H : Hp} {i : Int} {v : V} (h : Top K F H (.int i) v) : v = .int i := by
  cases (show Has K F v (.int i) from h); rfl
theorem Top.bool {K : Frag} {F H : Hp} {i : Bool} {v : V} (h : Top K F H (.bool i) v) : v = .bl i := by
  cases (show Has K F v (.bool i) from h); rfl
theorem Top.str {K : Frag} {F H : Hp} {i : Str} {v : V} (h : Top K F H (.str i) v) : v = .str i := by
  cases (show Has K F v (.str i) from h); rfl
theorem Top.tup {K : Frag} {F H : Hp} {ds : List PD} {v : V} (l : Le F H) (h : Top K F H (.tuple ds) v) : ∃ a vs, v = .ref a ∧ SqT K F a vs ∧ SqT K H a vs ∧ HasL K F vs ds := by
  cases (show Has K F v (.tuple ds) from h) with
  | tup hs ht => exact ⟨_, _, rfl, hs, SqT.le l hs, ht⟩
theorem Top.lst {K : Frag} {F H : Hp} {ds : List PD} {v : V} (h : Top K F H (.list ds) v) : ∃ a vs, v = .ref a ∧ H a = some (.lst vs) ∧ HasL K F vs ds := h
/-- an answer that needs no heap -/
theorem fin {K : Frag} {B F H : Hp} {σ : St} {ρ : Ev} {d : PD} {v : V} {Q : VK} (R : Rep K B F pa H σ ρ) (q : EPost K B F pa σ (.dat d) ρ Q) (h : Has K F v d) : Q v H := q F H v (Ext.refl _ _) R h
/-- a new tuple, a new list -/
theorem finT {K : Frag} {B F H : Hp} {σ : St} {ρ : Ev} {ds : List PD} {vs : List V} {Q : VK} {p : Addr} (R : Rep K B F pa H σ ρ) (q : EPost K B F pa σ (.dat (.tuple ds)) ρ Q) (h : HasL K F vs ds) (n : H p = none) : Q (.ref p) (upd H p (.tup vs)) :=
  q _ _ _ (R.newExt (o := .tup vs) n) (R.new n) (.tup (SqT.of upd_same) (h.le (Le.upd (R.fh.none n))))
theorem finL {K : Frag} {B F H : Hp} {σ : St} {ρ : Ev} {ds : List PD} {vs : List V} {Q : VK} {p : Addr} (R : Rep K B F pa H σ ρ) (q : EPost K B F pa σ (.own ds) ρ Q) (h : HasL K F vs ds) (n : H p = none) : Q (.ref p) (upd H p (.lst vs)) :=
  q F _ _ (Ext.refl _ _) (R.alloc n) (R.newOwn n h)
/-! ### arithmetic -/
def big : Nat := 1000000
theorem big_line {n : Nat} (h : n ≤ big) : n ≤ sizeLine := Nat.le_trans h (by rw [sizeLine_eq]; decide)
def addD : PD → PD → Option RV
  | .int i, .int j => some (.dat (.int (i + j)))
  | .list xs, .list ys => if xs.length + ys.length ≤ big then some (.own (xs ++ ys)) else none
  | .tuple xs, .tuple ys => if xs.length + ys.length ≤ big then some (.dat (.tuple (xs ++ ys))) else none
  | .str x, .str y => if x.length + y.length ≤ big then some (.dat (.str (x ++ y))) else none
  | _, _ => none
theorem op_addD : ∃ r, OpR X (binaryOp .Add) r ∧ Sem2 X pa r addD := by
  refine ⟨_, op_add.or (op_cat.or (op_catA.or op_add_str)), fun {B F H σ ρ x y d e out Q} R hx hy ho q => ?_⟩
  unfold addD at ho
  split at ho
  · cases ho
    exact .inl ⟨_, _, hx.int, hy.int, fin R q (.int _)⟩
  · split at ho
    · rename_i hl
      cases ho
      obtain ⟨a, vs, rfl, h1, h2⟩ := hx.lst
      obtain ⟨b, ws, rfl, g1, g2⟩ := hy.lst
      exact .inr (.inl ⟨a, b, vs, ws, rfl, rfl, h1, g1, big_line (by rw [h2.length, g2.length]; exact hl), fun p hp => finL R q (h2.append g2) hp⟩)
    · cases ho
  · split at ho
    · rename_i xs ys hl
      cases ho
      obtain ⟨a, vs, rfl, h1, h1', h2⟩ := hx.tup R.fh
      obtain ⟨b, ws, rfl, g1, g1', g2⟩ := hy.tup R.fh
      refine .inr (.inr (.inl ⟨a, b, vs, ws, rfl, rfl, h1', g1', big_line (by rw [h2.length, g2.length]; exact hl), fun z => ?_, fun _ z => ?_, fun _ _ p hp => finT R q (h2.append g2) hp⟩))
      · subst z
        cases h2
        exact fin R q (.tup g1 g2)
      · subst z
        cases g2
        refine fin R q ?_
        rw [List.append_nil]
        exact .tup h1 h2
    · cases ho
  · split at ho
    · rename_i hl
      cases ho
      exact .inr (.inr (.inr ⟨_, _, hx.str, hy.str, big_line hl, fin R q (.str _)⟩))
    · cases ho
  · cases ho
theorem de_add {a b : Expr} {ma mb : Mr RV} (ha : DE X pa a ma) (hb : DE X pa b mb) : DE X pa (.BinOp a .Add b pos) (mBin addD ma mb) := by
  obtain ⟨r, ho, hs⟩ := op_addD (X := X) (pa := pa)
  exact de_bin ho hs ha hb
def intD (g : Int → Int → Option PD) : PD → PD → Option RV
  | .int i, .int j => (match g i j with
    | some d => some (.dat d)
    | none => none)
  | _, _ => none
theorem sem_int {C : Int → Int → Prop} {gv : Int → Int → V} {g : Int → Int → Option PD} (h : ∀ i j d, g i j = some d → C i j ∧ ∀ F, Has X.K F (gv i j) d) : Sem2 X pa (rI C gv) (intD g) := fun {B F H σ ρ x y d e out Q} R hx hy ho q => by
  unfold intD at ho
  split at ho
  · rename_i i j
    split at ho
    · rename_i dd hg
      cases ho
      obtain ⟨c, hv⟩ := h i j dd hg
      exact ⟨_, _, hx.int, hy.int, c, fin R q (hv F)⟩
    · cases ho
  · cases ho
theorem sem_int0 {gv : Int → Int → V} {g : Int → Int → PD} (h : ∀ i j F, Has X.K F (gv i j) (g i j)) : Sem2 X pa (rI0 gv) (intD fun i j => some (g i j)) := fun {B F H σ ρ x y d e out Q} R hx hy ho q => by
  unfold intD at ho
  split at ho
  · rename_i i j
    cases ho
    exact ⟨_, _, hx.int, hy.int, fin R q (h i j F)⟩
  · cases ho
def subD : PD → PD → Option RV := intD fun i j => some (.int (i - j))
theorem de_sub {a b : Expr} {ma mb : Mr RV} (ha : DE X pa a ma) (hb : DE X pa b mb) : DE X pa (.BinOp a .Sub b pos) (mBin subD ma mb) := de_bin op_sub (sem_int0 fun _ _ _ => .int _) ha hb
/-- a divisor above 0, below 2 ^ 30 -/
def fdivD : PD → PD → Option RV := intD fun i j => if 0 < j ∧ j < 1073741824 then some (.int (i / j)) else none
theorem de_fdiv {a b : Expr} {ma mb : Mr RV} (ha : DE X pa a ma) (hb : DE X pa b mb) : DE X pa (.BinOp a .FloorDiv b pos) (mBin fdivD ma mb) := de_bin op_fdiv (sem_int fun i j d h => by
  split at h
  · rename_i c; cases h; exact ⟨c, fun _ => .int _⟩
  · cases h) ha hb
def modD : PD → PD → Option RV := intD fun i j => if 0 < j then some (.int (i % j)) else none
theorem de_mod {a b : Expr} {ma mb : Mr RV} (ha : DE X pa a ma) (hb : DE X pa b mb) : DE X pa (.BinOp a .Mod b pos) (mBin modD ma mb) := de_bin op_mod (sem_int fun i j d h => by
  split at h
  · rename_i c; cases h; exact ⟨c, fun _ => .int _⟩
  · cases h) ha hb
def powD : PD → PD → Option RV := intD fun i j => if 0 ≤ j ∧ j ≤ 1000 ∧ i.natAbs < 18446744073709551616 then some (.int (i ^ j.toNat)) else none
theorem de_pow {a b : Expr} {ma mb : Mr RV} (ha : DE X pa a ma) (hb : DE X pa b mb) : DE X pa (.BinOp a .Pow b pos) (mBin powD ma mb) := de_bin op_pow (sem_int fun i j d h => by
  split at h
  · rename_i c; cases h; exact ⟨⟨c.1, by have := c.2.1; omega, by have := c.2.2; omega⟩, fun _ => .int _⟩
  · cases h) ha hb
def repD (n : Nat) (ds : List PD) : List PD := (List.replicate n ds).flatten
def mulD : PD → PD → Option RV
  | .int i, .int j => if (-18446744073709551616 < i ∧ i < 18446744073709551616) ∨ (-18446744073709551616 < j ∧ j < 18446744073709551616) then some (.dat (.int (i * j))) else none
  | .list xs, .int k => if xs.length ≤ 1000 ∧ -1000 ≤ k ∧ k ≤ 1000 then some (.own (repD k.toNat xs)) else none
  | .tuple xs, .int k => if xs ≠ [] ∧ xs.length ≤ 1000 ∧ 2 ≤ k ∧ k ≤ 1000 then some (.dat (.tuple (repD k.toNat xs))) else none
  | _, _ => none
theorem op_mulD : ∃ r, OpR X (binaryOp .Mult) r ∧ Sem2 X pa r mulD := by
  refine ⟨_, op_mul.or (op_rep.or op_repT), fun {B F H σ ρ x y d e out Q} R hx hy ho q => ?_⟩
  unfold mulD at ho
  split at ho
  · split at ho
    · rename_i hc
      cases ho
      refine .inl ⟨_, _, hx.int, hy.int, ?_, fin R q (.int _)⟩
      unfold CMul
      rw [show (2 : Int) ^ 64 = 18446744073709551616 by decide]
      exact hc
    · cases ho
  · split at ho
    · rename_i xs k hc
      cases ho
      obtain ⟨a, vs, rfl, h1, h2⟩ := hx.lst
      have hl := h2.length
      refine .inr (.inl ⟨a, _, vs, rfl, hy.int, h1, by omega, by omega, ?_, fun p hp => finL R q (h2.rep _) hp⟩)
      have : vs.length * k.toNat ≤ 1000 * 1000 := Nat.mul_le_mul (by omega) (by omega)
      exact big_line this
    · cases ho
  · split at ho
    · rename_i xs k hc
      cases ho
      obtain ⟨a, vs, rfl, h1, h1', h2⟩ := hx.tup R.fh
      have hl := h2.length
      refine .inr (.inr ⟨a, _, vs, rfl, hy.int, h1', fun z => hc.1 ?_, hc.2.2.1, hc.2.2.2, by omega, fun p hp => finT R q (h2.rep _) hp⟩)
      subst z
      cases h2
      rfl
    · cases ho
  · cases ho
def mUn (f : PD → Option RV) (m : Mr RV) : Mr RV := fun ρ => match m ρ with
  | some (r, ρ1) => (match res r ρ1 with
    | some d => (match f d with
      | some o => some (o, ρ1)
      | none => none)
    | none => none)
  | none => none
theorem mUn_run {f : PD → Option RV} {m : Mr RV} {R1 : V → Hp → VK → Prop} (sem : Sem1 X pa R1 f) {B F H : Hp} {σ : St} {ρ ρ' : Ev} {out : RV} {Q : VK} (R : Rep X.K B F pa H σ ρ) (e : mUn f m ρ = some (out, ρ')) (p : EPost X.K B F pa σ out ρ' Q) : tM X.K pa m σ H fun x H1 => R1 x H1 Q := by
  unfold mUn at e
  split at e
  · rename_i r ρ1 h1
    split at e
    · rename_i d h2
      split at e
      · rename_i o h3
        cases e
        refine tM_use R h1 fun F1 H1 v E1 R1 P1 => ?_
        exact sem R1 (res_top R1 P1 (by rw [res_hold]; exact h2)) h3 (p.ext E1)
      · cases e
    · cases e
  · cases e
def negD : PD → Option RV
  | .int i => some (.dat (.int (-i)))
  | _ => none
theorem de_neg {a : Expr} {m : Mr RV} (ha : DE X pa a m) : DE X pa (.UnaryOp .USub a pos) (mUn negD m) := DE.of (pe_un un_neg ha) fun R e p => mUn_run (fun {B F H σ ρ x d out Q} R hx ho q => by
  unfold negD at ho
  split at ho
  · cases ho; exact ⟨_, hx.int, fin R q (.int _)⟩
  · cases ho) R e p
/-! ### comparisons -/
def cmpD (g : Int → Int → Bool) : PD → PD → Option RV := intD fun i j => some (.bool (g i j))
theorem sem_cmp (g : Int → Int → Bool) : Sem2 X pa (rI0 fun i j => .bl (g i j)) (cmpD g) := sem_int0 fun _ _ _ => .bl _
def ltD : PD → PD → Option RV := cmpD fun i j => decide (i < j)
def leD : PD → PD → Option RV := cmpD fun i j => decide (i ≤ j)
def gtD : PD → PD → Option RV := cmpD fun i j => decide (j < i)
def geD : PD → PD → Option RV := cmpD fun i j => decide (j ≤ i)
theorem sem_lt : Sem2 X pa (rI0 fun i j => .bl (decide (i < j))) ltD := sem_cmp _
theorem sem_le : Sem2 X pa (rI0 fun i j => .bl (decide (i ≤ j))) leD := sem_cmp _
theorem sem_gt : Sem2 X pa (rI0 fun i j => .bl (decide (j < i))) gtD := sem_cmp _
theorem Top.reads {pins : List (Addr × Obj)} {σ : St} {H F : Hp} {s : Shared} (I : Inv X pins σ H s) (l : Le F H) {d : PD} {v : V} {u : Value} (h : Top X.K F H d v) (r : RelV v u) : ∃ as, Reads s.heap u d as := by
  cases d with
  | list ds =>
    obtain ⟨a, vs, rfl, h1, h2⟩ := h
    cases r
    obtain ⟨its, rv, ⟨o, n, ho, hc, _, hd⟩, _⟩ := I.list (SqL.of h1)
    obtain ⟨as, hr⟩ := HasL.reads I l ds _ its h2 rv
    exact ⟨_, Reads.list ho hc hd hr⟩
  | _ => exact Has.reads I l _ v u h r
def rEqT (K : Frag) (f : PD → PD → Bool) : R2 := fun x y H Q => ∃ F d e, Le F H ∧ Top K F H d x ∧ Top K F H e y ∧ SeqAt.shaped d = true ∧ SeqAt.shaped e = true ∧ Q (.bl (f d e)) H
theorem op_eqT (hu : X.A.units + 64 < cLine) : OpR X (compareOp .Eq) (rEqT X.K PyData.eqv) := by
  intro pins s σ H x y v u Q I rx ry h
  obtain ⟨F, d, e, l, hd, he, sd, se, q⟩ := h
  obtain ⟨as, r1⟩ := Top.reads I l hd rx
  obtain ⟨bs, r2⟩ := Top.reads I l he ry
  exact SeqAt.compareEq_shaped r1 r2 sd se hu ⟨.bl _, H, I, rfl, q⟩
theorem op_neT (hu : X.A.units + 64 < cLine) : OpR X (compareOp .NotEq) (rEqT X.K fun d e => !PyData.eqv d e) := by
  intro pins s σ H x y v u Q I rx ry h
  obtain ⟨F, d, e, l, hd, he, sd, se, q⟩ := h
  obtain ⟨as, r1⟩ := Top.reads I l hd rx
  obtain ⟨bs, r2⟩ := Top.reads I l he ry
  exact SeqAt.compareNe_shaped r1 r2 sd se hu ⟨.bl _, H, I, rfl, q⟩
def strD : PD → Bool
  | .str _ => true
  | _ => false
/-- two lists of unlike length -/
def nlD : PD → PD → Bool
  | .list xs, .list ys => !decide (xs.length = ys.length)
  | _, _ => false
theorem nlD_inv {d e : PD} (h : nlD d e = true) : ∃ xs ys, d = .list xs ∧ e = .list ys ∧ xs.length ≠ ys.length := by
  unfold nlD at h
  split at h
  · exact ⟨_, _, rfl, rfl, by simpa using h⟩
  · cases h
theorem eqv_nl {xs ys : List PD} (h : xs.length ≠ ys.length) : PyData.eqv (.list xs) (.list ys) = false := by
  simp only [PyData.eqv]
  exact SeqAt.eqvAll_other_length h
def rEqN (b : Bool) : R2 := fun x y H Q => ∃ a c vs ws, x = .ref a ∧ y = .ref c ∧ H a = some (.lst vs) ∧ H c = some (.lst ws) ∧ vs.length ≠ ws.length ∧ Q (.bl b) H
theorem op_eqN (hu : X.A.units + 64 < cLine) : OpR X (compareOp .Eq) (rEqN false) := by
  intro pins s σ H x y v u Q I rx ry h
  obtain ⟨a, c, vs, ws, rfl, rfl, ha, hc, hl, q⟩ := h
  cases rx
  cases ry
  obtain ⟨its, rv, p1, _⟩ := I.list (SqL.of ha)
  obtain ⟨its2, rv2, p2, _⟩ := I.list (SqL.of hc)
  have e1 := rv.length
  have e2 := rv2.length
  exact SeqAt.eq_list_lengthsAt p1.isList p2.isList (by simp; omega) (by omega) ⟨.bl false, H, I, rfl, q⟩
theorem op_neN (hu : X.A.units + 64 < cLine) : OpR X (compareOp .NotEq) (rEqN true) := by
  intro pins s σ H x y v u Q I rx ry h
  obtain ⟨a, c, vs, ws, rfl, rfl, ha, hc, hl, q⟩ := h
  cases rx
  cases ry
  obtain ⟨its, rv, p1, _⟩ := I.list (SqL.of ha)
  obtain ⟨its2, rv2, p2, _⟩ := I.list (SqL.of hc)
  have e1 := rv.length
  have e2 := rv2.length
  exact SeqAt.RcNeAt.lists_lengths p1.isList p2.isList (by simp; omega) (by omega) X.prog X.w X.xe _ ⟨.bl true, H, I, rfl, q⟩
theorem topl_list {K : Frag} {F H : Hp} {ds : List PD} {v : V} (h : Top K F H (.list ds) v) : ∃ a vs, v = .ref a ∧ H a = some (.lst vs) ∧ HasL K F vs ds := h
def eqOk (d e : PD) : Bool := (SeqAt.shaped d && SeqAt.shaped e) || (strD d && strD e) || nlD d e
def eqD (f : PD → PD → Bool) : PD → PD → Option RV := fun d e => if eqOk d e = true then some (.dat (.bool (f d e))) else none
theorem strD_inv {d : PD} (h : strD d = true) : ∃ x, d = .str x := by
  cases d with
  | str x => exact ⟨x, rfl⟩
  | none => cases h
  | bool _ => cases h
  | int _ => cases h
  | list _ => cases h
  | tuple _ => cases h
  | dict _ => cases h
theorem eqOk_inv {d e : PD} (h : eqOk d e = true) : (SeqAt.shaped d = true ∧ SeqAt.shaped e = true) ∨ (strD d = true ∧ strD e = true) ∨ nlD d e = true := by
  unfold eqOk at h
  rcases Bool.or_eq_true .. ▸ h with h | h
  · rcases Bool.or_eq_true .. ▸ h with h | h
    · exact .inl (Bool.and_eq_true .. ▸ h)
    · exact .inr (.inl (Bool.and_eq_true .. ▸ h))
  · exact .inr (.inr h)
theorem op_eqU (hu : X.A.units + 64 < cLine) : ∃ r, OpR X (compareOp .Eq) r ∧ Sem2 X pa r (eqD PyData.eqv) := by
  refine ⟨_, (op_eqT hu).or (op_eq.or (op_eqN hu)), fun {B F H σ ρ x y d e out Q} R hx hy ho q => ?_⟩
  unfold eqD at ho
  split at ho
  · rename_i hs
    cases ho
    rcases eqOk_inv hs with h | ⟨s1, s2⟩ | h
    · exact .inl ⟨F, d, e, R.fh, hx, hy, h.1, h.2, fin R q (.bl _)⟩
    · obtain ⟨u, rfl⟩ := strD_inv s1
      obtain ⟨v, rfl⟩ := strD_inv s2
      rw [hx.str, hy.str]
      refine .inr (.inl ⟨rfl, fin R q ?_⟩)
      have e : decide (V.str u = V.str v) = PyData.eqv (.str u) (.str v) := dec_str
      rw [e]
      exact .bl _
    · obtain ⟨xs, ys, rfl, rfl, hl⟩ := nlD_inv h
      obtain ⟨a, vs, rfl, h1, h2⟩ := topl_list hx
      obtain ⟨c, ws, rfl, h3, h4⟩ := topl_list hy
      have e1 := h2.length
      have e2 := h4.length
      rw [eqv_nl hl] at q
      exact .inr (.inr ⟨a, c, vs, ws, rfl, rfl, h1, h3, by omega, fin R q (.bl _)⟩)
  · cases ho
theorem op_neU (hu : X.A.units + 64 < cLine) : ∃ r, OpR X (compareOp .NotEq) r ∧ Sem2 X pa r (eqD fun d e => !PyData.eqv d e) := by
  refine ⟨_, (op_neT hu).or (op_ne.or (op_neN hu)), fun {B F H σ ρ x y d e out Q} R hx hy ho q => ?_⟩
  unfold eqD at ho
  split at ho
  · rename_i hs
    cases ho
    rcases eqOk_inv hs with h | ⟨s1, s2⟩ | h
    · exact .inl ⟨F, d, e, R.fh, hx, hy, h.1, h.2, fin R q (.bl _)⟩
    · obtain ⟨u, rfl⟩ := strD_inv s1
      obtain ⟨v, rfl⟩ := strD_inv s2
      rw [hx.str, hy.str]
      refine .inr (.inl ⟨rfl, fin R q ?_⟩)
      have e : decide (V.str u = V.str v) = PyData.eqv (.str u) (.str v) := dec_str
      rw [e]
      exact .bl _
    · obtain ⟨xs, ys, rfl, rfl, hl⟩ := nlD_inv h
      obtain ⟨a, vs, rfl, h1, h2⟩ := topl_list hx
      obtain ⟨c, ws, rfl, h3, h4⟩ := topl_list hy
      have e1 := h2.length
      have e2 := h4.length
      have q2 := eqv_nl hl
      refine .inr (.inr ⟨a, c, vs, ws, rfl, rfl, h1, h3, by omega, ?_⟩)
      have q' := fin R q (v := .bl true) (by dsimp only; rw [q2]; exact .bl true)
      exact q'
  · cases ho
def equD : PD → PD → Option RV := eqD PyData.eqv
def neqD : PD → PD → Option RV := eqD fun d e => !PyData.eqv d e
section
variable {a b c : Expr} {ma mb mc : Mr RV}
theorem dt_lt (ha : DE X pa a ma) (hb : DE X pa b mb) : DT X pa (.Compare a [.Lt] [b] pos) (mTruth (mBin ltD ma mb)) := dt_cmp op_lt sem_lt (nomark _) ha hb
theorem dt_gt (ha : DE X pa a ma) (hb : DE X pa b mb) : DT X pa (.Compare a [.Gt] [b] pos) (mTruth (mBin gtD ma mb)) := dt_cmp op_gt sem_gt (nomark _) ha hb
theorem dt_eq (hu : X.A.units + 64 < cLine) (ha : DE X pa a ma) (hb : DE X pa b mb) : DT X pa (.Compare a [.Eq] [b] pos) (mTruth (mBin equD ma mb)) := let ⟨_, ho, hs⟩ := op_eqU (X := X) (pa := pa) hu; dt_cmp ho hs (nomark _) ha hb
theorem dt_ne (hu : X.A.units + 64 < cLine) (ha : DE X pa a ma) (hb : DE X pa b mb) : DT X pa (.Compare a [.NotEq] [b] pos) (mTruth (mBin neqD ma mb)) := let ⟨_, ho, hs⟩ := op_neU (X := X) (pa := pa) hu; dt_cmp ho hs (nomark _) ha hb
theorem de_le (ha : DE X pa a ma) (hb : DE X pa b mb) : DE X pa (.Compare a [.LtE] [b] pos) (mBin leD ma mb) := de_cmp op_le sem_le (nomark _) ha hb
theorem de_gt (ha : DE X pa a ma) (hb : DE X pa b mb) : DE X pa (.Compare a [.Gt] [b] pos) (mBin gtD ma mb) := de_cmp op_gt sem_gt (nomark _) ha hb
theorem de_eq (hu : X.A.units + 64 < cLine) (ha : DE X pa a ma) (hb : DE X pa b mb) : DE X pa (.Compare a [.Eq] [b] pos) (mBin equD ma mb) := let ⟨_, ho, hs⟩ := op_eqU (X := X) (pa := pa) hu; de_cmp ho hs (nomark _) ha hb
theorem de_lele (ha : DE X pa a ma) (hb : DE X pa b mb) (hc : DE X pa c mc) : DE X pa (.Compare a [.LtE, .LtE] [b, c] pos) (mChain leD leD ma mb mc) := de_chain op_le op_le sem_le sem_le ha hb hc
theorem dt_lele (ha : DE X pa a ma) (hb : DE X pa b mb) (hc : DE X pa c mc) : DT X pa (.Compare a [.LtE, .LtE] [b, c] pos) (mTruth (mChain leD leD ma mb mc)) := dt_chain op_le op_le sem_le sem_le ha hb hc
theorem de_lelt (ha : DE X pa a ma) (hb : DE X pa b mb) (hc : DE X pa c mc) : DE X pa (.Compare a [.LtE, .Lt] [b, c] pos) (mChain leD ltD ma mb mc) := de_chain op_le op_lt sem_le sem_lt ha hb hc
end
/-- is None -/
def isNoneD : PD → Bool
  | .none => true
  | _ => false
theorem Top.isN {K : Frag} {F H : Hp} {d : PD} {v : V} (h : Top K F H d v) : decide (v = .non) = isNoneD d := by
  cases d with
  | list ds => obtain ⟨a, vs, rfl, _⟩ := h; rfl
  | none => cases (show Has K F v .none from h); rfl
  | bool b => rw [h.bool]; rfl
  | int b => rw [h.int]; rfl
  | str b => rw [h.str]; rfl
  | tuple b => cases (show Has K F v (.tuple b) from h); rfl
  | dict b => cases (show Has K F v (.dict b) from h); rfl
def isN1 (f : Bool → Bool) : PD → Option RV := fun d => some (.dat (.bool (f (isNoneD d))))
theorem dt_isN {a : Expr} {m : Mr RV} {j pos'} (ha : DE X pa a m) : DT X pa (.Compare a [.Is] [.Constant .none j pos'] pos) (mTruth (mUn (isN1 id) m)) :=
  DT.of (pt_cmp (pc_isN ha)) fun {B F H σ ρ b ρ' Q} R e p => by
    refine mUn_run (Q := fun z H2 => ∃ c, z = V.bl c ∧ Q c H2) (R1 := fun x H Q => Q (.bl (decide (x = .non))) H) (fun {B F H σ ρ x d out Q} R hx ho q => ?_) R (mTruth_inv e) fun F' H' v E' R' P' => ?_
    · cases ho
      rw [hx.isN]
      exact fin R q (.bl _)
    · cases P'
      exact ⟨b, rfl, p F' H' E' R'⟩
def ixD : PD → PD → Option RV
  | .list ds, .int i => (match atI ds i with
    | some d => some (.dat d)
    | none => none)
  | .tuple ds, .int i => (match atI ds i with
    | some d => some (.dat d)
    | none => none)
  | _, _ => none
theorem atI_has {K : Frag} {F : Hp} {vs : List V} {ds : List PD} {i : Int} {d : PD} (h : HasL K F vs ds) (e : atI ds i = some d) : ∃ v, atI vs i = some v ∧ Has K F v d := by
  unfold atI at e ⊢
  rw [h.length]
  cases q : ixN ds.length i with
  | none => rw [q] at e; cases e
  | some j => rw [q] at e; exact h.get e
theorem de_ix {a b : Expr} {ma mb : Mr RV} (ha : DE X pa a ma) (hb : DE X pa b mb) (hs : PlainIx b := by exact fun _ _ => rfl) : DE X pa (.Subscript a b pos) (mBin ixD ma mb) :=
  DE.of (pe_ix ix_seq ha hb hs) fun {B F H σ ρ r ρ' Q} R e p => by
    refine tOp_bin (fun {B F H σ ρ x y d e out Q} R hx hy ho q => ?_) R e p
    unfold ixD at ho
    split at ho
    · split at ho
      · rename_i dd hd
        cases ho
        obtain ⟨a, vs, rfl, h1, h2⟩ := hx.lst
        obtain ⟨v, hv, hv2⟩ := atI_has h2 hd
        exact .inl ⟨a, vs, _, v, rfl, hy.int, SqL.of h1, hv, fin R q hv2⟩
      · cases ho
    · split at ho
      · rename_i dd hd
        cases ho
        obtain ⟨a, vs, rfl, _, h1, h2⟩ := hx.tup R.fh
        obtain ⟨v, hv, hv2⟩ := atI_has h2 hd
        exact .inr (.inl ⟨a, vs, _, v, rfl, hy.int, h1, hv, fin R q hv2⟩)
      · cases ho
    · cases ho
/-- script[e] -/
def mIxScr (i : Nat) (mb : Mr RV) : Mr RV := fun ρ => match ρ[i]? with
  | some (some (Val.scr ds)) => (match mb ρ with
    | some (RV.dat (.int k), ρ1) => (match atI ds k with
      | some d => some (.dat d, ρ1)
      | none => none)
    | _ => none)
  | _ => none
theorem de_ixScr (i : Nat) {x : Str} {px : Pos} {b : Expr} {mb : Mr RV} (hb : DE X pa b mb) (hN : X.N[i]? = some x := by rfl) (hv : Vis X.env.scope x := by first | exact Or.inl rfl | exact Or.inr (Or.inl rfl) | exact Or.inr (Or.inr rfl)) (hd : (x == ("__debug__" : Str)) = false := by decide) (hcd : (x == ("__classdict__" : Str)) = false := by decide)
    (hs : PlainIx b := by exact fun _ _ => rfl) : DE X pa (.Subscript (.Name x px) b pos) (mIxScr i mb) :=
  DE.of (pe_ix ix_list (pe_var hN hv hd hcd) hb hs) fun {B F H σ ρ r ρ' Q} R e p => by
    unfold mIxScr at e
    split at e
    · rename_i ds h0
      split at e
      · rename_i k ρ1 h1
        split at e
        · rename_i d h2
          cases e
          obtain ⟨a, vs, g1, g2, g3⟩ := R.scr i ds h0
          obtain ⟨v, hv1, hv2⟩ := atI_has g3 h2
          refine ⟨_, g1, B, F, ρ, _, ρ', R, h1, fun F1 H1 w E1 R1 P1 => ?_⟩
          cases P1
          exact ⟨a, vs, k, v, rfl, rfl, SqL.le (E1.le.trans R1.fh) g2, hv1, p F1 H1 v E1 R1 (hv2.le E1.le)⟩
        · cases e
      · cases e
    · cases e
/-- a part of a slice -/
def mPart : Option (Mr RV) → Mr (Option Int)
  | none => fun ρ => some (none, ρ)
  | some m => fun ρ => match m ρ with
    | some (RV.dat (.int i), ρ1) => some (some i, ρ1)
    | _ => none
def DO1 (X : Cx) (pa : Nat → Addr) (e : Option Expr) (m : Option (Mr RV)) : Prop := match e, m with
  | none, none => True
  | some e, some m => DE X pa e m
  | _, _ => False
def tMO1 (K : Frag) (pa : Nat → Addr) (m : Option (Mr RV)) : TO := match m with
  | none => tNoPart
  | some m => tPart (tM K pa m)
theorem po_of {e : Option Expr} {m : Option (Mr RV)} (h : DO1 X pa e m) : PO X e (tMO1 X.K pa m) := by
  cases e with
  | none => cases m with
    | none => exact po_none
    | some m => exact h.elim
  | some e => cases m with
    | none => exact h.elim
    | some m => exact po_some h
theorem tMO1_run {K : Frag} {m : Option (Mr RV)} {B F H : Hp} {σ : St} {ρ ρ' : Ev} {o : Option Int} {Q : Option Int → Hp → Prop} (R : Rep K B F pa H σ ρ) (e : mPart m ρ = some (o, ρ')) (q : ∀ F' H', Ext B F F' → Rep K B F' pa H' σ ρ' → Q o H') : tMO1 K pa m σ H Q := by
  cases m with
  | none => cases e; exact q F H (Ext.refl _ _) R
  | some m =>
    have e' : (match m ρ with
      | some (RV.dat (.int i), ρ1) => some (some i, ρ1)
      | _ => none) = some (o, ρ') := e
    split at e'
    · rename_i i ρ1 h
      cases e'
      refine ⟨B, F, ρ, _, _, R, h, fun F' H' v E' R' P' => ?_⟩
      cases P'
      exact ⟨i, rfl, q F' H' E' R'⟩
    · cases e'
def cutD (ds : List PD) (lo hi : Option Int) : List PD := (ds.drop (HT.sIx ds.length 0 lo)).take (HT.sIx ds.length ds.length hi - HT.sIx ds.length 0 lo)
def sliceD : PD → Option Int → Option Int → Option RV
  | .list ds, lo, hi => some (.own (cutD ds lo hi))
  | .tuple ds, lo, hi => some (.dat (.tuple (cutD ds lo hi)))
  | _, _, _ => none
def mSlice (m : Mr RV) (lo hi : Option (Mr RV)) : Mr RV := fun ρ => match m ρ with
  | some (r, ρ1) => (match mPart lo ρ1 with
    | some (l, ρ2) => (match mPart hi ρ2 with
      | some (h, ρ3) => (match res r ρ3 with
        | some d => (match sliceD d l h with
          | some o => some (o, ρ3)
          | none => none)
        | none => none)
      | none => none)
    | none => none)
  | none => none
theorem cut_has {K : Frag} {F : Hp} {vs : List V} {ds : List PD} (h : HasL K F vs ds) (lo hi : Option Int) : HasL K F (cutV vs lo hi) (cutD ds lo hi) := by
  unfold cutV cutD
  rw [h.length]
  exact (h.drop _).take _
theorem de_slice {e : Expr} {lo hi : Option Expr} {p2 : Pos} {m : Mr RV} {ml mh : Option (Mr RV)} (he : DE X pa e m) (hl : DO1 X pa lo ml) (hh : DO1 X pa hi mh) : DE X pa (.Subscript e (.Slice lo hi none p2) pos) (mSlice m ml mh) :=
  DE.of (pe_slice (sl_list.or sl_tupA) he (po_of hl) (po_of hh)) fun {B F H σ ρ r ρ' Q} R e p => by
    unfold mSlice at e
    split at e
    · rename_i r1 ρ1 h1
      split at e
      · rename_i l ρ2 h2
        split at e
        · rename_i h ρ3 h3
          split at e
          · rename_i d h4
            split at e
            · rename_i o h5
              cases e
              refine tM_use R h1 fun F1 H1 v E1 R1 P1 => ?_
              refine tMO1_run R1 h2 fun F2 H2 E2 R2 => ?_
              refine tMO1_run R2 h3 fun F3 H3 E3 R3 => ?_
              have q := p.ext (E1.trans (E2.trans E3))
              have P3 : RepR X.K B F3 H3 σ ρ' (holdR r1) v := P1.keep (E2.trans E3).le
              have T := res_top R3 P3 (by rw [res_hold]; exact h4)
              unfold sliceD at h5
              split at h5
              · cases h5
                obtain ⟨a, vs, rfl, g1, g2⟩ := T.lst
                exact .inl ⟨a, vs, rfl, SqL.of g1, fun p hp => finL R3 q (cut_has g2 l h) hp⟩
              · cases h5
                obtain ⟨a, vs, rfl, g0, g1, g2⟩ := T.tup R3.fh
                refine .inr ⟨a, vs, rfl, g1, fun w => fin R3 q ?_, fun w p hp => finT R3 q (cut_has g2 l h) hp⟩
                have e2 : cutV vs l h = vs := by
                  unfold cutV
                  rw [w.1, w.2]
                  simp
                have z := cut_has g2 l h
                rw [e2] at z
                exact .tup g0 z
              · cases h5
            · cases e
          · cases e
        · cases e
      · cases e
    · cases e
def revD : PD → Option RV
  | .list ds => some (.own ds.reverse)
  | _ => none
theorem de_rev {e : Expr} {k : Nat} {p1 p2 p3 : Pos} {m : Mr RV} (he : DE X pa e m) : DE X pa (.Subscript e (.Slice none none (some (.UnaryOp .USub (.Constant (.int 1) k p1) p2)) p3) pos) (mUn revD m) :=
  DE.of (pe_revL he) fun R e p => mUn_run (R1 := fun x H Q => ∃ a xs, x = .ref a ∧ SqL X.K H a xs ∧ ∀ p, H p = none → Q (.ref p) (upd H p (.lst xs.reverse))) (fun {B F H σ ρ x d out Q} R hx ho q => by
    unfold revD at ho
    split at ho
    · cases ho
      obtain ⟨a, vs, rfl, h1, h2⟩ := hx.lst
      exact ⟨a, vs, rfl, SqL.of h1, fun p hp => finL R q h2.reverse hp⟩
    · cases ho) R e p
/-! ### built-in functions -/
def mBlt (f : List PD → Option RV) (ms : Mr (List RV)) : Mr RV := fun ρ => match ms ρ with
  | some (rs, ρ1) => (match resL rs ρ1 with
    | some ds => (match f ds with
      | some o => some (o, ρ1)
      | none => none)
    | none => none)
  | none => none
theorem mBlt_run {f : List PD → Option RV} {ms : Mr (List RV)} {r : List V → Hp → VK → Prop} (sem : SemL X pa r f) {B F H : Hp} {σ : St} {ρ ρ' : Ev} {out : RV} {Q : VK} (R : Rep X.K B F pa H σ ρ) (e : mBlt f ms ρ = some (out, ρ')) (p : EPost X.K B F pa σ out ρ' Q) : tCB r (tMA X.K pa ms) σ H Q := by
  unfold mBlt at e
  split at e
  · rename_i rs ρ1 h1
    split at e
    · rename_i ds h2
      split at e
      · rename_i o h3
        cases e
        refine ⟨B, F, ρ, rs, ρ', R, h1, fun F1 H1 vs E1 R1 P1 => ?_⟩
        exact sem R1 (resL_top R1 P1 (by rw [resL_hold]; exact h2)) h3 (p.ext E1)
      · cases e
    · cases e
  · cases e
section
variable {x : Str} {p0 : Pos} {e : Expr} {es : List Expr} {id T : String} {r : List V → Hp → VK → Prop} {f : List PD → Option RV} {ms : Mr (List RV)}
theorem de_callB (hc : CallR X (.builtin id) r) (sem : SemL X pa r f) (hm : X.mg x = none) (ha : DA X pa (e :: es) ms) (hv : bootBuiltins x = some (.builtin id)) (hg : Gl X x := by rfl) (hn : x ≠ "__name__" := by decide) (hdb : (x == ("__debug__" : Str)) = false := by decide)
    (he : starEach (e :: es) X.env = (false, eval e X.env) :: starEach es X.env := by rfl) (hpl : (backTo pos (starEach es X.env)).any (·.1) = false := by rfl) : DE X pa (.Call (.Name x p0) (e :: es) [] pos) (mBlt f ms) :=
  DE.of (pe_callB hc hg hm hv ha hn hdb he hpl) fun R e p => mBlt_run sem R e p
theorem de_callTy (hc : CallR X (.type T) r) (sem : SemL X pa r f) (hm : X.mg x = none) (ha : DA X pa (e :: es) ms) (hv : bootBuiltins x = some (.type T)) (hg : Gl X x := by rfl) (hn : x ≠ "__name__" := by decide) (hdb : (x == ("__debug__" : Str)) = false := by decide)
    (he : starEach (e :: es) X.env = (false, eval e X.env) :: starEach es X.env := by rfl) (hpl : (backTo pos (starEach es X.env)).any (·.1) = false := by rfl) : DE X pa (.Call (.Name x p0) (e :: es) [] pos) (mBlt f ms) :=
  DE.of (pe_callTy hc hg hm hv ha hn hdb he hpl) fun R e p => mBlt_run sem R e p
end
theorem TopL.one {K : Frag} {F H : Hp} {d : PD} {xs : List V} (h : TopL K F H [d] xs) : ∃ v, xs = [v] ∧ Top K F H d v := by
  obtain ⟨v, ws, rfl, h1, h2⟩ := h
  exact ⟨v, by rw [show ws = [] from h2], h1⟩
theorem TopL.two {K : Frag} {F H : Hp} {d e : PD} {xs : List V} (h : TopL K F H [d, e] xs) : ∃ v w, xs = [v, w] ∧ Top K F H d v ∧ Top K F H e w := by
  obtain ⟨v, ws, rfl, h1, h2⟩ := h
  obtain ⟨w, rfl, h3⟩ := TopL.one h2
  exact ⟨v, w, rfl, h1, h3⟩
def lenF : List PD → Option RV
  | [.list ds] => some (.dat (.int ds.length))
  | [.tuple ds] => some (.dat (.int ds.length))
  | _ => none
theorem sem_len : SemL X pa (fun xs H Q => ∃ x n, xs = [x] ∧ LenV X.K x H n ∧ Q (.int n) H) lenF := fun {B F H σ ρ xs ds out Q} R hx ho q => by
  unfold lenF at ho
  split at ho
  · cases ho
    obtain ⟨v, rfl, h⟩ := hx.one
    obtain ⟨a, vs, rfl, h1, h2⟩ := h.lst
    rw [← h2.length] at q
    exact ⟨_, _, rfl, .inl ⟨vs, SqL.of h1, rfl⟩, fin R q (.int _)⟩
  · cases ho
    obtain ⟨v, rfl, h⟩ := hx.one
    obtain ⟨a, vs, rfl, _, h1, h2⟩ := h.tup R.fh
    rw [← h2.length] at q
    exact ⟨_, _, rfl, .inr ⟨vs, h1, rfl⟩, fin R q (.int _)⟩
  · cases ho
theorem de_len {p0 : Pos} {e : Expr} {ms : Mr (List RV)} (hm : X.mg "len" = none) (ha : DA X pa [e] ms) (hg : Gl X "len" := by rfl) (he : starEach [e] X.env = (false, eval e X.env) :: starEach [] X.env := by rfl) : DE X pa (.Call (.Name "len" p0) [e] [] pos) (mBlt lenF ms) :=
  de_callB call_len sem_len hm ha PySem.boot_len hg (by decide) (by decide) he rfl
/-- len(script) -/
def mLenScr (i : Nat) : Mr RV := fun ρ => match ρ[i]? with
  | some (some (Val.scr ds)) => some (.dat (.int ds.length), ρ)
  | _ => none
theorem de_lenScr (i : Nat) {x : Str} {px p0 : Pos} (hm : X.mg "len" = none) (hN : X.N[i]? = some x := by rfl) (hv : Vis X.env.scope x := by first | exact Or.inl rfl | exact Or.inr (Or.inl rfl) | exact Or.inr (Or.inr rfl)) (hd : (x == ("__debug__" : Str)) = false := by decide) (hcd : (x == ("__classdict__" : Str)) = false := by decide)
    (hg : Gl X "len" := by rfl) (he : starEach [.Name x px] X.env = (false, eval (.Name x px) X.env) :: starEach [] X.env := by rfl) : DE X pa (.Call (.Name "len" p0) [.Name x px] [] pos) (mLenScr i) :=
  DE.of (pe_callB call_len hg hm PySem.boot_len (pa_cons (pe_var hN hv hd hcd) pa_nil he) (by decide) (by decide) he rfl) fun {B F H σ ρ r ρ' Q} R e p => by
    unfold mLenScr at e
    split at e
    · rename_i ds h0
      cases e
      obtain ⟨a, vs, g1, g2, g3⟩ := R.scr i ds h0
      rw [← g3.length] at p
      exact ⟨_, g1, _, _, rfl, .inl ⟨vs, SqL.le R.fh g2, rfl⟩, fin R p (.int _)⟩
    · cases e
def absF : List PD → Option RV
  | [.int i] => some (.dat (.int (if i < 0 then -i else i)))
  | _ => none
theorem de_abs {p0 : Pos} {e : Expr} {ms : Mr (List RV)} (hm : X.mg "abs" = none) (ha : DA X pa [e] ms) (hg : Gl X "abs" := by rfl) (he : starEach [e] X.env = (false, eval e X.env) :: starEach [] X.env := by rfl) : DE X pa (.Call (.Name "abs" p0) [e] [] pos) (mBlt absF ms) :=
  de_callB call_abs (fun {B F H σ ρ xs ds out Q} R hx ho q => by
    unfold absF at ho
    split at ho
    · cases ho
      obtain ⟨v, rfl, h⟩ := hx.one
      exact ⟨_, by rw [h.int], fin R q (.int _)⟩
    · cases ho) hm ha (by decide +kernel) hg (by decide) (by decide) he rfl
def max2F : List PD → Option RV
  | [.int i, .int j] => some (.dat (.int (if j > i then j else i)))
  | _ => none
def min2F : List PD → Option RV
  | [.int i, .int j] => some (.dat (.int (if j < i then j else i)))
  | _ => none
theorem de_max2 {p0 : Pos} {e e2 : Expr} {ms : Mr (List RV)} (hc : X.calm = true) (hm : X.mg "max" = none) (ha : DA X pa [e, e2] ms) (hg : Gl X "max" := by rfl) (he : starEach [e, e2] X.env = (false, eval e X.env) :: starEach [e2] X.env := by rfl) (hpl : (backTo pos (starEach [e2] X.env)).any (·.1) = false := by rfl) : DE X pa (.Call (.Name "max" p0) [e, e2] [] pos) (mBlt max2F ms) :=
  de_callB (call_max2 hc) (fun {B F H σ ρ xs ds out Q} R hx ho q => by
    unfold max2F at ho
    split at ho
    · cases ho
      obtain ⟨v, w, rfl, h, h'⟩ := hx.two
      exact ⟨_, _, by rw [h.int, h'.int], fin R q (.int _)⟩
    · cases ho) hm ha (by decide +kernel) hg (by decide) (by decide) he hpl
theorem de_min2 {p0 : Pos} {e e2 : Expr} {ms : Mr (List RV)} (hc : X.calm = true) (hm : X.mg "min" = none) (ha : DA X pa [e, e2] ms) (hg : Gl X "min" := by rfl) (he : starEach [e, e2] X.env = (false, eval e X.env) :: starEach [e2] X.env := by rfl) (hpl : (backTo pos (starEach [e2] X.env)).any (·.1) = false := by rfl) : DE X pa (.Call (.Name "min" p0) [e, e2] [] pos) (mBlt min2F ms) :=
  de_callB (call_min2 hc) (fun {B F H σ ρ xs ds out Q} R hx ho q => by
    unfold min2F at ho
    split at ho
    · cases ho
      obtain ⟨v, w, rfl, h, h'⟩ := hx.two
      exact ⟨_, _, by rw [h.int, h'.int], fin R q (.int _)⟩
    · cases ho) hm ha (by decide +kernel) hg (by decide) (by decide) he hpl
def intF : List PD → Option RV
  | [.int i] => some (.dat (.int i))
  | [.bool b] => some (.dat (.int (if b then 1 else 0)))
  | _ => none
theorem de_int1 {p0 : Pos} {e : Expr} {ms : Mr (List RV)} (hm : X.mg "int" = none) (ha : DA X pa [e] ms) (hg : Gl X "int" := by rfl) (he : starEach [e] X.env = (false, eval e X.env) :: starEach [] X.env := by rfl) : DE X pa (.Call (.Name "int" p0) [e] [] pos) (mBlt intF ms) :=
  de_callTy call_int1 (fun {B F H σ ρ xs ds out Q} R hx ho q => by
    unfold intF at ho
    split at ho
    · cases ho
      obtain ⟨v, rfl, h⟩ := hx.one
      exact .inl ⟨_, by rw [h.int], fin R q (.int _)⟩
    · cases ho
      obtain ⟨v, rfl, h⟩ := hx.one
      exact .inr ⟨_, by rw [h.bool], fin R q (.int _)⟩
    · cases ho) hm ha (by decide +kernel) hg (by decide) (by decide) he rfl
def divmodF : List PD → Option RV
  | [.int i, .int j] => if 0 < j ∧ j < 1073741824 then some (.dat (.tuple [.int (i / j), .int (i % j)])) else none
  | _ => none
theorem de_divmod {p0 : Pos} {e e2 : Expr} {ms : Mr (List RV)} (hm : X.mg "divmod" = none) (ha : DA X pa [e, e2] ms) (hg : Gl X "divmod" := by rfl) (he : starEach [e, e2] X.env = (false, eval e X.env) :: starEach [e2] X.env := by rfl) (hpl : (backTo pos (starEach [e2] X.env)).any (·.1) = false := by rfl) : DE X pa (.Call (.Name "divmod" p0) [e, e2] [] pos) (mBlt divmodF ms) :=
  de_callB call_divmod (fun {B F H σ ρ xs ds out Q} R hx ho q => by
    unfold divmodF at ho
    split at ho
    · split at ho
      · rename_i c
        cases ho
        obtain ⟨v, w, rfl, h, h'⟩ := hx.two
        exact ⟨_, _, by rw [h.int, h'.int], c, fun p hp => finT R q (.cons (.int _) (.cons (.int _) .nil)) hp⟩
      · cases ho
    · cases ho) hm ha (by decide +kernel) hg (by decide) (by decide) he hpl
/-- the truth values of a list -/
def boolsOf : List PD → Option (List Bool)
  | [] => some []
  | .bool b :: ds => (match boolsOf ds with
    | some bs => some (b :: bs)
    | none => none)
  | _ => none
theorem boolsOf_eq : ∀ {ds : List PD} {bs : List Bool}, boolsOf ds = some bs → ds = bs.map PyData.bool
  | [], _, e => by cases e; rfl
  | .bool b :: ds, _, e => by
    unfold boolsOf at e
    split at e
    · rename_i bs h; cases e; rw [boolsOf_eq h]; rfl
    · cases e
  | .none :: _, _, e => by cases e
  | .int _ :: _, _, e => by cases e
  | .str _ :: _, _, e => by cases e
  | .list _ :: _, _, e => by cases e
  | .tuple _ :: _, _, e => by cases e
  | .dict _ :: _, _, e => by cases e
def allF : List PD → Option RV
  | [.list ds] => (match boolsOf ds with
    | some bs => some (.dat (.bool (bs.all id)))
    | none => none)
  | _ => none
theorem de_all {p0 : Pos} {e : Expr} {ms : Mr (List RV)} (hc : X.calm = true) (hm : X.mg "all" = none) (ha : DA X pa [e] ms) (hg : Gl X "all" := by rfl) (he : starEach [e] X.env = (false, eval e X.env) :: starEach [] X.env := by rfl) : DE X pa (.Call (.Name "all" p0) [e] [] pos) (mBlt allF ms) :=
  de_callB (cr_all hc) (fun {B F H σ ρ xs ds out Q} R hx ho q => by
    unfold allF at ho
    split at ho
    · split at ho
      · rename_i bs hb
        cases ho
        obtain ⟨v, rfl, h⟩ := hx.one
        obtain ⟨a, vs, rfl, h1, h2⟩ := h.lst
        rw [boolsOf_eq hb] at h2
        rw [h2.bools] at h1
        exact ⟨a, bs, rfl, SqL.of h1, fin R q (.bl _)⟩
      · cases ho
    · cases ho) hm ha (by decide +kernel) hg (by decide) (by decide) he rfl
def tupleF : List PD → Option RV
  | [.list ds] => some (.dat (.tuple ds))
  | [.tuple ds] => some (.dat (.tuple ds))
  | _ => none
theorem de_tuple1 {p0 : Pos} {e : Expr} {ms : Mr (List RV)} (hm : X.mg "tuple" = none) (ha : DA X pa [e] ms) (hg : Gl X "tuple" := by rfl) (he : starEach [e] X.env = (false, eval e X.env) :: starEach [] X.env := by rfl) : DE X pa (.Call (.Name "tuple" p0) [e] [] pos) (mBlt tupleF ms) :=
  de_callTy call_tuple_of (fun {B F H σ ρ xs ds out Q} R hx ho q => by
    unfold tupleF at ho
    split at ho
    · cases ho
      obtain ⟨v, rfl, h⟩ := hx.one
      obtain ⟨a, vs, rfl, h1, h2⟩ := h.lst
      exact ⟨a, vs, rfl, .inl ⟨SqL.of h1, fun l hl => finT R q h2 hl⟩⟩
    · cases ho
      obtain ⟨v, rfl, h⟩ := hx.one
      obtain ⟨a, vs, rfl, h0, h1, h2⟩ := h.tup R.fh
      exact ⟨a, vs, rfl, .inr ⟨h1, fin R q (.tup h0 h2)⟩⟩
    · cases ho) hm ha (by decide +kernel) hg (by decide) (by decide) he rfl
def listF : List PD → Option RV
  | [.list ds] => some (.own ds)
  | [.tuple ds] => some (.own ds)
  | _ => none
theorem de_list1 {p0 : Pos} {e : Expr} {ms : Mr (List RV)} (hm : X.mg "list" = none) (ha : DA X pa [e] ms) (hg : Gl X "list" := by rfl) (he : starEach [e] X.env = (false, eval e X.env) :: starEach [] X.env := by rfl) : DE X pa (.Call (.Name "list" p0) [e] [] pos) (mBlt listF ms) :=
  de_callTy call_list_of (fun {B F H σ ρ xs ds out Q} R hx ho q => by
    unfold listF at ho
    split at ho
    · cases ho
      obtain ⟨v, rfl, h⟩ := hx.one
      obtain ⟨a, vs, rfl, h1, h2⟩ := h.lst
      exact ⟨a, vs, rfl, .inl (SqL.of h1), fun l hl => finL R q h2 hl⟩
    · cases ho
      obtain ⟨v, rfl, h⟩ := hx.one
      obtain ⟨a, vs, rfl, h0, h1, h2⟩ := h.tup R.fh
      exact ⟨a, vs, rfl, .inr h1, fun l hl => finL R q h2 hl⟩
    · cases ho) hm ha (by decide +kernel) hg (by decide) (by decide) he rfl
/-! ### isinstance -/
def tyD : PD → String
  | .none => "NoneType"
  | .bool _ => "bool"
  | .int _ => "int"
  | .str _ => "str"
  | .list _ => "list"
  | .tuple _ => "tuple"
  | .dict _ => "dict"
theorem SqT.ty {K : Frag} {H : Hp} {a : Addr} {xs : List V} (h : SqT K H a xs) : TyX K H (.ref a) (.type "tuple") := by
  rcases h with (h | ⟨o, h⟩) | ⟨o, its, n, h, c, _⟩
  · exact .base (.tup h)
  · exact .fTuple h
  · exact .kTuple h c
theorem Top.ty {K : Frag} {F H : Hp} {d : PD} {v : V} (l : Le F H) (h : Top K F H d v) : TyX K H v (.type (tyD d)) := by
  cases d with
  | list ds => obtain ⟨a, vs, rfl, h1, _⟩ := h; exact .base (.lst h1)
  | none => cases (show Has K F v .none from h); exact .base .non
  | bool b => rw [h.bool]; exact .base (.bl b)
  | int b => rw [h.int]; exact .base (.int b)
  | str b => rw [h.str]; exact .base (.str b)
  | tuple b => obtain ⟨a, vs, rfl, _, h1, _⟩ := h.tup l; exact SqT.ty h1
  | dict b => cases (show Has K F v (.dict b) from h) with
    | dic h1 => exact .base (.dK (l _ _ h1))
def isD (T : String) : PD → Bool
  | .none => false
  | .bool _ => T == "bool" || T == "int"
  | .int _ => T == "int"
  | .str _ => T == "str"
  | .list _ => T == "list"
  | .tuple _ => T == "tuple"
  | .dict _ => T == "dict"
def kinds : List String := ["int", "bool", "str", "list", "tuple", "dict"]
theorem kit_all : ∀ T ∈ kinds, kitB "NoneType" T = some false ∧ kitB "bool" T = some (T == "bool" || T == "int") ∧ kitB "int" T = some (T == "int") ∧ kitB "str" T = some (T == "str") ∧ kitB "list" T = some (T == "list") ∧ kitB "tuple" T = some (T == "tuple") ∧ kitB "dict" T = some (T == "dict") := by
  decide +kernel
theorem kit_is {T : String} (h : T ∈ kinds) (d : PD) : kitB (tyD d) T = some (isD T d) := by
  obtain ⟨h1, h2, h3, h4, h5, h6, h7⟩ := kit_all T h
  cases d with
  | none => exact h1
  | bool b => exact h2
  | int b => exact h3
  | str b => exact h4
  | list b => exact h5
  | tuple b => exact h6
  | dict b => exact h7
def isF (T : String) : PD → Option RV := fun d => some (.dat (.bool (isD T d)))
theorem de_isinst (T : String) {x : Str} {p0 px : Pos} {e : Expr} {m : Mr RV} (hm : X.mg "isinstance" = none) (hmT : X.mg x = none) (he : DE X pa e m) (hT : T ∈ kinds := by decide) (hv : bootBuiltins x = some (.type T) := by decide +kernel) (hgT : Gl X x := by rfl) (hg : Gl X "isinstance" := by rfl) (hn : x ≠ "__name__" := by decide) (hdb : (x == ("__debug__" : Str)) = false := by decide)
    (hs : starEach [e, .Name x px] X.env = (false, eval e X.env) :: starEach [.Name x px] X.env := by rfl) (hs2 : starEach [.Name x px] X.env = (false, eval (.Name x px) X.env) :: starEach [] X.env := by rfl) (hpl : (backTo pos (starEach [.Name x px] X.env)).any (·.1) = false := by rfl) :
    DE X pa (.Call (.Name "isinstance" p0) [e, .Name x px] [] pos) (mUn (isF T) m) :=
  DE.of (pe_callB call_isi hg hm (by decide +kernel) (pa_cons he (pa_cons (pe_bltn (v := .ty T) hgT hmT hv rfl hn hdb) pa_nil hs2) hs) (by decide) (by decide) hs hpl) fun R e p =>
    mUn_run (R1 := fun v H Q => rIsi X.K [v, .ty T] H Q) (fun {B F H σ ρ x d out Q} R hx ho q => by
      cases ho
      exact ⟨x, .ty T, _, _, isD T d, rfl, .ty T, hx.ty R.fh, kit_ty (kit_is hT d), fin R q (.bl _)⟩) R e p
/-- isinstance(x, (T, U)) -/
def isF2 (T U : String) : PD → Option RV := fun d => some (.dat (.bool (isD T d || isD U d)))
theorem de_isinst2 (T U : String) {x y : Str} {p0 px py pt : Pos} {kt} {e : Expr} {m : Mr RV} (hm : X.mg "isinstance" = none) (hmT : X.mg x = none) (hmU : X.mg y = none) (he : DE X pa e m) (hT : T ∈ kinds := by decide) (hU : U ∈ kinds := by decide) (hv : bootBuiltins x = some (.type T) := by decide +kernel) (hvU : bootBuiltins y = some (.type U) := by decide +kernel)
    (hgT : Gl X x := by rfl) (hgU : Gl X y := by rfl) (hg : Gl X "isinstance" := by rfl) (hn : x ≠ "__name__" := by decide) (hdb : (x == ("__debug__" : Str)) = false := by decide) (hnU : y ≠ "__name__" := by decide) (hdbU : (y == ("__debug__" : Str)) = false := by decide)
    (hs : starEach [e, .Tuple [.Name x px, .Name y py] kt pt] X.env = (false, eval e X.env) :: starEach [.Tuple [.Name x px, .Name y py] kt pt] X.env := by rfl) (hs2 : starEach [.Tuple [.Name x px, .Name y py] kt pt] X.env = (false, eval (.Tuple [.Name x px, .Name y py] kt pt) X.env) :: starEach [] X.env := by rfl)
    (hs3 : starEach [.Name x px, .Name y py] X.env = (false, eval (.Name x px) X.env) :: starEach [.Name y py] X.env := by rfl) (hs4 : starEach [.Name y py] X.env = (false, eval (.Name y py) X.env) :: starEach [] X.env := by rfl) (hpl : (backTo pos (starEach [.Tuple [.Name x px, .Name y py] kt pt] X.env)).any (·.1) = false := by rfl) :
    DE X pa (.Call (.Name "isinstance" p0) [e, .Tuple [.Name x px, .Name y py] kt pt] [] pos) (mUn (isF2 T U) m) :=
  DE.of (pe_callB call_isiT hg hm (by decide +kernel) (pa_cons he (pa_cons (pe_tup (pa_cons (pe_bltn (v := .ty T) hgT hmT hv rfl hn hdb) (pa_cons (pe_bltn (v := .ty U) hgU hmU hvU rfl hnU hdbU) pa_nil hs4) hs3)) pa_nil hs2) hs) (by decide) (by decide) hs hpl) fun R e p =>
    mUn_run (R1 := fun v H Q => [V.ty T, V.ty U].length ≤ sizeLine ∧ ∀ t, H t = none → rIsiT X.K [v, .ref t] (upd H t (.tup [.ty T, .ty U])) Q) (fun {B F H σ ρ x d out Q} R hx ho q => by
      cases ho
      refine ⟨small_line (by show 2 ≤ 1000; decide), fun t ht => ?_⟩
      have R2 : Rep X.K B F pa (upd H t (.tup [.ty T, .ty U])) σ ρ := R.alloc ht
      have hx2 : Top X.K F (upd H t (.tup [.ty T, .ty U])) d x := by
        cases d with
        | list ds =>
          obtain ⟨a, vs, e1, e2, e3⟩ := hx
          exact ⟨a, vs, e1, by rw [upd_ne (ne_of_none e2 ht)]; exact e2, e3⟩
        | _ => exact hx
      have k1 := kit_ty (K := X.K) (kit_is hT d)
      have k2 := kit_ty (K := X.K) (kit_is hU d)
      refine ⟨x, t, [.ty T, .ty U], _, [.type T, .type U], isD T d || isD U d, rfl, upd_same, .cons (.ty T) (.cons (.ty U) .nil), hx2.ty R2.fh, ?_, fin R2 q (.bl _)⟩
      refine kitAny_cons k1 (fun h1 => ?_) fun h1 => by rw [h1]; rfl
      refine kitAny_cons k2 (fun h2 => ?_) fun h2 => by rw [h1, h2]; rfl
      rw [h1, h2]
      rfl) R e p
end
end DL
/-! DlI: lists by their methods; sum, max, min, sorted, repr, by data. -/
namespace DL
open PySem PySem.Spec PyProof.Rows L2
section
variable {X : Cx} {pa : Nat → Addr} {pos : Pos}
/-! ### methods of a slot's own list -/
def slotM : Option (Option Val) → Option (List PD)
  | some (some x) => x.mut
  | _ => none
theorem slotM_inv {o : Option (Option Val)} {ds : List PD} (h : slotM o = some ds) : ∃ x, o = some (some x) ∧ x.mut = some ds := by
  unfold slotM at h
  split at h
  · rename_i x; exact ⟨x, rfl, h⟩
  · cases h
def mMut (i : Nat) (f : List PD → List PD → Option (PD × List PD)) (ms : Mr (List RV)) : Mr RV := fun ρ => match slotM ρ[i]? with
  | some _ => (match mArgs ms ρ with
    | some (ds, ρ1) => (match ρ1[i]? with
      | some (some x) => (match x.mut with
        | some cur => (match f cur ds with
          | some (o, new) => some (.dat o, ρ1.set i (some (x.put new)))
          | none => none)
        | none => none)
      | _ => none)
    | none => none)
  | none => none
def SemMut (X : Cx) (r : V → List V → Hp → VK → Prop) (f : List PD → List PD → Option (PD × List PD)) : Prop := ∀ {F H : Hp} {l : Addr} {xs vs : List V} {cur ds : List PD} {o : PD} {new : List PD} {Q : VK}, Le F H → H l = some (.lst xs) → HasL X.K F xs cur → HasL X.K F vs ds → f cur ds = some (o, new) →
  (∀ v ys, Has X.K F v o → HasL X.K F ys new → Q v (upd H l (.lst ys))) → r (.ref l) vs H Q
theorem tyV_lst {K : Frag} {l : Addr} {xs : List V} {H : Hp} (h : H l = some (.lst xs)) : tyV K "list" (.ref l) H := .inl ⟨rfl, _, SqL.of h⟩
theorem mMut_run (i : Nat) {f : List PD → List PD → Option (PD × List PD)} {ms : Mr (List RV)} {r : V → List V → Hp → VK → Prop} (sem : SemMut X r f) {B F H : Hp} {σ : St} {ρ ρ' : Ev} {out : RV} {Q : VK} (R : Rep X.K B F pa H σ ρ) (e : mMut i f ms ρ = some (out, ρ')) (p : EPost X.K B F pa σ out ρ' Q) :
    tBM X.K "list" r (tVar i) (tMA X.K pa ms) σ H Q := by
  unfold mMut at e
  split at e
  · rename_i ds0 hs0
    obtain ⟨x0, h0, hm0⟩ := slotM_inv hs0
    obtain ⟨a0, us0, ho, k2, -, -, -⟩ := R.mu i x0 ds0 h0 hm0
    refine ⟨_, ho, tyV_lst k2, ?_⟩
    split at e
    · rename_i ds ρ1 h1
      refine mArgs_run R h1 fun F1 H1 vs E1 R1 hv => ?_
      split at e
      · rename_i x hx
        split at e
        · rename_i cur hm
          split at e
          · rename_i o' new hf
            cases e
            obtain ⟨a, us, g1, g2, g3, g4, g5⟩ := R1.mu i x cur hx hm
            rw [ho] at g1
            cases g1
            exact sem R1.fh g2 g5 hv hf fun v ys k1 k2 => p F1 _ v E1 (R1.write hx hm ho k2) k1
          · cases e
        · cases e
      · cases e
    · cases e
  · cases e
def appendF : List PD → List PD → Option (PD × List PD)
  | cur, [d] => if cur.length < big then some (.none, cur ++ [d]) else none
  | _, _ => none
def extendF : List PD → List PD → Option (PD × List PD)
  | cur, [.list ds] => if cur.length + ds.length ≤ big then some (.none, cur ++ ds) else none
  | _, _ => none
theorem sem_append : SemMut X rAppend appendF := fun {F H l xs vs cur ds o new Q} lF hl hx hv hf q => by
  unfold appendF at hf
  split at hf
  · split at hf
    · rename_i d hz
      cases hf
      obtain ⟨v, r, rfl, h1, h2⟩ := hv.cons_inv
      cases h2
      exact ⟨l, xs, v, rfl, rfl, hl, by rw [hx.length]; exact Nat.lt_of_lt_of_le hz (big_line (Nat.le_refl _)), q .non _ .non (hx.append (.cons h1 .nil))⟩
    · cases hf
  · cases hf
theorem sem_extend : SemMut X rExtend extendF := fun {F H l xs vs cur ds o new Q} lF hl hx hv hf q => by
  unfold extendF at hf
  split at hf
  · split at hf
    · rename_i es hz
      cases hf
      obtain ⟨v, r, rfl, h1, h2⟩ := hv.cons_inv
      cases h2
      cases h1 with
      | lst h3 h4 => exact ⟨l, _, xs, _, rfl, rfl, hl, lF _ _ h3, by rw [hx.length, h4.length]; exact big_line hz, q .non _ .non (hx.append h4)⟩
    · cases hf
  · cases hf
section
variable {x : Str} {px apos : Pos} {e : Expr} {es : List Expr} {ms : Mr (List RV)}
theorem de_meth {id : String} {name : Str} {r : V → List V → Hp → VK → Prop} {f : List PD → List PD → Option (PD × List PD)} (i : Nat) (slot : Slot "list" name id) (hty : typeOf (.builtin id) = pure (.type "method_descriptor")) (hm : MtR X id r) (sem : SemMut X r f) (ha : DA X pa [e] ms)
    (hN : X.N[i]? = some x := by rfl) (hv : Vis X.env.scope x := by first | exact Or.inl rfl | exact Or.inr (Or.inl rfl) | exact Or.inr (Or.inr rfl)) (hd : (x == ("__debug__" : Str)) = false := by decide) (hcd : (x == ("__classdict__" : Str)) = false := by decide)
    (hbase : attributeBase (.Name x px) name X.env (eval (.Name x px) X.env) = eval (.Name x px) X.env := by rfl)
    (hfew : ((backTo pos (starEach [e] X.env)).all (fun x => !x.1) && (backToKw pos (keywordEach [] X.env)).all (fun x => x.1.isSome)
      && decide ([e].length + ([] : List Keyword).length + (if ([] : List Keyword).isEmpty then 0 else 1) < 30)) = true := by rfl)
    (hline : (apos.endLine == pos.line) = true := by rfl) (he : starEach [e] X.env = (false, eval e X.env) :: starEach [] X.env := by rfl) : DE X pa (.Call (.Attribute (.Name x px) name apos) [e] [] pos) (mMut i f ms) :=
  DE.of (pe_bm PySem.F.plainAttrs_list slot hty hm (pe_var hN hv hd hcd) ha hbase hfew hline he rfl) fun R e p => mMut_run i sem R e p
theorem de_append (i : Nat) (ha : DA X pa [e] ms) (hN : X.N[i]? = some x := by rfl) (hv : Vis X.env.scope x := by first | exact Or.inl rfl | exact Or.inr (Or.inl rfl) | exact Or.inr (Or.inr rfl)) (hd : (x == ("__debug__" : Str)) = false := by decide) (hcd : (x == ("__classdict__" : Str)) = false := by decide)
    (hfew : ((backTo pos (starEach [e] X.env)).all (fun x => !x.1) && (backToKw pos (keywordEach [] X.env)).all (fun x => x.1.isSome)
      && decide ([e].length + ([] : List Keyword).length + (if ([] : List Keyword).isEmpty then 0 else 1) < 30)) = true := by rfl)
    (hline : (apos.endLine == pos.line) = true := by rfl) (he : starEach [e] X.env = (false, eval e X.env) :: starEach [] X.env := by rfl) : DE X pa (.Call (.Attribute (.Name x px) "append" apos) [e] [] pos) (mMut i appendF ms) :=
  de_meth i PySem.F.slot_list_append PySem.F.type_list_append mt_append sem_append ha hN hv hd hcd rfl hfew hline he
theorem de_extend (i : Nat) (ha : DA X pa [e] ms) (hN : X.N[i]? = some x := by rfl) (hv : Vis X.env.scope x := by first | exact Or.inl rfl | exact Or.inr (Or.inl rfl) | exact Or.inr (Or.inr rfl)) (hd : (x == ("__debug__" : Str)) = false := by decide) (hcd : (x == ("__classdict__" : Str)) = false := by decide)
    (hfew : ((backTo pos (starEach [e] X.env)).all (fun x => !x.1) && (backToKw pos (keywordEach [] X.env)).all (fun x => x.1.isSome)
      && decide ([e].length + ([] : List Keyword).length + (if ([] : List Keyword).isEmpty then 0 else 1) < 30)) = true := by rfl)
    (hline : (apos.endLine == pos.line) = true := by rfl) (he : starEach [e] X.env = (false, eval e X.env) :: starEach [] X.env := by rfl) : DE X pa (.Call (.Attribute (.Name x px) "extend" apos) [e] [] pos) (mMut i extendF ms) :=
  de_meth i PySem.F.slot_list_extend PySem.F.type_list_extend mt_extend sem_extend ha hN hv hd hcd rfl hfew hline he
end
/-! ### sum, max, min of ints -/
def intsOf : List PD → Option (List Int)
  | [] => some []
  | .int b :: ds => (match intsOf ds with
    | some bs => some (b :: bs)
    | none => none)
  | _ => none
theorem intsOf_eq : ∀ {ds : List PD} {bs : List Int}, intsOf ds = some bs → ds = bs.map PyData.int
  | [], _, e => by cases e; rfl
  | .int b :: ds, _, e => by
    unfold intsOf at e
    split at e
    · rename_i bs h; cases e; rw [intsOf_eq h]; rfl
    · cases e
  | .none :: _, _, e => by cases e
  | .bool _ :: _, _, e => by cases e
  | .str _ :: _, _, e => by cases e
  | .list _ :: _, _, e => by cases e
  | .tuple _ :: _, _, e => by cases e
  | .dict _ :: _, _, e => by cases e
theorem intsOf_map : ∀ bs : List Int, intsOf (bs.map PyData.int) = some bs
  | [] => rfl
  | b :: bs => by
    show (match intsOf (bs.map PyData.int) with | some cs => some (b :: cs) | none => none) = _
    rw [intsOf_map bs]
end
/-! any list or tuple of ints, walked by a built-in function -/
section
variable {prog : Program} {w : World} {A : Around} {E : Value → Shared → Prop} {s : Shared}
theorem Sq.walks (hh : A.handled = none) (q : Sq) (it : Addr) (its : List Value) (hne : q.ad ≠ it) : Walks prog w A it [it, q.ad] [it] its.length (fun i v => its[i]? = some v) (fun i h => q.ItAt h it i ∧ q.At h its) := by
  cases q with
  | l a xs =>
    have D := Walks.list (prog := prog) (w := w) hh it a hne its.toArray
    show Walks prog w A it [it, a] [it] its.length (fun i v => its[i]? = some v) (fun i h => h.IsListIter it a i ∧ h.IsList a its.toArray)
    simpa using D
  | t a xs =>
    have D := Walks.tuple (prog := prog) (w := w) hh it a hne its.toArray
    show Walks prog w A it [it, a] [it] its.length (fun i v => its[i]? = some v) (fun i h => h.IsTupleIter it a i ∧ h.IsTuple a its.toArray)
    simpa using D
theorem Sq.lt {q : Sq} {h : Heap} {its : List Value} (ha : q.At h its) : q.ad < h.objs.size := by
  cases q with
  | l a xs => obtain ⟨o, ho, _⟩ := ha; exact Heap.lt_size ho
  | t a xs => obtain ⟨o, ho, _⟩ := ha; exact Heap.lt_size ho
/-- the walk's start, for a function that walks -/
theorem Sq.start (hh : A.handled = none) {q : Sq} {its : List Value} (ha : q.At s.heap its) {Q : Value → Shared → Prop}
    (h : Walks prog w A s.heap.objs.size [s.heap.objs.size, q.ad] [s.heap.objs.size] its.length (fun i v => its[i]? = some v) (fun i h => q.ItAt h s.heap.objs.size i ∧ q.At h its) →
      (q.ItAt (s.heap.push q.itO) s.heap.objs.size 0 ∧ q.At (s.heap.push q.itO) its) → (∀ b ∈ [s.heap.objs.size, q.ad], b < (s.heap.push q.itO).objs.size) → Q (.ref s.heap.objs.size) { s with heap := s.heap.push q.itO }) :
    wpAny (model prog w) A (pyIter (.ref q.ad)) Q E s := by
  have B := q.begins its
  have hlt := Sq.lt ha
  refine B.iter prog w A E s Q ha (h (q.walks hh _ its (Nat.ne_of_lt hlt)) ⟨q.it0 (Heap.get?_push_size _ B.free), B.keeps _ _ ha fun b o e => Heap.get?_push_of_some _ e⟩ fun b hb => ?_)
  rw [Heap.size_push]
  have e' : b = s.heap.objs.size ∨ b = q.ad := by simpa using hb
  rcases e' with rfl | rfl
  · exact Nat.lt_succ_self _
  · exact Nat.lt_succ_of_lt hlt
theorem kept_old {o : Obj} {h' : Heap} (hk : ∀ b u, b ∉ [s.heap.objs.size] → (s.heap.push o).get? b = some u → h'.get? b = some u) : ∀ b u, s.heap.get? b = some u → h'.get? b = some u := fun b u e =>
  hk b u (fun hm => by
    have z : b = s.heap.objs.size := by simpa using hm
    exact absurd (Heap.lt_size e) (by rw [z]; exact Nat.lt_irrefl _)) (Heap.get?_push_of_some _ e)
theorem sum_sq (hh : A.handled = none) {q : Sq} {its : List Value} {ns : List Int} (ha : q.At s.heap its) (hi : IntsAre its ns) {Q : Value → Shared → Prop}
    (h : ∀ h' tk t', (∀ b o, s.heap.get? b = some o → h'.get? b = some o) → Q (.int ns.sum t') { s with heap := h', toks := tk }) : wpAny (model prog w) A (call (.builtin "sum") [.ref q.ad]) Q E s := by
  obtain ⟨xs, e⟩ := hi.allInts.items
  have hn : numsOf (intItems xs).toList = ns := by rw [← e]; exact hi.numsOf
  rw [nums_intItems] at hn
  have el : its = (intItems xs).toList := by rw [← e]
  refine call_sum_walkG (Sq.start (prog := prog) (w := w) (A := A.in1) hh ha fun W st hfp => ⟨_, _, _, _, _, _, numAt xs, rfl, W, st, hfp, fun i v hv => intItems_at (by rw [el] at hv; simpa using hv), fun h' tk t' hk => ?_⟩)
  have := h h' tk t' (kept_old hk)
  have z : preSum (numAt xs) its.length = ns.sum := by
    rw [preSum_eq, hn, List.take_of_length_le]
    rw [← hi.length]
    exact Nat.le_refl _
  rw [z]; exact this
theorem min_sq (hh : A.handled = none) {q : Sq} {its : List Value} {ns : List Int} (ha : q.At s.heap its) (hi : IntsAre its ns) (hne : 0 < ns.length) {Q : Value → Shared → Prop}
    (h : ∀ h' tk M t', (∀ b o, s.heap.get? b = some o → h'.get? b = some o) → M ∈ ns → (∀ a, a ∈ ns → M ≤ a) → Q (.int M t') { s with heap := h', toks := tk }) : wpAny (model prog w) A (call (.builtin "min") [.ref q.ad]) Q E s := by
  obtain ⟨xs, e⟩ := hi.allInts.items
  have hn : numsOf (intItems xs).toList = ns := by rw [← e]; exact hi.numsOf
  rw [nums_intItems] at hn
  have el : its = (intItems xs).toList := by rw [← e]
  have hl : its.length = ns.length := hi.length
  have at_ : ∀ j, numAt xs j = ns.getD j 0 := fun j => by rw [numAt_eq, hn]
  have pt : ∀ (i : Nat) (v : Value), its[i]? = some v → ∃ t, v = .int (numAt xs i) t := fun i v hv => intItems_at (by rw [el] at hv; simpa using hv)
  refine call_min_walk (Sq.start (prog := prog) (w := w) (A := A.in1) hh ha fun W st hfp => ⟨_, _, _, _, _, _, _, rfl, W, st, hfp, by rw [hl]; exact hne, CmpOf.ints_lt (numAt xs) pt, fun v h' tk hv hk => ?_⟩)
  obtain ⟨t, rfl⟩ := pt _ _ hv
  obtain ⟨h1, h2⟩ := argBest_lt (numAt xs) (its.length - 1)
  refine h h' tk _ t (kept_old hk) ?_ fun a hm => ?_
  · rw [at_]
    exact PySem.getD_mem (by omega)
  · obtain ⟨j, hj, rfl⟩ := mem_getD hm
    rw [← at_]
    exact h2 j (by omega)
end
section
variable {X : Cx} {pa : Nat → Addr} {pos : Pos}
def rSq (r : Sq → List Int → Hp → VK → Prop) (K : Frag) : List V → Hp → VK → Prop := fun vs H Q => ∃ (q : Sq) (ns : List Int), vs = [V.ref q.ad] ∧ q.In K H ∧ q.xs = ns.map V.int ∧ r q ns H Q
theorem cr_sumS (hc : X.calm = true) : CallR X (.builtin "sum") (rSq (fun _ ns H Q => Q (.int ns.sum) H) X.K) := by
  intro pins s σ H vs us Q I r h
  obtain ⟨q, ns, rfl, hs, hx, hQ⟩ := h
  obtain ⟨its, rv, hat, _⟩ := Sq.at_of I hs
  rw [hx] at rv
  rw [Vals.ref1 r]
  exact sum_sq (I.ok.hd hc) hat rv.ints fun h' tk t' hk => ⟨.int _, H, I.kept hk, ⟨_, rfl⟩, hQ⟩
theorem cr_minS (hc : X.calm = true) : CallR X (.builtin "min") (rSq (fun _ ns H Q => 0 < ns.length ∧ ∀ m, m ∈ ns → (∀ y, y ∈ ns → m ≤ y) → Q (.int m) H) X.K) := by
  intro pins s σ H vs us Q I r h
  obtain ⟨q, ns, rfl, hs, hx, hne, hQ⟩ := h
  obtain ⟨its, rv, hat, _⟩ := Sq.at_of I hs
  rw [hx] at rv
  rw [Vals.ref1 r]
  exact min_sq (I.ok.hd hc) hat rv.ints hne fun h' tk m t' hk h1 h2 => ⟨.int _, H, I.kept hk, ⟨_, rfl⟩, hQ m h1 h2⟩
/-- a top that is a list or a tuple -/
theorem Top.sq {K : Frag} {F H : Hp} {d : PD} {v : V} {ds : List PD} (l : Le F H) (h : Top K F H d v) (e : itemsOf d = some ds) : ∃ q : Sq, v = .ref q.ad ∧ q.In K H ∧ HasL K F q.xs ds := by
  cases d with
  | list es =>
    cases e
    obtain ⟨a, vs, rfl, h1, h2⟩ := h
    exact ⟨.l a vs, rfl, SqL.of h1, h2⟩
  | tuple es =>
    cases e
    obtain ⟨a, vs, rfl, _, h1, h2⟩ := h.tup l
    exact ⟨.t a vs, rfl, h1, h2⟩
  | none => cases e
  | bool _ => cases e
  | int _ => cases e
  | str _ => cases e
  | dict _ => cases e
def numsF (g : List Int → Option Int) : List PD → Option RV
  | [d] => (match itemsOf d with
    | some ds => (match intsOf ds with
      | some ns => (match g ns with
        | some m => some (.dat (.int m))
        | none => none)
      | none => none)
    | none => none)
  | _ => none
theorem numsF_inv {g : List Int → Option Int} {ds : List PD} {out : RV} (h : numsF g ds = some out) : ∃ d es ns m, ds = [d] ∧ itemsOf d = some es ∧ intsOf es = some ns ∧ g ns = some m ∧ out = .dat (.int m) := by
  unfold numsF at h
  split at h
  · rename_i d
    split at h
    · rename_i es h1
      split at h
      · rename_i ns h2
        split at h
        · rename_i m h3
          cases h
          exact ⟨d, es, ns, m, rfl, h1, h2, h3, rfl⟩
        · cases h
      · cases h
    · cases h
  · cases h
def sumF : List PD → Option RV := numsF fun ns => some ns.sum
def minL : List Int → Option Int
  | [] => none
  | n :: ns => some (ns.foldl min n)
def minF : List PD → Option RV := numsF minL
theorem foldl_min : ∀ (ns : List Int) (n : Int), ns.foldl min n ∈ n :: ns ∧ ∀ y ∈ n :: ns, ns.foldl min n ≤ y
  | [], n => ⟨by simp, fun y hy => by simp at hy; simp [hy]⟩
  | m :: ns, n => by
    obtain ⟨h1, h2⟩ := foldl_min ns (min n m)
    refine ⟨?_, fun y hy => ?_⟩
    · rcases List.mem_cons.mp h1 with e | e
      · show ns.foldl min (min n m) ∈ _
        rw [e]
        rcases Int.le_total n m with z | z
        · rw [Int.min_eq_left z]; simp
        · rw [Int.min_eq_right z]; simp
      · exact List.mem_cons_of_mem _ (List.mem_cons_of_mem _ e)
    · have h3 := h2 (min n m) (List.mem_cons_self ..)
      rcases List.mem_cons.mp hy with rfl | hy
      · exact Int.le_trans h3 (Int.min_le_left _ _)
      · rcases List.mem_cons.mp hy with rfl | hy
        · exact Int.le_trans h3 (Int.min_le_right _ _)
        · exact h2 y (List.mem_cons_of_mem _ hy)
theorem minL_is {ns : List Int} {m M : Int} (h : minL ns = some M) (h1 : m ∈ ns) (h2 : ∀ y ∈ ns, m ≤ y) : m = M := by
  cases ns with
  | nil => cases h
  | cons n ns =>
    cases h
    obtain ⟨g1, g2⟩ := foldl_min ns n
    exact Int.le_antisymm (h2 _ g1) (g2 m h1)
section
variable {p0 : Pos} {e : Expr} {ms : Mr (List RV)}
theorem de_sum (hc : X.calm = true) (hm : X.mg "sum" = none) (ha : DA X pa [e] ms) (hg : Gl X "sum" := by rfl) (he : starEach [e] X.env = (false, eval e X.env) :: starEach [] X.env := by rfl) : DE X pa (.Call (.Name "sum" p0) [e] [] pos) (mBlt sumF ms) :=
  de_callB (cr_sumS hc) (fun {B F H σ ρ xs ds out Q} R hx ho q => by
    obtain ⟨d, es, ns, m, rfl, h1, h2, h3, rfl⟩ := numsF_inv ho
    cases h3
    obtain ⟨v, rfl, h⟩ := hx.one
    obtain ⟨sq, rfl, hs, hl⟩ := h.sq R.fh h1
    rw [intsOf_eq h2] at hl
    exact ⟨sq, ns, rfl, hs, hl.ints, fin R q (.int _)⟩) hm ha (by decide +kernel) hg (by decide) (by decide) he rfl
theorem de_min1 (hc : X.calm = true) (hm : X.mg "min" = none) (ha : DA X pa [e] ms) (hg : Gl X "min" := by rfl) (he : starEach [e] X.env = (false, eval e X.env) :: starEach [] X.env := by rfl) : DE X pa (.Call (.Name "min" p0) [e] [] pos) (mBlt minF ms) :=
  de_callB (cr_minS hc) (fun {B F H σ ρ xs ds out Q} R hx ho q => by
    obtain ⟨d, es, ns, m, rfl, h1, h2, h3, rfl⟩ := numsF_inv ho
    obtain ⟨v, rfl, h⟩ := hx.one
    obtain ⟨sq, rfl, hs, hl⟩ := h.sq R.fh h1
    rw [intsOf_eq h2] at hl
    refine ⟨sq, ns, rfl, hs, hl.ints, ?_, fun k k1 k2 => ?_⟩
    · cases ns with
      | nil => cases h3
      | cons n ns => exact Nat.succ_pos _
    · rw [minL_is h3 k1 k2]
      exact fin R q (.int _)) hm ha (by decide +kernel) hg (by decide) (by decide) he rfl
/-! ### repr -/
theorem Top.readsS {pins : List (Addr × Obj)} {σ : St} {H F : Hp} {s : Shared} (sm : SM X.K) (I : Inv X pins σ H s) (l : Le F H) {d : PD} {v : V} {u : Value} (h : Top X.K F H d v) (r : RelV v u) : ∃ as, Reads s.heap u d as ∧ sysModules ∉ as := by
  cases d with
  | list ds =>
    obtain ⟨a, vs, rfl, h1, h2⟩ := h
    cases r
    obtain ⟨its, rv, ⟨o, n, ho, hc, _, hd⟩, _⟩ := I.list (SqL.of h1)
    obtain ⟨as, hr, hn⟩ := HasL.readsS sm I l ds _ its h2 rv
    exact ⟨_, Reads.list ho hc hd hr, fun m => (List.mem_cons.mp m).elim (sm.ne I ho hc) hn⟩
  | _ => exact Has.readsS sm I l _ v u h r
def reprOk (d : PD) : Bool := d.showable && decide (d.depth ≤ 60) && decide (d.shown.length ≤ sizeLine)
def reprF : List PD → Option RV
  | [d] => if reprOk d = true then some (.dat (.str d.shown)) else none
  | _ => none
def rRepr (K : Frag) : List V → Hp → VK → Prop := fun vs H Q => ∃ F d v, vs = [v] ∧ Le F H ∧ Top K F H d v ∧ reprOk d = true ∧ Q (.str d.shown) H
theorem cr_repr (sm : SM X.K) (hg : X.A.guards = some []) (hu : X.A.units + 64 < cLine) : CallR X (.builtin "repr") (rRepr X.K) := by
  intro pins s σ H vs us Q I r h
  obtain ⟨F, d, v, rfl, l, ht, hok, q⟩ := h
  obtain ⟨u, rfl, ru⟩ := vals1 r
  unfold reprOk at hok
  simp only [Bool.and_eq_true, decide_eq_true_eq, Bool.not_eq_true'] at hok
  obtain ⟨⟨h1, h3⟩, h4⟩ := hok
  obtain ⟨as, rd, hns⟩ := Top.readsS sm I l ht ru
  have goal : ∀ (h' : Heap) (t : Tok) (tk : Nat), (∀ b o, s.heap.get? b = some o → h'.get? b = some o) → EP X pins σ Q (.str d.shown t) { s with heap := h', toks := tk } := fun h' t tk hk => ⟨.str d.shown, H, I.kept hk, ⟨t, rfl⟩, q⟩
  cases rd with
  | none => exact PySem.P.repr_of_none ⟨.str _, H, I.tok _, ⟨_, rfl⟩, q⟩
  | bool b => exact PySem.P.repr_of_bool ⟨.str _, H, I.tok _, ⟨_, rfl⟩, q⟩
  | int i t =>
    have hz : i.natAbs.log2 < 1920 := by
      have : decide (i.natAbs.log2 < 1920) = true := h1
      simpa using this
    exact PySem.P.repr_of_int hz ⟨.str _, H, I.tok _, ⟨_, rfl⟩, q⟩
  | str x t => exact PySem.P.repr_of_str ⟨.str _, H, I.tok _, ⟨_, rfl⟩, q⟩ h4
  | list g1 g2 g3 g4 => exact repr_of_reads' (Reads.list g1 g2 g3 g4) h1 (fun _ => hns) hg (by omega) (fun _ _ z => z) (fun h' t tk hk => goal h' t tk hk) h4
  | tuple g1 g2 g3 g4 => exact repr_of_reads' (Reads.tuple g1 g2 g3 g4) h1 (fun _ => hns) hg (by omega) (fun _ _ z => z) (fun h' t tk hk => goal h' t tk hk) h4
  | dict g1 g2 g3 g4 g5 => exact repr_of_reads' (Reads.dict g1 g2 g3 g4 g5) h1 (fun _ => hns) hg (by omega) (fun _ _ z => z) (fun h' t tk hk => goal h' t tk hk) h4
theorem de_repr (sm : SM X.K) (hgu : X.A.guards = some []) (hu : X.A.units + 64 < cLine) (hm : X.mg "repr" = none) (ha : DA X pa [e] ms) (hg : Gl X "repr" := by rfl) (he : starEach [e] X.env = (false, eval e X.env) :: starEach [] X.env := by rfl) : DE X pa (.Call (.Name "repr" p0) [e] [] pos) (mBlt reprF ms) :=
  de_callB (cr_repr sm hgu hu) (fun {B F H σ ρ xs ds out Q} R hx ho q => by
    unfold reprF at ho
    split at ho
    · split at ho
      · rename_i d hok
        cases ho
        obtain ⟨v, rfl, h⟩ := hx.one
        exact ⟨F, d, v, rfl, R.fh, h, hok, fin R q (.str _)⟩
      · cases ho
    · cases ho) hm ha (by decide +kernel) hg (by decide) (by decide) he rfl
end
end
end DL
/-! DlJ: is of bools, in, not in; a law's end. -/
namespace DL
open PySem PySem.Spec PyProof.Rows L2
section
variable {X : Cx} {pa : Nat → Addr} {pos : Pos} {a b : Expr} {ma mb : Mr RV}
def isBD (f : Bool → Bool) : PD → PD → Option RV
  | .bool x, .bool y => some (.dat (.bool (f (decide (x = y)))))
  | _, _ => none
theorem sem_isB : Sem2 X pa rIsB (isBD id) := fun {B F H σ ρ x y d e out Q} R hx hy ho q => by
  unfold isBD at ho
  split at ho
  · cases ho; exact ⟨_, _, hx.bool, hy.bool, fin R q (.bl _)⟩
  · cases ho
theorem de_isB (ha : DE X pa a ma) (hb : DE X pa b mb) : DE X pa (.Compare a [.Is] [b] pos) (mBin (isBD id) ma mb) := de_cmp op_isBl sem_isB (nomark _) ha hb
def inL (d : PD) (es : List PD) : Bool := es.any fun z => PyData.eqv z d
def rInT (K : Frag) (f : Bool → Bool) : R2 := fun x y H Q => ∃ F d e es, Le F H ∧ Top K F H d x ∧ Top K F H e y ∧ itemsOf e = some es ∧ SeqAt.shaped d = true ∧ SeqAt.shaped e = true ∧ Q (.bl (f (inL d es))) H
theorem op_inT (hu : X.A.units + 65 < cLine) : OpR X (compareOp .In) (rInT X.K id) := by
  intro pins s σ H x y v u Q I rx ry h
  obtain ⟨F, d, e, es, l, hd, he, hi, sd, se, q⟩ := h
  obtain ⟨as, r1⟩ := Top.reads I l hd rx
  obtain ⟨bs, r2⟩ := Top.reads I l he ry
  cases e with
  | list zs => cases hi; exact SeqAt.in_list_reads r2 r1 (SeqAt.canLay_of_shaped se) (SeqAt.canLay_of_shaped sd) (room_in_shaped sd hu) ⟨.bl _, H, I, rfl, q⟩
  | tuple zs => cases hi; exact SeqAt.in_tuple_reads r2 r1 (SeqAt.canLay_of_shaped se) (SeqAt.canLay_of_shaped sd) (room_in_shaped sd hu) ⟨.bl _, H, I, rfl, q⟩
  | none => cases hi
  | bool _ => cases hi
  | int _ => cases hi
  | str _ => cases hi
  | dict _ => cases hi
def inD (f : Bool → Bool) : PD → PD → Option RV := fun d e => match itemsOf e with
  | some es => if SeqAt.shaped d = true ∧ SeqAt.shaped e = true then some (.dat (.bool (f (inL d es)))) else none
  | none => none
theorem sem_inT (f : Bool → Bool) : Sem2 X pa (rInT X.K f) (inD f) := fun {B F H σ ρ x y d e out Q} R hx hy ho q => by
  unfold inD at ho
  split at ho
  · rename_i es hi
    split at ho
    · rename_i hs
      cases ho
      exact ⟨F, d, e, es, R.fh, hx, hy, hi, hs.1, hs.2, fin R q (.bl _)⟩
    · cases ho
  · cases ho
theorem de_in (hu : X.A.units + 65 < cLine) (ha : DE X pa a ma) (hb : DE X pa b mb) (hm : behindInMarks .In b = false := by rfl) : DE X pa (.Compare a [.In] [b] pos) (mBin (inD id) ma mb) := de_cmp (op_inT hu) (sem_inT _) hm ha hb
end
/-! ### a law's end -/
/-- the defs' tables as the head leaves them -/
structure TkH (K : Frag) (h : Heap) : Prop where
  hd : ∀ p ∈ TKc K, PySem.W.codeHdIn K p.1 p.2.1 = true
  out : ∀ p ∈ TKc K, K.lookup p.2.1 = none
  empty : ∀ p ∈ TKc K, h.get? p.2.1 = some { cls := .none, data := .fields #[] }
  nd : ((TKc K).map (·.2.1)).Nodup
/-- what the making of a lambda asks, of each def -/
structure TkB (K : Frag) (base : Heap) (mg : Str → Option Value) : Prop where
  tb : ∀ p ∈ TKc K, LamX.TabB base mg p.1 p.2.1
  nd : ((TKc K).map (·.2.1)).Nodup
def BmAt (h : Heap) (mg : Str → Option Value) : Prop := ∃ (bm : Addr) (ob : Obj), mg "__builtins__" = some (.ref bm) ∧ bm ≠ builtinsNs ∧ h.get? bm = some ob ∧ ob.cls = .type "module" ∧ ob.dict = some builtinsNs ∧ ob.data = .plain
/-- of the head's own heap, or what is left of it -/
theorem tkB_of {K : Frag} {h h' : Heap} {mg : Str → Option Value} (KX : K.In h') (hns : h'.Ns mainGlobals mg) (hbm : BmAt h' mg) (t : TkH K h) (nt : ∀ p ∈ TKc K, ∀ o, h'.get? p.2.1 = some o → o.data = .fields #[]) : TkB K h' mg := by
  refine ⟨fun p hp => ⟨PySem.W.codeHd_of_K KX (t.hd p hp), ?_, fun z => ?_⟩, t.nd⟩
  · obtain ⟨bm, ob, b1, b2, b3, b4, b5, b6⟩ := hbm
    have ng : bm ≠ mainGlobals := by
      rintro rfl
      obtain ⟨o, es, ep, e, hd, _⟩ := hns
      rw [b3] at e; cases e
      rw [b6] at hd; cases hd
    have np : bm ≠ p.2.1 := by
      rintro rfl
      have := nt p hp _ b3
      rw [b6] at this; cases this
    exact ⟨bm, ob, b1, b2, ng, np, b3, b4, b5, b6⟩
  · obtain ⟨o, es, ep, e, hd, _⟩ := hns
    rw [z] at e
    have := nt p hp _ e
    rw [hd] at this; cases this
/-- the call of a law, with no guard of repr around -/
theorem law_callG {P : Program} {w : World} {K : PySem.W.Frag} {mg mb : Str → Option Value} {CX : CXT} {k : Nat} {fa a : Addr} {fd : FuncData} {x : Str} {sp : Sp} {t : Shared} {vs : List Value} {ns : List Int}
    (KX : K.In t.heap) (hns : t.heap.Ns mainGlobals mg) (hb : t.heap.Ns builtinsNs mb) (hbb : ∀ x : Str, x ≠ "__name__" → mb x = bootBuiltins x) (hlim : t.heap.NoLimit) (hg : t.gens = #[]) (hbm : BmAt t.heap mg) (tk : TkH K t.heap)
    (ha : t.heap.get? a = some { cls := .type "list", data := .seq vs.toArray }) (hi : IntsAre vs ns) (hl : ns.length ≤ sizeLine) (hr : Room k callerA)
    (F : ∀ base : Heap, K.In base → base.Ns mainGlobals mg → TkB K base mg → FnG P w K mg base CX k fa fd [x] sp) (hbind : ∀ (s : Shared) (u : Value), BindsTo s fd ⟨[u], []⟩ [(x, u)])
    (hsp : ∀ H : Hp, Tb K H → SqL K H a (ns.map V.int) → sp [.ref a] H (fun v _ => v = .bl true) fun _ _ _ => False)
    (hCX : ∀ H e u, CX [] H t (fun _ _ _ => False) e u → False) :
    codeAny (model P w) callerA (.call (.ref fa) ⟨[.ref a], []⟩) (fun r u => r = .ok (.ret (.bool true)) ∧ OldK t.heap u.heap ∧ u.os = t.os ∧ AllBare u.gens) t := by
  have rv := vals_ints hi
  have lenV := hi.length
  let ts : List Addr := (TKc K).map (·.2.1)
  have tsE : ∀ {b : Addr}, b ∈ ts → ∃ p ∈ TKc K, p.2.1 = b := fun {b} m => List.mem_map.mp m
  have empt : ∀ {b : Addr}, b ∈ ts → t.heap.get? b = some { cls := .none, data := .fields #[] } := fun {b} m => by
    obtain ⟨p, hp, rfl⟩ := tsE m
    exact tk.empty p hp
  have kout : ∀ {b : Addr}, b ∈ ts → K.lookup b = none := fun {b} m => by
    obtain ⟨p, hp, rfl⟩ := tsE m
    exact tk.out p hp
  have ats : a ∉ ts := fun m => by
    have e := empt m
    rw [ha] at e
    exact nomatch (show Data.seq vs.toArray _ = Data.fields #[] from congrArg Obj.data (Option.some.inj e))
  have core : ∀ H : Hp, (∀ b ∈ ts, H b = some (.tbl #[])) → (∀ b, b ∉ ts → H b = none ∨ ∃ o xs, H b = some (.frz o (.lst xs))) → SqL K H a (ns.map V.int) → HOk P w H t.heap → (∀ b, H b ≠ none → b ∉ ts → b = a) → (H a ≠ none → K.lookup a = none) →
      codeAny (model P w) callerA (.call (.ref fa) ⟨[.ref a], []⟩) (fun r u => r = .ok (.ret (.bool true)) ∧ OldK t.heap u.heap ∧ u.os = t.os ∧ AllBare u.gens) t := by
    intro H hT hO hS hok hA hK
    have get : ∀ {b : Addr} {o : Obj}, t.heap.get? b = some o → H b = none → (hidT t.heap H).get? b = some o := fun e n => hidT_get e n
    have nod : ∀ {b : Addr} {o : Obj}, t.heap.get? b = some o → (∀ us n, o.data ≠ .seq us n) → o.data ≠ .fields #[] → H b = none := fun {b o} e d1 d2 => by
      rcases q : H b with _ | u
      · rfl
      · by_cases m : b ∈ ts
        · rw [empt m] at e; cases e; exact (d2 rfl).elim
        · obtain rfl : b = a := hA b (by rw [q]; simp) m
          rw [ha] at e; cases e; exact (d1 _ _ rfl).elim
    have dic : ∀ {b : Addr} {o : Obj} {es : Array DictEntry} {ep : Nat}, t.heap.get? b = some o → o.data = .dict es ep → H b = none := fun {b o es ep} e d =>
      nod e (fun us n z => by rw [d] at z; cases z) fun z => by rw [d] at z; cases z
    have ns' : ∀ {b : Addr} {m : Str → Option Value}, t.heap.Ns b m → (hidT t.heap H).Ns b m := fun {b m} ⟨o, es, ep, e, d, r⟩ => ⟨o, es, ep, get e (dic e d), d, r⟩
    have inK : K.In (hidT t.heap H) := fun b o e => get (KX b o e) (by
      rcases q : H b with _ | u
      · rfl
      · by_cases m : b ∈ ts
        · rw [kout m] at e; cases e
        · obtain rfl : b = a := hA b (by rw [q]; simp) m
          rw [hK (by rw [q]; simp)] at e; cases e)
    have mo : Mod K mg (hidT t.heap H) := ⟨inK, ns' hns, ⟨mb, ns' hb, hbb⟩, let ⟨mc, h1, h2⟩ := hlim; ⟨mc, ns' h1, h2⟩⟩
    have tb : TkB K (hidT t.heap H) mg := tkB_of inK (ns' hns) (by
      obtain ⟨bm, ob, b1, b2, b3, b4, b5, b6⟩ := hbm
      exact ⟨bm, ob, b1, b2, get b3 (nod b3 (fun us n z => by rw [b6] at z; cases z) fun z => by rw [b6] at z; cases z), b4, b5, b6⟩) tk fun p hp o e => by
        have e2 := (of_hidT e).1
        rw [tk.empty p hp] at e2
        cases e2; rfl
    have nil_ : ∀ {b : Addr}, b ∉ ([] : List Addr) := fun h => nomatch h
    have e0 : Env0 P w K mg (hidT t.heap H) callerA [] t H := ⟨rfl, mo, fun b o e => of_hidT e, Nat.le_of_eq (hidT_size _ _), trivial, fun b hb => absurd hb nil_, hok, .of_eq hg⟩
    have hTb : Tb K H := fun p hp => by
      obtain ⟨q, hq, rfl⟩ := List.mem_map.mp hp
      exact LamX.TabS.nil (hT _ (List.mem_map.mpr ⟨q, hq, rfl⟩))
    refine codeAny_mono ((F _ inK (ns' hns) tb).go callerA [] t H ⟨[.ref a], []⟩ [.ref a] [.ref a] _ _ rfl hr e0 (hbind t (.ref a)) (.cons rfl .nil) (hsp H hTb hS)) fun r u h => ?_
    match r, h with
    | .error e, h => exact (hCX H e u h).elim
    | .ok .next, h => exact False.elim h
    | .ok .brk, h => exact False.elim h
    | .ok .cont, h => exact False.elim h
    | .ok (.ret z), ⟨v, H', os, bare, un, hok', r', q⟩ =>
      obtain rfl : v = .bl true := q
      obtain rfl : z = Value.bool true := r'
      have kept : ∀ b o, b ∉ ts → t.heap.get? b = some o → u.heap.get? b = some o := fun b o nb e => by
        rcases q : H b with _ | c
        · exact un.keep b o e q (fun z => absurd z nil_) (by simp)
        · rcases hO b nb with z | ⟨ob, xs, z⟩
          · rw [q] at z; cases z
          · obtain ⟨e1, _⟩ := hok b _ z
            obtain ⟨e2, _⟩ := hok' b _ (un.frzs b ob _ z)
            rw [e] at e1; cases e1
            exact e2
      have grew : ∀ b ∈ ts, ∃ more : Array Value, u.heap.get? b = some { cls := .none, data := .fields more } := fun b m => by
        obtain ⟨more, z⟩ := un.tbls b #[] (hT b m)
        exact ⟨_, hok' b _ z⟩
      refine ⟨rfl, ⟨fun b o e => ?_, fun b o e => ?_⟩, os, bare⟩
      · by_cases m : b ∈ ts
        · obtain ⟨more, hm⟩ := grew b m
          have e1 := empt m
          rw [e] at e1
          cases e1
          obtain ⟨p, hp, rfl⟩ := tsE m
          have cd := PySem.W.codeHd_of_K KX (tk.hd p hp)
          refine .inr (.inl ⟨(cd.tab e).isCodeTable, rfl, #[], more, rfl, ?_⟩)
          rw [hm]; simp
        · exact .inl (kept b o m e)
      · by_cases m : b ∈ ts
        · obtain ⟨more, hm⟩ := grew b m; exact ⟨_, hm⟩
        · exact ⟨o, kept b o m e⟩
  let tbl : Hp := fun b => if b ∈ ts then some (.tbl #[]) else none
  have ty : ∀ {b}, b ∈ ts → tbl b = some (.tbl #[]) := fun h => if_pos h
  have tn : ∀ {b}, b ∉ ts → tbl b = none := fun h => if_neg h
  rcases hk : K.lookup a with _ | o
  · let O : Obj := { cls := .type "list", data := .seq vs.toArray }
    let G : Hp := fun b => if b = a then some (.frz O (.lst (ns.map V.int))) else tbl b
    have yes : ∀ {b}, b = a → G b = some (.frz O (.lst (ns.map V.int))) := fun h => if_pos h
    have no : ∀ {b}, b ≠ a → G b = tbl b := fun h => if_neg h
    refine core G (fun b m => (no (by rintro rfl; exact ats m)).trans (ty m)) (fun b nb => ?_) (.inl (.inr ⟨O, yes rfl⟩)) (fun b u z => ?_) (fun b z m => ?_) fun _ => hk
    · by_cases h : b = a
      · exact .inr ⟨_, _, yes h⟩
      · exact .inl ((no h).trans (tn nb))
    · by_cases h : b = a
      · rw [yes h] at z
        cases z
        subst h
        exact ⟨ha, by rw [List.length_map]; exact hl, vs, _, rv, ha⟩
      · rw [no h] at z
        by_cases m : b ∈ ts
        · rw [ty m] at z; cases z; exact empt m
        · rw [tn m] at z; cases z
    · by_cases h : b = a
      · exact h
      · exact absurd ((no h).trans (tn m)) z
  · have e := KX a o hk
    rw [ha] at e
    cases e
    refine core tbl (fun b m => ty m) (fun b nb => .inl (tn nb)) (.inr ⟨_, vs.toArray, _, hk, rfl, rfl, rfl, by rw [List.size_toArray, lenV]; exact hl, by simpa using rv⟩) (fun b u z => ?_) (fun b z m => absurd (tn m) z) fun z => absurd (tn ats) z
    by_cases m : b ∈ ts
    · rw [ty m] at z; cases z; exact empt m
    · rw [tn m] at z; cases z
theorem ints_sql {K : Frag} {F : Hp} {ns : List Int} : HasL K F (ns.map V.int) (ns.map PyData.int) := by
  induction ns with
  | nil => exact .nil
  | cons n ns ih => exact .cons (.int n) ih
/-- the promise of a law's def, from its mirror -/
theorem spM_law {K : Frag} {mf : FM} {H : Hp} {a : Addr} {ns : List Int} {ys : List Val} {E : XK} (tb : Tb K H) (h : SqL K H a (ns.map V.int)) (e : mf [.scr (ns.map PyData.int)] = some (.dat (.bool true), ys)) : spM K mf [.ref a] H (fun v _ => v = .bl true) E := by
  refine ⟨H, H, fun _ => a, _, _, ys, ⟨Le.refl _, Le.refl _, tb, rfl, ?_, ?_, ?_, ?_, ?_⟩, e, fun F' H' v _ _ P => ?_⟩
  · intro i d z
    match i, z with
    | 0, z => cases z
    | n + 1, z => cases z
  · intro i x ds z m
    match i, z with
    | 0, z => cases z; cases m
    | n + 1, z => cases z
  · intro i ds z
    match i, z with
    | 0, z => cases z
    | n + 1, z => cases z
  · intro i ds z
    match i, z with
    | 0, z => cases z; exact ⟨a, _, rfl, h, ints_sql⟩
    | n + 1, z => cases z
  · intro i j x y ds es b z _ m _ _ _
    match i, z with
    | 0, z => cases z; cases m
    | n + 1, z => cases z
  · cases (show Has K F' v (.bool true) from P); rfl
/-- A LAW, from what its head gives and its mirror -/
theorem walk_ofG {l : PySem.W.OpenLaw} {n k : Nat} {q : Program} {loose : List Str} {XP : (Str → Option Value) → Heap → Prop} {YP : World → Heap → Prop} {d : DefRec} {CX : CXT} {x : Str} {mf : FM}
    (hn : l.most = some n) (hn2 : n ≤ sizeLine) (hdf : d.params.defaults = []) (hr : Room k callerA)
    (F : ∀ (w : World) (mg : Str → Option Value) (fa : Addr) (h : Heap), YP w h → h.Ns mainGlobals mg → BmAt h mg → mg d.name = some (.ref fa) →
      ∃ (K : PySem.W.Frag) (fd : FuncData), K.In h ∧ TkH K h ∧ (∀ (s : Shared) (u : Value), BindsTo s fd ⟨[u], []⟩ [(x, u)]) ∧
        ∀ base : Heap, K.In base → base.Ns mainGlobals mg → TkB K base mg → FnG l.prog w K mg base CX k fa fd [x] (spM K mf))
    (hm : ∀ ns : List Int, ns.length ≤ n → ∃ ys, mf [.scr (ns.map PyData.int)] = some (.dat (.bool true), ys))
    (hCX : ∀ (H : Hp) (s : Shared) (e : Value) (u : Shared), CX [] H s (fun _ _ _ => False) e u → False) :
    PySem.W.WalkO q loose XP YP l.row.toRowW d [] (fun f vs => PySem.call f vs) := by
  refine Att.attach_call hn hdf fun w s₀ t mg mb fa o pm cd doc a vs ns G Y ho hd hcd hmg hobj hints hlen hg => ?_
  obtain ⟨K, fd, KX, tk, hb, hF⟩ := F w mg fa _ Y G.T.g G.T.bmain hmg
  obtain ⟨ys, hy⟩ := hm ns hlen
  exact law_callG KX G.T.g G.T.b G.T.builtins G.T.nolimit hg G.T.bmain tk hobj hints (Nat.le_trans hlen hn2) hr hF hb (fun H hT hS => spM_law hT hS hy) fun H e u => hCX H t e u
end DL
/-! DlK: a def by its facts and its mirror. -/
namespace DL
open PySem PySem.Spec PyProof.Rows L2
end DL
namespace DL
open PySem PySem.Spec PyProof.Rows PySem.W L2
/-! ### the facts of an error's class -/
def rtBase : List Value := [.type "RuntimeError", .type "Exception", .type "BaseException", .type "object"]
inductive XF where
  | exc (x : Str) | kit (x y : Str) (b : Bool)
def XF.ok (K : Frag) : XF → Bool
  | .exc x => excIn K (He.ga K x) rtBase "RuntimeError.__new__" && (keepIn K (.ref (He.ga K x)) && (decide (subIn K (.ref (He.ga K x)) (.type "BaseException") = some true) && (decide (typeIn K (.ref (He.ga K x)) = some (.type "type")) && (decide (exmOne K (.ref (He.ga K x)) (.ref (He.ga K x)) = some true) &&
      (He.eqO (nsIn K mainGlobals x) (some (some (.ref (He.ga K x)))) && (He.eqO (findIn K (.ref (He.ga K x)) "__getattribute__") (some (some (.builtin "BaseException.__getattribute__"))) && (He.eqO (findIn K (.ref (He.ga K x)) "__getattr__") (some none) && (hasDictIn K (He.ga K x) &&
      (He.eqO (findIn K (.ref (He.ga K x)) "__class__") (some (some (.builtin "object.__class__"))) && (decide (specialIn K (.builtin "object.__class__") "__get__" = some (some (.builtin "getset_descriptor.__get__"))) && (decide (takesIn K (.builtin "object.__class__") = some true) && decide (mroIn K (He.ga K x) (.type "object") = some true))))))))))))
  | .kit x y b => decide (kitOne K (.ref (He.ga K x)) (.ref (He.ga K y)) = some b) && He.eqO (nsIn K mainGlobals y) (some (some (.ref (He.ga K y))))
structure ExcOk (K : Frag) (mg : Str → Option Value) (x : Str) : Prop where
  q : excIn K (He.ga K x) rtBase "RuntimeError.__new__" = true
  k : keepIn K (.ref (He.ga K x)) = true
  b : subIn K (.ref (He.ga K x)) (.type "BaseException") = some true
  t : typeIn K (.ref (He.ga K x)) = some (.type "type")
  m : exmOne K (.ref (He.ga K x)) (.ref (He.ga K x)) = some true
  g : mg x = some (.ref (He.ga K x))
  c : ExcC K (He.ga K x)
theorem excOk_of {K : Frag} {mg : Str → Option Value} {h : Heap} {x : Str} (KX : K.In h) (G : h.Ns mainGlobals mg) (e : (XF.exc x).ok K = true) : ExcOk K mg x := by
  obtain ⟨h1, e⟩ := He.ba e
  obtain ⟨h2, e⟩ := He.ba e
  obtain ⟨h3, e⟩ := He.ba e
  obtain ⟨h4, e⟩ := He.ba e
  obtain ⟨h5, e⟩ := He.ba e
  obtain ⟨h6, e⟩ := He.ba e
  obtain ⟨h7, e⟩ := He.ba e
  obtain ⟨h8, e⟩ := He.ba e
  obtain ⟨h9, e⟩ := He.ba e
  obtain ⟨h10, e⟩ := He.ba e
  obtain ⟨h11, e⟩ := He.ba e
  obtain ⟨h12, h13⟩ := He.ba e
  exact ⟨h1, h2, of_decide_eq_true h3, of_decide_eq_true h4, of_decide_eq_true h5, mg_of KX G (He.eqO_ok h6), ⟨He.eqO_ok h7, He.eqO_ok h8, of_decide_eq_true h3, h9, He.eqO_ok h10, of_decide_eq_true h11, of_decide_eq_true h12, of_decide_eq_true h13⟩⟩
structure KitOk (K : Frag) (mg : Str → Option Value) (x y : Str) (b : Bool) : Prop where
  k : kitOne K (.ref (He.ga K x)) (.ref (He.ga K y)) = some b
  g : mg y = some (.ref (He.ga K y))
theorem kitOk_of {K : Frag} {mg : Str → Option Value} {h : Heap} {x y : Str} {b : Bool} (KX : K.In h) (G : h.Ns mainGlobals mg) (e : (XF.kit x y b).ok K = true) : KitOk K mg x y b := by
  obtain ⟨h1, h2⟩ := He.ba e
  exact ⟨of_decide_eq_true h1, mg_of KX G (He.eqO_ok h2)⟩
end DL
namespace DL
open PySem PySem.Spec PyProof.Rows L2
/-! ### a Hook that sees sys.modules, errors' classes and the tables of code objects -/
def smB (K : Frag) : Bool := match K.lookup sysModules with
  | some o => (match o.cls with
    | .type c => decide (c = "dict")
    | _ => false)
  | none => false
theorem smB_ok {K : Frag} (h : smB K = true) : SM K := by
  unfold smB at h
  cases q : K.lookup sysModules with
  | none => rw [q] at h; cases h
  | some o =>
    rw [q] at h
    have h : (match o.cls with
      | .type c => decide (c = "dict")
      | _ => false) = true := h
    cases e : o.cls with
    | type c =>
      rw [e] at h
      exact ⟨o, q, by rw [e, show c = "dict" from of_decide_eq_true h]⟩
    | _ => rw [e] at h; cases h
/-- .. each table is empty, told of its code object, no two alike -/
def tkB (g : Addr → Option Obj) (K : Frag) : Bool := ((TKc K).all fun p => PySem.W.codeHdIn K p.1 p.2.1 && (match g p.2.1 with
  | some o => He.emptyTab o
  | none => false)) && decide ((TKc K).map (·.2.1)).Nodup
/-- what is told: the facts of K, sys.modules a dict, the defs' tables: empty, not in K -/
structure SaysY (fa : List He.Fa) (fn : List He.DefD) (tf : List He.Defn) (xf : List XF) (h : Heap) (K : Frag) : Prop where
  d : He.SaysD fa fn K
  sm : SM K
  xs : xf.all (XF.ok K) = true
  tk : TkH K h
abbrev AlY : Type := He.AlD × Bool
def frY (g : Addr → Option Obj) (n : Nat) : Frag := He.frT g (sysModules :: He.asD g n)
def obsY (n : Nat) (fa : List He.Fa) (fn : List He.DefD) (tf : List He.Defn) (xf : List XF) (g : Addr → Option Obj) : AlY := (He.obsD fa fn (frY g n), (smB (frY g n) && xf.all (XF.ok (frY g n))) && tkB g (frY g n))
def valY (fn : List He.DefD) : AlY := (He.valD fn, true)
theorem saysY_of {n : Nat} {fa : List He.Fa} {fn : List He.DefD} {tf : List He.Defn} {xf : List XF} {h : Heap} (e : obsY n fa fn tf xf h.get? = valY fn) : SaysY fa fn tf xf h (frY h.get? n) := by
  have e1 : He.obsD fa fn (frY h.get? n) = He.valD fn := congrArg (fun z : AlY => z.1) e
  have e2 : ((smB (frY h.get? n) && xf.all (XF.ok (frY h.get? n))) && tkB h.get? (frY h.get? n)) = true := congrArg (fun z : AlY => z.2) e
  obtain ⟨h0, h2⟩ := He.ba e2
  obtain ⟨h1, hx⟩ := He.ba h0
  obtain ⟨h2, hn⟩ := He.ba h2
  have key : ∀ p ∈ TKc (frY h.get? n), PySem.W.codeHdIn (frY h.get? n) p.1 p.2.1 = true ∧ ∃ o, h.get? p.2.1 = some o ∧ He.emptyTab o = true := fun p hp => by
    obtain ⟨h3, h4⟩ := He.ba (List.all_eq_true.mp h2 p hp)
    refine ⟨h3, ?_⟩
    rcases q : h.get? p.2.1 with _ | o
    · rw [q] at h4; cases h4
    · rw [q] at h4; exact ⟨o, rfl, h4⟩
  refine ⟨e1, smB_ok h1, hx, ⟨fun p hp => (key p hp).1, fun p hp => ?_, fun p hp => ?_, of_decide_eq_true hn⟩⟩
  · obtain ⟨_, o, q, z⟩ := key p hp
    exact He.frT_none q z
  · obtain ⟨_, o, q, z⟩ := key p hp
    rw [q, He.emptyTab_eq z]
def hookY (n : Nat) (fa : List He.Fa) (fn : List He.DefD) (tf : List He.Defn) (xf : List XF) : PySem.W.Hook where
  α := AlY
  obs := fun s => obsY n fa fn tf xf s.heap.get?
  val := fun _ => valY fn
  says := fun _ h => ∃ K : Frag, K.In h ∧ SaysY fa fn tf xf h K
  of := fun _ _ e => ⟨_, He.frT_in, saysY_of e⟩
  keeps := fun _ _ _ ⟨K, hK, c⟩ k => ⟨K, PySem.W.Frag.In.keeps hK k, ⟨c.d, c.sm, c.xs, ⟨c.tk.hd, c.tk.out, fun p hp => k _ _ (c.tk.empty p hp), c.tk.nd⟩⟩⟩
theorem obsY_eq {n : Nat} {fa : List He.Fa} {fn : List He.DefD} {tf : List He.Defn} {xf : List XF} {g : Addr → Option Obj} {s : Shared} (h : ∀ a, g a = s.heap.get? a) : obsY n fa fn tf xf g = (hookY n fa fn tf xf).obs s := by
  have e : g = s.heap.get? := funext h
  rw [e]; rfl
/-- what the head gives -/
structure Facts (fa : List He.Fa) (fn : List He.DefD) (xf : List XF) (K : Frag) (mg : Str → Option Value) (base : Heap) : Prop where
  ex : ∃ h : Heap, K.In h ∧ h.Ns mainGlobals mg ∧ He.SaysD fa fn K
  sm : SM K
  xs : xf.all (XF.ok K) = true
  tk : TkB K base mg
/-- the running def's own table -/
structure TabX (X : Cx) : Prop where
  ex : ∃ c P, X.env.code = .ref c ∧ LamX.TabB X.base X.mg c P ∧ (P, X.env.qual ++ "<lambda>") ∈ TK X.K ∧ ∀ p ∈ TK X.K, p.1 = P → p.2 = X.env.qual ++ "<lambda>"
theorem mem_lookup {K : Frag} {a : Addr} {o : Obj} (h : K.lookup a = some o) : (a, o) ∈ K := by
  induction K with
  | nil => cases h
  | cons p K ih =>
    obtain ⟨b, u⟩ := p
    rw [List.lookup_cons] at h
    split at h
    · rename_i e
      have e' : a = b := by simpa using e
      cases h
      subst e'
      exact List.mem_cons_self ..
    · exact List.mem_cons_of_mem _ (ih h)
theorem nodup_inj {α β : Type} {f : α → β} : ∀ {l : List α}, (l.map f).Nodup → ∀ {a b : α}, a ∈ l → b ∈ l → f a = f b → a = b
  | [], _, _, _, h, _, _ => nomatch h
  | c :: l, n, a, b, h1, h2, e => by
    rw [List.map_cons, List.nodup_cons] at n
    have no : ∀ {z : α}, z ∈ l → f c ≠ f z := fun m q => n.1 (List.mem_map.mpr ⟨_, m, q.symm⟩)
    rcases List.mem_cons.mp h1 with k1 | k1
    · rcases List.mem_cons.mp h2 with k2 | k2
      · rw [k1, k2]
      · exact absurd (by rw [← k1]; exact e) (no k2)
    · rcases List.mem_cons.mp h2 with k2 | k2
      · exact absurd (by rw [← k2]; exact e.symm) (no k1)
      · exact nodup_inj n.2 k1 k2 e
theorem tabX_of {X : Cx} {K : Frag} {base : Heap} {mg : Str → Option Value} {f : Addr} {x qual : Str} {params : Arguments} {body : List Stmt} {scope : Scope} {cdv : Value} (t : TkB K base mg) (h : CdOf K f x qual params body scope cdv)
    (e1 : X.K = K) (e2 : X.base = base) (e3 : X.mg = mg) (e4 : X.env.code = cdv) (e5 : X.env.qual = qual ++ ".<locals>.") : TabX X := by
  obtain ⟨oc, od, dV, kV, doc, pm, an, ct, osl, lk, hcd⟩ := h
  obtain ⟨c, rfl⟩ := He.codeIn_ref hcd
  have hm : (c, He.tabOf K c, qual ++ ".<locals>." ++ "<lambda>") ∈ TKc K := List.mem_filterMap.mpr ⟨_, mem_lookup lk, rfl⟩
  refine ⟨⟨c, He.tabOf K c, e4, by rw [e2, e3]; exact t.tb _ hm, ?_, fun p hp e => ?_⟩⟩
  · rw [e1, e5]; exact List.mem_map.mpr ⟨_, hm, rfl⟩
  · rw [e1] at hp
    obtain ⟨q, hq, rfl⟩ := List.mem_map.mp hp
    have := nodup_inj t.nd hq hm e
    rw [this, e5]
section
variable {fa : List He.Fa} {fn : List He.DefD} {xf : List XF} {K : Frag} {mg : Str → Option Value} {base : Heap}
theorem Facts.glo (c : Facts fa fn xf K mg base) (i : Nat) {x : Str} (h : fa[i]? = some (.glo x) := by rfl) : mg x = some (.ref (He.fAd K (x, none))) := by
  obtain ⟨⟨hp, h1, h2, h3⟩, _, _, _⟩ := c
  exact He.glo_ok h1 h2 (h3.fact i h)
theorem Facts.free (c : Facts fa fn xf K mg base) (i : Nat) {x : Str} (h : fa[i]? = some (.free x) := by rfl) : mg x = none := by
  obtain ⟨⟨hp, h1, h2, h3⟩, _, _, _⟩ := c
  exact He.free_ok h1 h2 (h3.fact i h)
theorem Facts.int (c : Facts fa fn xf K mg base) (i : Nat) {x : Str} {n : Int} (h : fa[i]? = some (.int x n) := by rfl) : ∃ t, mg x = some (.int n t) := by
  obtain ⟨⟨hp, h1, h2, h3⟩, _, _, _⟩ := c
  exact He.int_ok h1 h2 (h3.fact i h)
theorem Facts.def_ (c : Facts fa fn xf K mg base) (i : Nat) {x : Str} {st : Stmt} (h : fn[i]? = some ⟨(x, none), x, x, defArgs st, defBody st, defScope st, [], []⟩ := by rfl) : ∃ fd, FunD K x x (defArgs st) (defBody st) (defScope st) [] [] (He.fAd K (x, none)) fd := by
  obtain ⟨⟨hp, h1, h2, h3⟩, _, _, _⟩ := c
  exact h3.def_ i h
end
section
variable {fa : List He.Fa} {fn : List He.DefD} {xf : List XF} {K : Frag} {mg : Str → Option Value} {base : Heap}
theorem Facts.exc (c : Facts fa fn xf K mg base) (i : Nat) {x : Str} (h : xf[i]? = some (.exc x) := by rfl) : ExcOk K mg x := by
  obtain ⟨⟨hp, h1, h2, h3⟩, _, h4, _⟩ := c
  exact excOk_of h1 h2 (List.all_eq_true.mp h4 _ (List.mem_of_getElem? h))
theorem Facts.kit (c : Facts fa fn xf K mg base) (i : Nat) {x y : Str} {b : Bool} (h : xf[i]? = some (.kit x y b) := by rfl) : KitOk K mg x y b := by
  obtain ⟨⟨hp, h1, h2, h3⟩, _, h4, _⟩ := c
  exact kitOk_of h1 h2 (List.all_eq_true.mp h4 _ (List.mem_of_getElem? h))
end
/-- a def of the text, walked -/
structure Fn (P : Program) (w : World) (K : Frag) (mg : Str → Option Value) (base : Heap) (k : Nat) (x : Str) (st : Stmt) (ps : List Str) (mf : FM) : Prop where
  ex : ∃ f fd, FunD K x x (defArgs st) (defBody st) (defScope st) [] [] f fd ∧ mg x = some (.ref f) ∧ Binds K fd ps [] ∧ FnG P w K mg base CX0 k f fd ps (spM K mf)
/-- its arguments are taken as they stand -/
abbrev Plain (x : Str) (st : Stmt) (ps : List Str) : Prop := ∀ (kV doc pm : Value) (an : Option Addr) (cdv ct : Value) (us : List Value), us.length = ps.length → bindArgs (PySem.W.fnOf x x (defArgs st) (defBody st) (defScope st) .none kV doc pm an cdv ct) ⟨us, []⟩ = pure (ps.zip us)
theorem room_units {k : Nat} {A : Around} (r : Room k A) : A.units + 65 < cLine := by have := r.un; omega
theorem room_units' {k : Nat} {A : Around} (r : Room k A) : A.units + 64 < cLine := by have := r.un; omega
theorem Fn.of {fa : List He.Fa} {fn : List He.DefD} {xf : List XF} {P : Program} {w : World} {K : Frag} {mg : Str → Option Value} {base : Heap} {k : Nat} {x : Str} {st : Stmt} {N ps : List Str} {m : Ms} (c : Facts fa fn xf K mg base) (i j : Nat) (S : FnScope N ps (defScope st)) (pl : Plain x st ps)
    (bd : ∀ (f : Addr) (cdv : Value) (A : Around) (fr : List Env) (s : Shared) (H : Hp) (E : XK) (pa : Nat → Addr), (A.deeper (envOfC x (defScope st) s.heap.objs.size f cdv)).guards = some [] → Room k (A.deeper (envOfC x (defScope st) s.heap.objs.size f cdv)) → TabX (cxOf CX0 P w K mg base N x (defScope st) f cdv A fr s H E).nox →
      DSs (cxOf CX0 P w K mg base N x (defScope st) f cdv A fr s H E).nox pa (defBody st) m)
    (hf : fn[i]? = some ⟨(x, none), x, x, defArgs st, defBody st, defScope st, [], []⟩ := by rfl) (hg : fa[j]? = some (.glo x) := by rfl) : Fn P w K mg base (k + 1) x st ps (mfOf ps.length N.length m) := by
  obtain ⟨fd, F⟩ := c.def_ i hf
  exact ⟨_, fd, F, c.glo j hg, F.bindsN pl, FnG.data F S fun cdv A fr s H E pa h1 h2 h3 => PSs.nox (bd _ cdv A fr s H E pa h1 h2 (tabX_of c.tk h3 rfl rfl rfl rfl rfl))⟩
section
variable {X : Cx} {pa : Nat → Addr} {k j : Nat} {x : Str} {st : Stmt} {ps : List Str} {mf : FM} {p pos : Pos} {e : Expr} {es : List Expr} {ms mk : Mr (List RV)} {kws : List Keyword}
abbrev FnX (X : Cx) (k : Nat) (x : Str) (st : Stmt) (ps : List Str) (mf : FM) : Prop := Fn X.prog X.w X.K X.mg X.base k x st ps mf
theorem de_f (F : FnX X k x st ps mf) (hgu : X.A.guards = some []) (hr : Room j X.A) (ha : DA X pa (e :: es) ms) (hj : k ≤ j := by decide) (hg : Gl X x := by rfl) (hdb : (x == ("__debug__" : Str)) = false := by decide)
    (he : starEach (e :: es) X.env = (false, eval e X.env) :: starEach es X.env := by rfl) (hpl : (backTo pos (starEach es X.env)).any (·.1) = false := by rfl) : DE X pa (.Call (.Name x p) (e :: es) [] pos) (mCall mf ms) := by
  obtain ⟨f, fd, D, h1, h2, h3⟩ := F.ex
  exact de_call h3 hgu (hr.mono hj) hg h1 D.kp h2 pass0 (E := E0) ha hdb he hpl
theorem de_fP (F : FnX X k x st ps mf) (hgu : X.A.guards = some []) (hr : Room j X.A) (ha : DA X pa (e :: es) ms) (hj : k ≤ j := by decide) (hg : Gl X x := by rfl) (hdb : (x == ("__debug__" : Str)) = false := by decide)
    (he : starEach (e :: es) X.env = (false, eval e X.env) :: starEach es X.env := by rfl) (hpl : (backTo pos (starEach es X.env)).any (·.1) = false := by rfl) : DE X pa (.Call (.Name x p) (e :: es) [] pos) (mCallP mf ms) := by
  obtain ⟨f, fd, D, h1, h2, h3⟩ := F.ex
  exact de_callP h3 hgu (hr.mono hj) hg h1 D.kp h2 pass0 (E := E0) ha hdb he hpl
theorem de_fN (F : FnX X k x st ps mf) (hgu : X.A.guards = some []) (hr : Room j X.A) {m : Mr RV} (ha : DE X pa e m) (hj : k ≤ j := by decide) (hg : Gl X x := by rfl) (hdb : (x == ("__debug__" : Str)) = false := by decide)
    (he : starEach [e] X.env = (false, eval e X.env) :: starEach [] X.env := by rfl) (hpl : (backTo pos (starEach [] X.env)).any (·.1) = false := by rfl) : DE X pa (.Call (.Name x p) [e] [] pos) (mCallN mf m) := by
  obtain ⟨f, fd, D, h1, h2, h3⟩ := F.ex
  exact de_callN h3 hgu (hr.mono hj) hg h1 D.kp h2 pass0 (E := E0) ha hdb he hpl
/-- a def's arguments by keywords: the values us positional, ws by their names -/
abbrev PlainK (x : Str) (st : Stmt) (ps : List Str) (n : Nat) (ks : List Str) (perm : List Nat) : Prop := ∀ (kV doc pm : Value) (an : Option Addr) (cdv ct : Value) (us ws : List Value), us.length = n → ws.length = ks.length →
  bindArgs (PySem.W.fnOf x x (defArgs st) (defBody st) (defScope st) .none kV doc pm an cdv ct) ⟨us, ks.zip ws⟩ = pure (ps.zip (perm.filterMap fun i => (us ++ ws)[i]?))
theorem FunD.bindK {K : Frag} {fd : FuncData} {f : Addr} {n : Nat} {ks : List Str} {perm : List Nat} (D : FunD K x x (defArgs st) (defBody st) (defScope st) [] [] f fd) (h : PlainK x st ps n ks perm) : BindK K fd ps n ks perm := by
  obtain ⟨oc, od, dV, kV, doc, pm, an, cdv, ct, osl, rfl, lk, hcd, hD, hK⟩ := D.ex
  rcases hD with ⟨_, rfl⟩ | ⟨e, _⟩
  · exact ⟨fun s us ws l1 l2 => .of_eq (h kV doc pm an cdv ct us ws l1 l2)⟩
  · exact absurd rfl e
theorem de_fK0 {ks : List Str} {perm : List Nat} (F : FnX X k x st ps mf) (b : PlainK x st ps 0 ks perm) (hgu : X.A.guards = some []) (hr : Room j X.A) (hkw : DK X pa kws mk) (hj : k ≤ j := by decide) (hg : Gl X x := by rfl)
    (hall : (backToKw pos (keywordEach kws X.env)).all (·.1.isSome) = true := by rfl) (hks : (backToKw pos (keywordEach kws X.env)).filterMap (·.1) = ks := by rfl)
    (hdb : (x == ("__debug__" : Str)) = false := by decide) (hpl : ((backTo pos (starEach [] X.env)).any (·.1) || (backToKw pos (keywordEach kws X.env)).any (·.1.isNone)) = false := by rfl) :
    DE X pa (.Call (.Name x p) [] kws pos) (mCallK mf 0 ks.length perm mNil mk) := by
  obtain ⟨f, fd, D, h1, h2, h3⟩ := F.ex
  exact de_callK0 h3 hgu (hr.mono hj) hg h1 D.kp (FunD.bindK D b) pass0 (E := E0) hkw hall hks hdb hpl
end
/-- THE LAW, from its facts: the last def's walk and the mirror's answer -/
theorem walk_fn {l : PySem.W.OpenLaw} {n k : Nat} {q : Program} {loose : List Str} {XP : (Str → Option Value) → Heap → Prop} {d : DefRec} {fa : List He.Fa} {fn : List He.DefD} {st : Stmt} {x : Str} {mf : FM} {nn : Nat} {tf : List He.Defn} {xf : List XF}
    (hn : l.most = some n) (hn2 : n ≤ sizeLine) (hdf : d.params.defaults = []) (hr : Room k callerA) (hd : d.name = ("law" : Str)) (pl : Plain "law" st [x])
    (F : ∀ (w : World) (K : Frag) (mg : Str → Option Value) (base : Heap), Facts fa fn xf K mg base → Fn l.prog w K mg base k "law" st [x] mf)
    (hm : ∀ ns : List Int, ns.length ≤ n → ∃ ys, mf [.scr (ns.map PyData.int)] = some (.dat (.bool true), ys)) :
    PySem.W.WalkO q loose XP (hookY nn fa fn tf xf).says l.row.toRowW d [] (fun f vs => PySem.call f vs) :=
  walk_ofG hn hn2 hdf hr (fun w mg a h ⟨K, KX, c⟩ G hbm hmg => by
    rw [hd] at hmg
    obtain ⟨f, fd, D, h1, h2, h3⟩ := (F w K mg h ⟨⟨h, KX, G, c.d⟩, c.sm, c.xs, tkB_of KX G hbm c.tk fun p hp o e => by rw [c.tk.empty p hp] at e; cases e; rfl⟩).ex
    have e := hmg.symm.trans h1
    cases e
    refine ⟨K, fd, KX, c.tk, fun s u => FunD.bindsA D pl s [u] rfl, fun base kb nb tb => ?_⟩
    obtain ⟨f', fd', D', g1, g2, g3⟩ := (F w K mg base ⟨⟨h, KX, G, c.d⟩, c.sm, c.xs, tb⟩).ex
    have e := h1.symm.trans g1
    cases e
    obtain ⟨oc, od, dV, kV, doc, pm, an, cdv, ct, osl, e1, lk, _⟩ := D.ex
    obtain ⟨oc', od', dV', kV', doc', pm', an', cdv', ct', osl', e2, lk', _⟩ := D'.ex
    rw [lk] at lk'
    cases lk'
    exact g3) hm fun _ _ _ _ z => z
end DL
namespace HD
open PySem PySem.Spec PyProof.Rows L2
def top (i : Nat) : Stmt := PySem.Challenge.pw_evenerrows_k10_any_value_as_row_paper_ch.main.body.getD i (.Pass ⟨0, 0, 0, 0⟩)
def fn0 : List He.DefD := [⟨("is_integer", none), "is_integer", "is_integer", defArgs (top 7), defBody (top 7), defScope (top 7), [], []⟩, ⟨("is_within", none), "is_within", "is_within", defArgs (top 8), defBody (top 8), defScope (top 8), [], []⟩, ⟨("is_tuple", none), "is_tuple", "is_tuple", defArgs (top 9), defBody (top 9), defScope (top 9), [], []⟩, ⟨("is_row_value", none), "is_row_value", "is_row_value", defArgs (top 13), defBody (top 13), defScope (top 13), [], []⟩, ⟨("want_row", none), "want_row", "want_row", defArgs (top 14), defBody (top 14), defScope (top 14), [], []⟩, ⟨("want_like", none), "want_like", "want_like", defArgs (top 15), defBody (top 15), defScope (top 15), [], []⟩, ⟨("want_as_many", none), "want_as_many", "want_as_many", defArgs (top 16), defBody (top 16), defScope (top 16), [], []⟩, ⟨("shape_of", none), "shape_of", "shape_of", defArgs (top 17), defBody (top 17), defScope (top 17), [], []⟩, ⟨("heads_of", none), "heads_of", "heads_of", defArgs (top 18), defBody (top 18), defScope (top 18), [], []⟩, ⟨("bar_of", none), "bar_of", "bar_of", defArgs (top 19), defBody (top 19), defScope (top 19), [], []⟩, ⟨("richest", none), "richest", "richest", defArgs (top 20), defBody (top 20), defScope (top 20), [], []⟩, ⟨("is_row", none), "is_row", "is_row", defArgs (top 21), defBody (top 21), defScope (top 21), [], []⟩, ⟨("evener_paper", none), "evener_paper", "evener_paper", defArgs (top 22), defBody (top 22), defScope (top 22), [], []⟩, ⟨("is_evener_paper", none), "is_evener_paper", "is_evener_paper", defArgs (top 23), defBody (top 23), defScope (top 23), [], []⟩, ⟨("are_heads", none), "are_heads", "are_heads", defArgs (top 24), defBody (top 24), defScope (top 24), [], []⟩, ⟨("steps_down_of", none), "steps_down_of", "steps_down_of", defArgs (top 26), defBody (top 26), defScope (top 26), [], []⟩, ⟨("is_chain", none), "is_chain", "is_chain", defArgs (top 27), defBody (top 27), defScope (top 27), [], []⟩, ⟨("_law_pot", none), "_law_pot", "_law_pot", defArgs (top 29), defBody (top 29), defScope (top 29), [], []⟩, ⟨("_law_draw", none), "_law_draw", "_law_draw", defArgs (top 30), defBody (top 30), defScope (top 30), [], []⟩, ⟨("_law_pick", none), "_law_pick", "_law_pick", defArgs (top 31), defBody (top 31), defScope (top 31), [], []⟩]
def fn1 : List He.DefD := [⟨("_law_row", none), "_law_row", "_law_row", defArgs (top 32), defBody (top 32), defScope (top 32), [], []⟩, ⟨("_law_shape", none), "_law_shape", "_law_shape", defArgs (top 33), defBody (top 33), defScope (top 33), [], []⟩, ⟨("_law_heads", none), "_law_heads", "_law_heads", defArgs (top 34), defBody (top 34), defScope (top 34), [], []⟩, ⟨("_law_is_evener", none), "_law_is_evener", "_law_is_evener", defArgs (top 35), defBody (top 35), defScope (top 35), [], []⟩, ⟨("_law_are_sides", none), "_law_are_sides", "_law_are_sides", defArgs (top 36), defBody (top 36), defScope (top 36), [], []⟩, ⟨("_law_is_paper", none), "_law_is_paper", "_law_is_paper", defArgs (top 37), defBody (top 37), defScope (top 37), [], []⟩, ⟨("_law_is_step", none), "_law_is_step", "_law_is_step", defArgs (top 38), defBody (top 38), defScope (top 38), [], []⟩, ⟨("_law_is_chain", none), "_law_is_chain", "_law_is_chain", defArgs (top 39), defBody (top 39), defScope (top 39), [], []⟩, ⟨("_law_bent", none), "_law_bent", "_law_bent", defArgs (top 40), defBody (top 40), defScope (top 40), [], []⟩, ⟨("_law_right", none), "_law_right", "_law_right", defArgs (top 41), defBody (top 41), defScope (top 41), [], []⟩, ⟨("law", none), "law", "law", defArgs (top 42), defBody (top 42), defScope (top 42), [], []⟩]
def fn : List He.DefD := fn0 ++ fn1
def fa0 : List He.Fa := [.glo "is_integer", .glo "is_within", .glo "is_tuple", .glo "is_row_value", .glo "want_row", .glo "want_like", .glo "want_as_many", .glo "shape_of", .glo "heads_of", .glo "bar_of", .glo "richest", .glo "is_row", .glo "evener_paper", .glo "is_evener_paper", .glo "are_heads", .glo "steps_down_of", .glo "is_chain", .glo "_law_pot", .glo "_law_draw", .glo "_law_pick"]
def fa1 : List He.Fa := [.glo "_law_row", .glo "_law_shape", .glo "_law_heads", .glo "_law_is_evener", .glo "_law_are_sides", .glo "_law_is_paper", .glo "_law_is_step", .glo "_law_is_chain", .glo "_law_bent", .glo "_law_right", .glo "law", .free "abs", .free "all", .free "bool", .free "divmod", .free "enumerate", .free "int", .free "isinstance", .free "len", .free "list"]
def fa2 : List He.Fa := [.free "max", .free "min", .free "range", .free "repr", .free "set", .free "sorted", .free "str", .free "sum", .free "tuple", .free "zip", .int "MOST_SIDES" 6, .int "MOST_HELD" 60]
def fa : List He.Fa := fa0 ++ fa1 ++ fa2
def loose0 : List PySem.Str := ["EvenError", "StateError", "InvalidRow", "UnlikeSides", "UnlikeSums", "is_integer", "is_within", "is_tuple", "MOST_SIDES", "MOST_HELD", "is_row_value", "want_row", "want_like", "want_as_many", "shape_of", "heads_of", "bar_of", "richest", "is_row", "evener_paper"]
def loose1 : List PySem.Str := ["is_evener_paper", "are_heads", "steps_down_of", "is_chain", "_law_pot", "_law_draw", "_law_pick", "_law_row", "_law_shape", "_law_heads", "_law_is_evener", "_law_are_sides", "_law_is_paper", "_law_is_step", "_law_is_chain", "_law_bent", "_law_right"]
def loose : List PySem.Str := loose0 ++ loose1
def xf : List DL.XF := []
abbrev R : PySem.W.OpenRow := PySem.W.OpenLaw.row PySem.Challenge.rw_evenerrows_k10_any_value_as_row_paper_ch
abbrev hk : PySem.W.Hook := DL.hookY 4 fa fn [] xf
def ob (s : PySem.W.SharedT) : DL.AlY := DL.obsY 4 fa fn [] xf (HandSHeadRun.getT s)
theorem ob_eq (s : PySem.W.SharedT) : ob s = hk.obs s.abs := DL.obsY_eq (HandSHeadRun.getT_eq s)
theorem run (w : World) : HandSHeadRun.RunEq R (PySem.W.view R.prog [42]) hk ob 4000 loose w := by
  intro os
  kernel_rfl
end HD
section
open PySem PySem.W PySem.Calls PyProof.Rows
theorem HD.early (hc : PySem.W.WalkO (view HD.R.prog [42]) HD.loose (XL (view HD.R.prog [42]) []) HD.hk.says HD.R.toRowW (HandSHeadRun.topDef HD.R.prog 42) [] fun f vs => PySem.call f vs) : PySem.Challenge.rw_evenerrows_k10_any_value_as_row_paper_ch.Holds := by
  w_on; o_law
  refine HandSHeadRun.head_any (r := HD.R) (q := view HD.R.prog [42]) (H := HD.hk) (ob := HD.ob) (M := 4000) (loose := HD.loose) (d := HandSHeadRun.topDef HD.R.prog 42) (kwd := []) HD.ob_eq
    (by kernel_rfl) (fun s => by kernel_rfl) HD.run (by kernel_rfl) (by kernel_rfl) (by kernel_rfl) (by rfl) (by first | assumption | decide +kernel) (by decide +kernel) ⟨rfl, rfl, rfl, rfl, rfl, by decide +kernel⟩ ?hw ?hc
  case hw => w_witness2
  case hc => exact hc
end
/-! DlL: what changes nothing is read off without giving anything away. -/
namespace DL
open PySem PySem.Spec PyProof.Rows L2
def Val.frz : Val → Val
  | .own ds => .dat (.list ds)
  | .ref ds => .dat (.list ds)
  | x => x
def frzE (ρ : Ev) : Ev := ρ.map fun o => o.map Val.frz
theorem frzE_at {ρ : Ev} {i : Nat} {x : Val} (h : (frzE ρ)[i]? = some (some x)) : ∃ y, ρ[i]? = some (some y) ∧ y.frz = x := by
  unfold frzE at h
  rw [List.getElem?_map] at h
  rcases q : ρ[i]? with _ | _ | y
  · rw [q] at h; cases h
  · rw [q] at h; cases h
  · rw [q] at h; cases h; exact ⟨y, rfl, rfl⟩
theorem Rep.frz {K : Frag} {B F : Hp} {pa : Nat → Addr} {H : Hp} {σ : St} {ρ : Ev} (R : Rep K B F pa H σ ρ) : Rep K H H pa H σ (frzE ρ) := by
  have nm : ∀ {y : Val} {ds : List PD}, y.frz.mut ≠ some ds := fun {y ds} h => by cases y <;> cases h
  refine ⟨Le.refl _, Le.refl _, R.tb, by unfold frzE; rw [List.length_map]; exact R.len, fun i d h => ?_, fun i x ds h m => ?_, fun i ds h => ?_, fun i ds h => ?_, fun i j x y ds es a h _ m _ _ _ => ?_⟩
  · obtain ⟨y, h1, h2⟩ := frzE_at h
    have own : ∀ {ds : List PD}, y.mut = some ds → d = .list ds → ∃ v, σ[i]? = some (some v) ∧ Has K H v d := fun {ds} m e => by
      obtain ⟨a, vs, g1, g2, g3, g4, g5⟩ := R.mu i y ds h1 m
      subst e
      exact ⟨_, g1, .lst g2 (g5.le R.fh)⟩
    cases y with
    | dat e => cases h2; obtain ⟨v, g1, g2⟩ := R.dat i d h1; exact ⟨v, g1, g2.le R.fh⟩
    | own ds => cases h2; exact own rfl rfl
    | ref ds => cases h2; exact own rfl rfl
    | scr ds => cases h2
  · obtain ⟨y, h1, rfl⟩ := frzE_at h
    exact absurd m nm
  · obtain ⟨y, h1, h2⟩ := frzE_at h
    cases y <;> cases h2
  · obtain ⟨y, h1, h2⟩ := frzE_at h
    cases y with
    | scr e => cases h2; obtain ⟨a, vs, g1, g2, g3⟩ := R.scr i ds h1; exact ⟨a, vs, g1, SqL.le R.fh g2, g3.le R.fh⟩
    | dat e => cases h2
    | own e => cases h2
    | ref e => cases h2
  · obtain ⟨z, h1, rfl⟩ := frzE_at h
    exact absurd m nm
def mThawT (m : Mr Bool) : Mr Bool := fun ρ => match m (frzE ρ) with
  | some (b, _) => some (b, ρ)
  | none => none
section
variable {X : Cx} {pa : Nat → Addr} {e : Expr}
theorem do1_none : DO1 X pa none none := trivial
theorem do1_some {m : Mr RV} (h : DE X pa e m) : DO1 X pa (some e) (some m) := h
end
end DL
/-! DlM: sorted of lists and tuples of data. -/
namespace DL
open PySem PySem.Spec PyProof.Rows PySem.W PySem.Calls L2
section
variable {prog : Program} {w : World} {A : Around} {E : Value → Shared → Prop} {s : Shared} {β : Type} {R : Value → β → Prop} {enc : β → PD}
theorem Sq.obj {q : Sq} {h : Heap} {vs : List Value} (hq : q.At h vs) : ∃ (T : String) (o : Obj) (n : Nat), (T = "list" ∨ T = "tuple") ∧ h.get? q.ad = some o ∧ o.cls = .type T ∧ o.data = .seq vs.toArray n := by
  cases q with
  | l a xs => obtain ⟨o, h1, h2, n, h3⟩ := hq; exact ⟨_, o, n, .inl rfl, h1, h2, h3⟩
  | t a xs => obtain ⟨o, h1, h2, n, h3⟩ := hq; exact ⟨_, o, n, .inr rfl, h1, h2, h3⟩
/-- the items of a list or tuple are taken into a new list; the heap behind -/
theorem collect_sq {Q : List Value → Shared → Prop} {q : Sq} {vs : List Value} (hq : q.At s.heap vs) (hL : vs.length ≤ sizeLine)
    (h : Q vs { s with heap := (s.heap.push (seqObj "list" #[] 0)).update s.heap.objs.size (Obj.mapSeq (· ++ vs.toArray)) }) : wpAny (model prog w) A (collect (.ref q.ad)) Q E s := by
  obtain ⟨T, o, n, hT, ho, hc, hd⟩ := Sq.obj hq
  have hz : vs.toArray.size ≤ sizeLine := by rw [List.size_toArray]; exact hL
  let H1 : Heap := s.heap.push { cls := .type "list", data := .seq ([] : List Value).toArray }
  let H2 : Heap := H1.update s.heap.objs.size (Obj.mapSeq (· ++ vs.toArray))
  have at1 : H1.get? s.heap.objs.size = some { cls := .type "list", data := .seq #[] 0 } := Heap.get?_push_size _ rfl
  have at2 := Heap.get?_update_self (Obj.mapSeq (· ++ vs.toArray)) at1 rfl
  have e0 : ((#[] : Array Value) ++ vs.toArray).toList = vs := by simp
  have last : wpAny (model prog w) A (match Value.ref s.heap.objs.size with
      | Value.ref a => do
        match (← load a).data with
          | Data.seq xs _ => pure xs.toList
          | _ => unsupported "internal:collect"
      | _ => unsupported "internal:collect") Q E { s with heap := H2 } := by
    show wpAny _ A (load s.heap.objs.size >>= _) _ _ _
    refine wpAny_bind (wpAny_load at2 (wpAny_pure ?_))
    show Q ((#[] : Array Value) ++ vs.toArray).toList _
    rw [e0]
    exact h
  unfold collect
  refine wpAny_bind (wpAny_runValue (codeAny_builtin F.entry_proto_collect ?_))
  rw [Around.under_plainId F.plain_proto_collect _]
  show wpAny _ A.in1 (newList [] >>= fun l => again (.builtin "list.__iadd__" ⟨[l, .ref q.ad], []⟩)) _ _ s
  refine wpAny_bind (wpAny_newObj_type (wpAny_pure ⟨plainId_quiet F.plain_list_iadd _, codeAny_builtin F.entry_list_iadd ?_⟩))
  rw [Around.under_plainId F.plain_list_iadd _]
  show wpAny _ A.in1 (Builtin.List.listExtendWith (.ref s.heap.objs.size) (.ref q.ad) (.ref s.heap.objs.size)) _ _ _
  refine wpAny_mono (wpAny_extend_seq (hsz := hz) (A := A) (R := fun r t => r = .ok (.ret (.ref s.heap.objs.size)) ∧ t = { s with heap := H2 })
    (s := { s with heap := H1 }) _ q.ad _ 0 hT at1 (Heap.get?_push_of_some _ ho) hc hd ⟨rfl, rfl⟩) (fun f t g => ?_) (fun e t g => absurd g.1 (by simp))
  match f, g with
  | .done f, ⟨e, e'⟩ => subst e'; cases e; exact last
  | .again c, g => exact ⟨g.1, codeAny_mono g.2 fun r t g' => by obtain ⟨rfl, rfl⟩ := g'; exact last⟩
theorem sorted_sq {q : Sq} {vs : List Value} {bs : List β} {Q : Value → Shared → Prop} (hq : q.At s.heap vs) (e : EachIs R vs bs) (er : EachIs (fun v b => ∃ as, Reads s.heap v (enc b) as) vs bs)
    (hal : AllAlike (bs.map enc)) (hk : Sortable (bs.map enc)) (hL : bs.length ≤ sizeLine) (hu : ∀ b, b ∈ bs → A.units + 2 + (enc b).depth < cLine)
    (h : ∀ out : List Value, EachIs R out (bs.mergeSort (dataLe false enc)) → Q (.ref (s.heap.objs.size + 1)) { s with heap := sortedAll s.heap vs out.toArray }) :
    wpAny (model prog w) A (call (.builtin "sorted") [.ref q.ad]) Q E s := by
  have hL' : vs.length ≤ sizeLine := by rw [e.length]; exact hL
  have er' : EachIs (fun v b => ∃ as, Reads (sortingHeap (copyHeap s.heap vs) (s.heap.objs.size + 1) vs) v (enc b) as) vs bs := er.mono fun _ _ ⟨as, r⟩ => ⟨as, PyProof.Rows.Reads.keeps (fun _ _ => sorting_copy_old) r⟩
  have S := SortsAt.data (prog := prog) (w := w) (A := A.in1.in1) (s := { s with heap := sortingHeap (copyHeap s.heap vs) (s.heap.objs.size + 1) vs }) (each_map (R := fun v d => ∃ as, Reads (sortingHeap (copyHeap s.heap vs) (s.heap.objs.size + 1) vs) v d as) enc er') hal hk (bound_map hu)
  refine call_function_entry_kw kind_sorted plain_sorted entry_sorted (args_sorted1 _) ?_
  unfold Builtin.«sorted»
  refine wpAny_bind (m := checkCount "sorted" 1 1 _) (wpAny_pure (wpAny_bind (collect_sq hq hL' (wpAny_bind (wpAny_newList ?_ hL')))))
  have hsz : ((s.heap.push (seqObj "list" #[] 0)).update s.heap.objs.size (Obj.mapSeq (· ++ vs.toArray))).objs.size = s.heap.objs.size + 1 := by rw [Heap.size_update, size_push']
  show wpAny _ _ _ _ _ { s with heap := copyHeap s.heap vs }
  rw [hsz]
  refine wpAny_bind (wpAny_holding (wpAny_call_entry_kw slot_list_sort ⟨_, copyHeap_at s.heap vs, rfl⟩ entry_list_sort ?_ (args_list_sort _)))
  show wpAny (model prog w) A.in1.in1 (Builtin.«list.sort» ⟨[.ref (s.heap.objs.size + 1)], []⟩) _ _ _
  refine wpAny_mono (list_sort_vals (P := fun f t => f = .done (.ret .none) ∧ Q (.ref (s.heap.objs.size + 1)) t) (s := { s with heap := copyHeap s.heap vs }) (copyHeap_at s.heap vs) S hL' ⟨rfl, h _ (sortVals_data false e er' hal)⟩) (fun f t g => ?_) fun _ _ g => g
  obtain ⟨rfl, g⟩ := g
  exact ⟨_, rfl, wpAny_pure ⟨_, rfl, g⟩⟩
end
/-! by data -/
def allAlikeB (ds : List PD) : Bool := ds.all fun d => ds.all fun e => alike d e
def sortableB (ds : List PD) : Bool := (ds.all fun d => match d with | .tuple (_ :: _) => true | _ => false) || ds.all fun d => match d with | .none => false | .tuple _ => false | _ => true
theorem allAlike_of {ds : List PD} (h : allAlikeB ds = true) : AllAlike ds := fun d hd e he => List.all_eq_true.mp (List.all_eq_true.mp h d hd) e he
theorem sortable_of {ds : List PD} (h : sortableB ds = true) : Sortable ds := by
  unfold sortableB at h
  rcases Bool.or_eq_true _ _ ▸ h with h | h
  · refine .inl fun d hd => ?_
    have := List.all_eq_true.mp h d hd
    split at this
    · exact ⟨_, _, rfl⟩
    · cases this
  · refine .inr fun d hd => ?_
    have := List.all_eq_true.mp h d hd
    split at this
    · cases this
    · cases this
    · rename_i h1 h2
      exact ⟨h1, h2⟩
def sortedL (ds : List PD) : List PD := ds.mergeSort (dataLe false id)
def sortOk (ds : List PD) : Bool := allAlikeB ds && sortableB ds && (ds.all fun d => decide (d.depth ≤ 60)) && decide (ds.length ≤ big)
def sortedF : List PD → Option RV
  | [d] => (match itemsOf d with
    | some ds => if sortOk ds = true then some (.own (sortedL ds)) else none
    | none => none)
  | _ => none
def rSrt (K : Frag) : List V → Hp → VK → Prop := fun vs H Q => ∃ (F : Hp) (q : Sq) (ds : List PD), vs = [V.ref q.ad] ∧ q.In K H ∧ Le F H ∧ HasL K F q.xs ds ∧ sortOk ds = true ∧ ∀ (ys : List V) (p : Addr), HasL K F ys (sortedL ds) → H p = none → Q (.ref p) (upd H p (.lst ys))
theorem each_zip {K : Frag} {F : Hp} : ∀ {xs : List V} {ds : List PD} {us : List Value}, HasL K F xs ds → Vals xs us → EachIs (fun u (b : V × PD) => RelV b.1 u ∧ Has K F b.1 b.2) us (xs.zip ds)
  | [], _, _, h, r => by cases h; cases r; exact .nil
  | x :: xs, _, _, h, r => by
    cases h with
    | cons h1 h2 =>
      cases r with
      | cons r1 r2 => exact .cons ⟨r1, h1⟩ (each_zip h2 r2)
theorem zip_snd {K : Frag} {F : Hp} : ∀ {xs : List V} {ds : List PD}, HasL K F xs ds → (xs.zip ds).map Prod.snd = ds
  | [], _, h => by cases h; rfl
  | x :: xs, _, h => by
    cases h with
    | cons h1 h2 => rw [List.zip_cons_cons, List.map_cons, zip_snd h2]
theorem unzip_each {K : Frag} {F : Hp} : ∀ {us : List Value} {bs : List (V × PD)}, EachIs (fun u (b : V × PD) => RelV b.1 u ∧ Has K F b.1 b.2) us bs → Vals (bs.map Prod.fst) us ∧ HasL K F (bs.map Prod.fst) (bs.map Prod.snd)
  | _, _, .nil => ⟨.nil, .nil⟩
  | _, _, .cons ⟨h1, h2⟩ t => ⟨.cons h1 (unzip_each t).1, .cons h2 (unzip_each t).2⟩
section
variable {X : Cx} {pa : Nat → Addr} {pos : Pos} {k : Nat}
theorem cr_srt (hr : Room k X.A) : CallR X (.builtin "sorted") (rSrt X.K) := by
  intro pins s σ H vs us Q I r h
  obtain ⟨F, q, ds, rfl, hq, l, hx, hok, hQ⟩ := h
  obtain ⟨its, rv, hat, _⟩ := Sq.at_of I hq
  rw [Vals.ref1 r]
  unfold sortOk at hok
  simp only [Bool.and_eq_true, decide_eq_true_eq] at hok
  obtain ⟨⟨⟨k1, k2⟩, k3⟩, k4⟩ := hok
  have ez := each_zip hx rv
  have es := zip_snd hx
  have hl : (q.xs.zip ds).length ≤ sizeLine := by rw [← List.length_map (f := Prod.snd), es]; exact big_line k4
  have er : EachIs (fun v (b : V × PD) => ∃ as, Reads s.heap v b.2 as) its (q.xs.zip ds) := ez.mono fun u b ⟨g1, g2⟩ => Has.reads I l _ _ _ g2 g1
  refine sorted_sq (enc := Prod.snd) hat ez er (by rw [es]; exact allAlike_of k1) (by rw [es]; exact sortable_of k2) hl (fun b hb => ?_) fun out ho => ?_
  · have hb2 : b.2 ∈ ds := by rw [← es]; exact List.mem_map_of_mem hb
    have := of_decide_eq_true (List.all_eq_true.mp k3 b.2 hb2)
    have := hr.un
    omega
  · obtain ⟨g1, g2⟩ := unzip_each ho
    have e2 : ((q.xs.zip ds).mergeSort (dataLe false Prod.snd)).map Prod.snd = sortedL ds := by
      have e3 := sort_maps (r := dataLe false Prod.snd) (s := dataLe false id) Prod.snd (l := q.xs.zip ds) fun a _ b _ => rfl
      rw [es] at e3
      exact e3
    rw [e2] at g2
    obtain ⟨ep, he⟩ := sortedAll_at s.heap its out.toArray
    have hlen : (((q.xs.zip ds).mergeSort (dataLe false Prod.snd)).map Prod.fst).length ≤ sizeLine := by
      rw [List.length_map, List.length_mergeSort]; exact hl
    exact ⟨.ref _, upd H (s.heap.objs.size + 1) (.lst _), I.laid (t' := s.toks) (fun _ _ => sortedAll_old) (Nat.le_succ _) ⟨hlen, out, ep, g1, he⟩, rfl, hQ _ _ g2 (I.hok.fresh (Nat.le_succ _))⟩
theorem de_sorted {p0 : Pos} {e : Expr} {ms : Mr (List RV)} (hr : Room k X.A) (hm : X.mg "sorted" = none) (ha : DA X pa [e] ms) (hg : Gl X "sorted" := by rfl) (he : starEach [e] X.env = (false, eval e X.env) :: starEach [] X.env := by rfl) : DE X pa (.Call (.Name "sorted" p0) [e] [] pos) (mBlt sortedF ms) :=
  de_callB (cr_srt hr) (fun {B F H σ ρ xs ds out Q} R hx ho q => by
    unfold sortedF at ho
    split at ho
    · split at ho
      · rename_i es h1
        split at ho
        · rename_i hok
          cases ho
          obtain ⟨v, rfl, h⟩ := hx.one
          obtain ⟨sq, rfl, hs, hl⟩ := h.sq R.fh h1
          exact ⟨F, sq, es, rfl, hs, R.fh, hl, hok, fun ys p hy hp => finL R q hy hp⟩
        · cases ho
      · cases ho
    · cases ho) hm ha (by decide +kernel) hg (by decide) (by decide) he rfl
end
end DL
/-! DlN: list, tuple of a range; sets of a moment. -/
namespace DL
open PySem PySem.Spec PyProof.Rows L2
section
variable {X : Cx} {pa : Nat → Addr} {pos p0 p1 : Pos} {a b : Expr} {m ma mb : Mr RV}
def rgOk (i j : Int) : Bool := decide (-1000000 ≤ i) && decide (i ≤ 1000000) && decide (-1000000 ≤ j) && decide (j ≤ 1000000)
/-- what list, tuple make of a range -/
def mRg1 (o : List PD → RV) (m : Mr RV) : Mr RV := fun ρ => match m ρ with
  | some (.dat (.int n), ρ1) => if rgOk 0 n = true then some (o (rangeD 0 n.toNat), ρ1) else none
  | _ => none
def mRg2 (o : List PD → RV) (ma mb : Mr RV) : Mr RV := fun ρ => match ma ρ with
  | some (.dat (.int i), ρ1) => (match mb ρ1 with
    | some (.dat (.int j), ρ2) => if rgOk i j = true then some (o (rangeD i (j - i).toNat), ρ2) else none
    | _ => none)
  | _ => none
end
end DL
namespace DL
open PySem PySem.Spec PyProof.Rows L2
theorem Facts.str {fa : List He.Fa} {fn : List He.DefD} {xf : List XF} {K : Frag} {mg : Str → Option Value} {base : Heap} (c : Facts fa fn xf K mg base) (i : Nat) {x z : Str} (h : fa[i]? = some (.str x z) := by rfl) : ∃ t, mg x = some (.str z t) := by
  obtain ⟨hp, h1, h2, h3⟩ := c.ex
  exact He.str_ok h1 h2 (h3.fact i h)
end DL
/-! DlO: sets of ints of a moment: len(set(x)), sorted(set(x)). -/
namespace DL
open PySem PySem.Spec PyProof.Rows PySem.W L2
/-- a new set as the machine lays it -/
abbrev setNew (w : World) : Obj := { cls := .type "set", dict := none, data := .set #[] 0 (.fresh 0 0 (!w.params.followText "set-order")) }
section
variable {P : Program} {w : World} {A : Around} {E : Value → Shared → Prop} {s : Shared}
set_option maxHeartbeats 3200000 in
theorem set_ofL {b : Addr} {us : Array Value} (ks : List Int) {Q : Value → Shared → Prop} (nh : A.handled = none) (at0 : s.heap.IsList b us) (isI0 : IntsAre us.toList ks) (few : ks.length + 1 < scanBound)
    (z : ∀ (g : Heap) (tk c : Nat), SetR w g s.heap.objs.size (fun j => decide (j ∈ ks)) c → (∀ d o, s.heap.get? d = some o → g.get? d = some o) → Q (.ref s.heap.objs.size) { s with heap := g, toks := tk }) :
    wpAny (model P w) A (call (.type "set") [.ref b]) Q E s := by
  have len : us.size = ks.length := (Array.length_toList (xs := us)).symm.trans isI0.length
  have ⟨_, _, m1⟩ := F.called_set.mro
  have m2 := F.called_set.made
  have m3 := F.called_set.sub
  refine wpAny_call (codeAny_of_tree ?_)
  show wpAny _ _ (callAny (.type "set") _) _ _ _
  refine wpAny_pure ⟨Code.quiet_builtin _ (by decide +kernel), codeAny_builtin F.entry_type_call ?_⟩
  rw [Around.under_plain (weight_type_call_type "set" [.ref b] []) rfl]
  have m4 := F.called_set.notType
  have m5 := F.called_set.canCreate
  have m6 := F.typeCall_set_1 (.ref b)
  repeat (any_goals (first | assumption | wp_step))
  refine codeAny_mono (code_set_led1 (.ref b) (E := E) (Q₁ := fun v t => v = .ref s.heap.objs.size ∧ t = { s with heap := s.heap.push (setNew w) }) ⟨rfl, rfl⟩) fun r t hr => ?_
  match r, hr with
  | .error e, hr => exact hr
  | .ok (.ret v), hr =>
    obtain ⟨rfl, rfl⟩ := hr
    have n0 : (s.heap.push (setNew w)).get? s.heap.objs.size = some (setNew w) := Heap.get?_push_size _ rfl
    have ty : Shared.TypeIs { s with heap := s.heap.push (setNew w) } (.ref s.heap.objs.size) "set" := ⟨_, n0, rfl⟩
    have l1 := F.called_set.init.lookup
    have l2 := F.called_set.init.bind (.ref s.heap.objs.size)
    repeat (any_goals (first | assumption | wp_step))
    refine codeAny_mono (codeAny_call_builtin (R := wants (fun v t => v = .none ∧ ∃ g tk c, t = { s with heap := g, toks := tk } ∧ SetR w g s.heap.objs.size (fun j => decide (j ∈ ks)) c ∧
      (∀ d o, s.heap.get? d = some o → g.get? d = some o)) E) F.called_set.init.plain F.entry_set_init (check_set_init_1 ty ?_)) fun r t hr => ?_
    · obtain ⟨⟨c0, d0, x0, y0⟩, hb, e1, k, e2⟩ := at0
      simp only at e1 e2
      subst e1 e2
      have hb1 : (s.heap.push (setNew w)).get? b = some { cls := .type "list", dict := d0, data := .seq us k, slots := y0 } := Heap.get?_push_of_some _ hb
      have s1 := F.sub_list_set
      have s2 := F.sub_list_frozenset
      have s3 : (Value.type "list" == Value.type "dict") = false := by decide
      have at1 : (s.heap.push (setNew w)).IsList b us := ⟨_, hb1, rfl, k, rfl⟩
      unfold Builtin.«set.__init__» noKeywords Builtin.Frozenset.updateFrom
      generalize hIt : pyIter = It
      wp_walk
      subst hIt
      refine wpAny_pyIter_list at1 (wpAny_bind (wpAny_runValue ?_))
      have lt : b < s.heap.objs.size := Heap.lt_size hb
      have sz : (s.heap.push (setNew w)).objs.size = s.heap.objs.size + 1 := Heap.size_push ..
      have ne : b ≠ (s.heap.push (setNew w)).objs.size := by rw [sz]; exact Nat.ne_of_lt (Nat.lt_succ_of_lt lt)
      have off : s.heap.objs.size ∉ [(s.heap.push (setNew w)).objs.size, b] := by
        rw [sz]
        simp only [List.mem_cons, List.not_mem_nil, or_false, not_or]
        exact ⟨Nat.ne_of_lt (Nat.lt_succ_self _), Nat.ne_of_gt lt⟩
      have vals : ∀ (i : Nat) (v : Value), us[i]? = some v → ∃ k t, ks[i]? = some k ∧ v = .int k t := fun i v hv => by
        have hi : i < ks.length := len ▸ (Array.getElem?_eq_some_iff.mp hv).1
        obtain ⟨t, e⟩ := IntsAre.int_at isI0 i v (by rw [Array.getElem?_toList]; exact hv)
        refine ⟨ks[i], t, List.getElem?_eq_getElem hi, ?_⟩
        rw [e, List.getD_eq_getElem?_getD, List.getElem?_eq_getElem hi] <;> rfl
      refine set_update_ints ((Walks.list (by simp [nh]) _ b ne us).toS) s.heap.objs.size off ks len few vals (us.size - 0) 0 _ (by omega) (Nat.zero_le _) ⟨⟨_, Heap.get?_push_size _ rfl, rfl, rfl⟩, at1.push _⟩ ⟨0, Nat.le_refl 0, setR_new_at (Heap.get?_push_of_some _ n0)⟩ ?_
      intro t c hm hc hS
      obtain ⟨g, g2, d2, tk, o2⟩ := t
      have q1 : g2 = s.gens := hm.gens
      have q2 : d2 = s.drawn := hm.drawn
      have q3 : o2 = s.os := hm.os
      subst q1 q2 q3
      show wpAny _ _ _ _ _ _
      refine wpAny_pure ?_
      show wpAny _ _ (ret Value.none) _ _ _
      refine wpAny_pure ⟨rfl, g, tk, c, rfl, hS, fun d o e => ?_⟩
      have ld : d < s.heap.objs.size := Heap.lt_size e
      refine hm.heap d o ?_ (Heap.get?_push_of_some _ (Heap.get?_push_of_some _ e))
      rw [sz]
      simp only [List.mem_cons, List.not_mem_nil, or_false, not_or]
      exact ⟨Nat.ne_of_lt ld, Nat.ne_of_lt (Nat.lt_succ_of_lt ld)⟩
    · match r, hr with
      | .error e, hr => exact hr
      | .ok (.ret v), hr =>
        obtain ⟨rfl, g, tk, c, rfl, hS, hk⟩ := hr
        repeat (any_goals (first | assumption | wp_step))
        exact z _ _ _ hS hk
theorem set_ofQ {q : Sq} {vs : List Value} (ks : List Int) {Q : Value → Shared → Prop} (nh : A.handled = none) (at0 : q.At s.heap vs) (isI0 : IntsAre vs ks) (few : ks.length + 1 < scanBound)
    (z : ∀ (g : Heap) (tk c : Nat), SetR w g s.heap.objs.size (fun j => decide (j ∈ ks)) c → (∀ d o, s.heap.get? d = some o → g.get? d = some o) → Q (.ref s.heap.objs.size) { s with heap := g, toks := tk }) :
    wpAny (model P w) A (call (.type "set") [.ref q.ad]) Q E s := by
  cases q with
  | l a xs => exact set_ofL ks nh at0 (by simpa using isI0) few z
  | t a xs => exact call_set_tupI ks nh at0 (by simpa using isI0) few fun g tk c h1 _ h2 => z g tk c h1 h2
end
/-! the different ones of some ints -/
def dedL (ns : List Int) : List Int := ns.foldr (fun a l => if a ∈ l then l else a :: l) []
theorem mem_dedL {x : Int} : ∀ {ns : List Int}, x ∈ dedL ns ↔ x ∈ ns
  | [] => by simp [dedL]
  | a :: ns => by
    have ih := mem_dedL (x := x) (ns := ns)
    show x ∈ (if a ∈ dedL ns then dedL ns else a :: dedL ns) ↔ _
    split
    · rename_i h
      rw [ih, List.mem_cons]
      refine ⟨.inr, fun g => g.elim (fun e => ?_) id⟩
      subst e
      exact ih.mp h
    · rw [List.mem_cons, List.mem_cons, ih]
theorem nodup_dedL : ∀ ns : List Int, (dedL ns).Nodup
  | [] => by simp [dedL]
  | a :: ns => by
    show (if a ∈ dedL ns then dedL ns else a :: dedL ns).Nodup
    split
    · exact nodup_dedL ns
    · rename_i h
      exact List.nodup_cons.mpr ⟨h, nodup_dedL ns⟩
theorem setR_count {w : World} {h : Heap} {a : Addr} {ns : List Int} {c : Nat} (R : SetR w h a (fun j => decide (j ∈ ns)) c) : c = (dedL ns).length := by
  obtain ⟨o, es, ep, t, _, _, _, _, nd, mem, _, _, hn, _, _⟩ := R
  have p : (es.toList.map keyOf).Perm (dedL ns) := (List.perm_ext_iff_of_nodup nd (nodup_dedL ns)).mpr fun k => by
    rw [← mem k, mem_dedL, decide_eq_true_eq]
  rw [← hn, ← p.length_eq]
  simp
def rSetQ (K : Frag) (w : World) : List V → Hp → VK → Prop := fun vs H Q => ∃ (q : Sq) (ns : List Int), vs = [V.ref q.ad] ∧ q.In K H ∧ q.xs = ns.map V.int ∧ ns.length ≤ 4000 ∧ ∀ p, H p = none → Q (.ref p) (upd H p (SetO w p (fun j => decide (j ∈ ns)) (dedL ns).length))
section
variable {X : Cx} {pa : Nat → Addr} {pos : Pos} {k : Nat}
theorem cr_setQ (hr : Room k X.A) (hc : X.calm = true) : CallR X (.type "set") (rSetQ X.K X.w) := by
  intro pins s σ H vs us Q I r h
  obtain ⟨q, ns, rfl, hq, e, hl, z⟩ := h
  obtain ⟨its, rv, hat, _⟩ := Sq.at_of I hq
  rw [Vals.ref1 r]
  rw [e] at rv
  refine set_ofQ ns (I.ok.hd hc) hat (ints_of_vals rv) (by unfold scanBound; omega) fun g tk c hS hk => ?_
  have ec := setR_count hS
  subst ec
  exact ⟨.ref _, upd H s.heap.objs.size _, I.laid (t' := tk) hk (Nat.le_refl _) (setO_new hS), rfl, z _ (I.hok.fresh (Nat.le_refl _))⟩
end
def sortedSetF : List PD → Option RV
  | [d] => (match itemsOf d with
    | some ds => (match intsOf ds with
      | some ns => if ns.length ≤ 4000 ∧ (dedL ns).length < 64 then some (.own ((sortedL ((dedL ns).map PyData.int)))) else none
      | none => none)
    | none => none)
  | _ => none
theorem sortedSetF_inv {ds : List PD} {out : RV} (h : sortedSetF ds = some out) : ∃ d es ns, ds = [d] ∧ itemsOf d = some es ∧ es = ns.map PyData.int ∧ ns.length ≤ 4000 ∧ (dedL ns).length < 64 ∧ out = .own (sortedL ((dedL ns).map PyData.int)) := by
  unfold sortedSetF at h
  split at h
  · rename_i d
    split at h
    · rename_i es h1
      split at h
      · rename_i ns h2
        split at h
        · rename_i h3
          cases h
          exact ⟨d, es, ns, rfl, h1, intsOf_eq h2, h3.1, h3.2, rfl⟩
        · cases h
      · cases h
    · cases h
  · cases h
theorem sortedL_ints (r : List Int) : sortedL (r.map PyData.int) = (r.mergeSort fun a b => decide (a ≤ b)).map PyData.int := by
  have e : (fun a b : Int => decide (a ≤ b)) = dataLe false (fun b : Int => PyData.int b) := (dataLe_int id).symm
  have h := sort_maps (r := fun a b : Int => decide (a ≤ b)) (s := dataLe false id) PyData.int (l := r) fun a _ b _ => congrFun (congrFun e a) b
  exact h.symm
theorem sorted_uniq {ms ns : List Int} (h1 : ms.Pairwise (· < ·)) (h2 : ∀ k, k ∈ ms ↔ k ∈ ns) : ms = (dedL ns).mergeSort fun a b => decide (a ≤ b) := by
  have hs := List.pairwise_mergeSort (le := fun a b : Int => decide (a ≤ b)) (fun a b c g1 g2 => by simp at *; omega) (fun a b => by simp; omega) (dedL ns)
  have nd : ms.Nodup := h1.imp fun h e => by omega
  have p : ms.Perm (dedL ns) := (List.perm_ext_iff_of_nodup nd (nodup_dedL ns)).mpr fun k => by rw [h2 k, mem_dedL]
  refine List.Perm.eq_of_pairwise (le := fun a b => a ≤ b) (fun a b _ _ g1 g2 => by omega) (h1.imp fun h => Int.le_of_lt h) (hs.imp fun h => of_decide_eq_true h) (p.trans (List.mergeSort_perm ..).symm)
section
variable {X : Cx} {pa : Nat → Addr} {pos p0 p1 p2 : Pos} {k : Nat} {a : Expr} {ms : Mr (List RV)}
theorem intSq {K : Frag} {F H : Hp} {d : PD} {v : V} {ns : List Int} (l : Le F H) (h : Top K F H d v) (e : itemsOf d = some (ns.map PyData.int)) : ∃ q : Sq, v = .ref q.ad ∧ q.In K H ∧ q.xs = ns.map V.int := by
  obtain ⟨q, h1, h2, h3⟩ := h.sq l e
  exact ⟨q, h1, h2, HasL.ints h3⟩
theorem de_sortedSet (hr : Room k X.A) (hc : X.calm = true) (hm : X.mg "sorted" = none) (hm2 : X.mg "set" = none) (ha : DA X pa [a] ms) (hg : Gl X "sorted" := by rfl) (hg2 : Gl X "set" := by rfl)
    (he : starEach [a] X.env = (false, eval a X.env) :: starEach [] X.env := by rfl)
    (he2 : starEach [Expr.Call (.Name "set" p1) [a] [] p0] X.env = (false, eval (.Call (.Name "set" p1) [a] [] p0) X.env) :: starEach [] X.env := by rfl) : DE X pa (.Call (.Name "sorted" p2) [.Call (.Name "set" p1) [a] [] p0] [] pos) (mBlt sortedSetF ms) :=
  DE.of (pe_callB (x := "sorted") (cr_sortedSet hc) hg hm (by decide +kernel) (pa_cons (pe_callTy (x := "set") (cr_setQ hr hc) hg2 hm2 PyProof.Rows.boot_set ha (by decide) (by decide) he rfl) pa_nil he2) (by decide) (by decide) he2 rfl) fun {B F H σ ρ r ρ' Q} R e p =>
    mBlt_run (f := sortedSetF) (r := fun vs H Q => rSetQ X.K X.w vs H fun x H1 => rSortedSet X.w [x] H1 Q) (fun {B F H σ ρ xs ds out Q} R hx ho q => by
      obtain ⟨d, es, ns, rfl, h1, rfl, hl, h64, rfl⟩ := sortedSetF_inv ho
      obtain ⟨v, rfl, h⟩ := hx.one
      obtain ⟨sq, rfl, hs, hv⟩ := intSq R.fh h h1
      refine ⟨sq, ns, rfl, hs, hv, hl, fun p hp => ⟨p, _, _, rfl, upd_same, h64, fun ms b k1 k2 _ hb => ?_⟩⟩
      have e2 := sorted_uniq k1 fun k => (k2 k).trans decide_eq_true_iff
      rw [sortedL_ints, ← e2] at q
      exact finL (R.alloc hp) q (HasL.of_ints ms) hb) R e p
end
end DL
/-! DlP: {}, methods of lists that read, a def that calls itself. -/
namespace DL
open PySem PySem.Spec PyProof.Rows PySem.W L2
section
variable {X : Cx} {pa : Nat → Addr} {pos : Pos}
theorem de_dict0 : DE X pa (.Dict [] [] pos) (mC (.dict [])) := DE.of pe_dnewK fun {B F H σ ρ r ρ' Q} R e p => by
  cases e
  exact fun a ha => p _ _ _ (R.newExt (o := .dK []) ha) (R.new ha) (.dic upd_same)
/-- a method of a list that only reads -/
def mRead (f : List PD → List PD → Option PD) (mo : Mr RV) (ms : Mr (List RV)) : Mr RV := fun ρ => match mo ρ with
  | some (ro, ρ1) => (match res ro ρ1 with
    | some (.list _) => (match mArgs ms ρ1 with
      | some (ds, ρ2) => (match res (holdR ro) ρ2 with
        | some (.list cur) => (match f cur ds with
          | some o => some (.dat o, ρ2)
          | none => none)
        | _ => none)
      | none => none)
    | _ => none)
  | none => none
def SemRead (X : Cx) (r : V → List V → Hp → VK → Prop) (f : List PD → List PD → Option PD) : Prop := ∀ {F H : Hp} {l : Addr} {xs vs : List V} {cur ds : List PD} {o : PD} {Q : VK}, Le F H → H l = some (.lst xs) → HasL X.K F xs cur → HasL X.K F vs ds → f cur ds = some o →
  (∀ v, Has X.K F v o → Q v H) → r (.ref l) vs H Q
theorem top_list {K : Frag} {F H : Hp} {ds : List PD} {v : V} (h : Top K F H (.list ds) v) : ∃ a vs, v = .ref a ∧ H a = some (.lst vs) ∧ HasL K F vs ds := h
theorem mRead_run {f : List PD → List PD → Option PD} {mo : Mr RV} {ms : Mr (List RV)} {r : V → List V → Hp → VK → Prop} (sem : SemRead X r f) {B F H : Hp} {σ : St} {ρ ρ' : Ev} {out : RV} {Q : VK} (R : Rep X.K B F pa H σ ρ) (e : mRead f mo ms ρ = some (out, ρ')) (p : EPost X.K B F pa σ out ρ' Q) :
    tBM X.K "list" r (tM X.K pa mo) (tMA X.K pa ms) σ H Q := by
  unfold mRead at e
  split at e
  · rename_i ro ρ1 h1
    split at e
    · rename_i ds0 hres
      split at e
      · rename_i ds ρ2 h2
        split at e
        · rename_i cur hres2
          split at e
          · rename_i o' hf
            cases e
            refine ⟨B, F, ρ, ro, ρ1, R, h1, fun F1 H1 v E1 R1 P1 => ?_⟩
            obtain ⟨a, vs, rfl, k1, k2⟩ := top_list (res_top R1 P1 hres)
            obtain ⟨F2, E2, R2, P2⟩ := hold_rep R1 P1
            refine ⟨tyV_lst k1, ?_⟩
            refine mArgs_run R2 h2 fun F3 H3 ws E3 R3 hv => ?_
            have P3 : RepR X.K B F3 H3 σ ρ' (holdR ro) (.ref a) := P2.keep E3.le
            obtain ⟨a', us, ea, k3, k4⟩ := top_list (res_top R3 P3 hres2)
            injection ea with ea; subst ea
            exact sem R3.fh k3 k4 hv hf fun v hv => p F3 _ v ((E1.trans E2).trans E3) R3 hv
          · cases e
        · cases e
      · cases e
    · cases e
  · cases e
def indexF : List PD → List PD → Option PD
  | cur, [.int i] => (match intsOf cur with
    | some ns => if i ∈ ns then some (.int (ns.idxOf i)) else none
    | none => none)
  | _, _ => none
theorem flat_ints (ns : List Int) : (ns.map V.int).all flatV = true := by
  rw [List.all_map]
  exact List.all_eq_true.mpr fun _ _ => rfl
theorem sem_index : SemRead X (rIndex X.K) indexF := fun {F H l xs vs cur ds o Q} lF hl hx hv hf q => by
  unfold indexF at hf
  split at hf
  · rename_i i
    split at hf
    · rename_i ns hi
      split at hf
      · rename_i hm
        cases hf
        rw [intsOf_eq hi] at hx
        have ex := HasL.ints hx
        obtain ⟨v, t, rfl, h1, h2⟩ := hv.cons_inv
        cases h1
        cases h2
        have hlt : ns.idxOf i < ns.length := List.idxOf_lt_length_iff.mpr hm
        refine ⟨l, xs, .int i, ns.idxOf i, .int i, rfl, rfl, SqL.of hl, rfl, by rw [ex]; exact flat_ints ns, ?_, by simp [eqV], fun m z' hlt2 hz => ?_, q _ (.int _)⟩
        · rw [ex, List.getElem?_map, List.getElem?_eq_getElem hlt]
          simp
        · rw [ex, List.getElem?_map] at hz
          have hm2 : m < ns.length := by omega
          rw [List.getElem?_eq_getElem hm2] at hz
          cases hz
          have := List.not_of_lt_findIdx (xs := ns) (p := (· == i)) (i := m) hlt2
          simpa [eqV] using this
      · cases hf
    · cases hf
  · cases hf
section
variable {apos : Pos} {o e : Expr} {mo : Mr RV} {ms : Mr (List RV)}
theorem de_read {id : String} {name : Str} {r : V → List V → Hp → VK → Prop} {f : List PD → List PD → Option PD} (slot : Slot "list" name id) (hty : typeOf (.builtin id) = pure (.type "method_descriptor")) (hm : MtR X id r) (sem : SemRead X r f) (ho : DE X pa o mo) (ha : DA X pa [e] ms)
    (hbase : attributeBase o name X.env (eval o X.env) = eval o X.env := by rfl)
    (hfew : ((backTo pos (starEach [e] X.env)).all (fun x => !x.1) && (backToKw pos (keywordEach [] X.env)).all (fun x => x.1.isSome)
      && decide ([e].length + ([] : List Keyword).length + (if ([] : List Keyword).isEmpty then 0 else 1) < 30)) = true := by rfl)
    (hline : (apos.endLine == pos.line) = true := by rfl) (he : starEach [e] X.env = (false, eval e X.env) :: starEach [] X.env := by rfl) : DE X pa (.Call (.Attribute o name apos) [e] [] pos) (mRead f mo ms) :=
  DE.of (pe_bm PySem.F.plainAttrs_list slot hty hm ho ha hbase hfew hline he rfl) fun R e p => mRead_run sem R e p
theorem de_index (ho : DE X pa o mo) (ha : DA X pa [e] ms) (hbase : attributeBase o "index" X.env (eval o X.env) = eval o X.env := by rfl)
    (hfew : ((backTo pos (starEach [e] X.env)).all (fun x => !x.1) && (backToKw pos (keywordEach [] X.env)).all (fun x => x.1.isSome)
      && decide ([e].length + ([] : List Keyword).length + (if ([] : List Keyword).isEmpty then 0 else 1) < 30)) = true := by rfl)
    (hline : (apos.endLine == pos.line) = true := by rfl) (he : starEach [e] X.env = (false, eval e X.env) :: starEach [] X.env := by rfl) : DE X pa (.Call (.Attribute o "index" apos) [e] [] pos) (mRead indexF mo ms) :=
  de_read PySem.F.slot_list_index PySem.F.type_list_index mt_index sem_index ho ha hbase hfew hline he
end
end
/-! a def that calls itself: its mirrors by fuel -/
section
variable {P : Program} {w : World} {K : Frag} {mg : Str → Option Value} {base : Heap} {k : Nat} {x : Str} {st : Stmt} {ps : List Str}
theorem Fn.lift {j : Nat} {mf : FM} (F : Fn P w K mg base j x st ps mf) (h : j ≤ k) : Fn P w K mg base k x st ps mf := by
  obtain ⟨f, fd, h1, h2, h3, h4⟩ := F.ex
  exact ⟨f, fd, h1, h2, h3, h4.lift h⟩
/-- no fuel: nothing is promised -/
theorem Fn.zero {fa : List He.Fa} {fn : List He.DefD} {xf : List XF} (c : Facts fa fn xf K mg base) (i j : Nat) (pl : Plain x st ps)
    (hf : fn[i]? = some ⟨(x, none), x, x, defArgs st, defBody st, defScope st, [], []⟩ := by rfl) (hg : fa[j]? = some (.glo x) := by rfl) : Fn P w K mg base k x st ps (fun _ => none) := by
  obtain ⟨fd, F⟩ := c.def_ i hf
  refine ⟨_, fd, F, c.glo j hg, F.bindsN pl, fun us H Q E h => ?_, fun A fr s H args us vs Q E _ _ _ _ _ h => ?_⟩
  · obtain ⟨_, _, _, _, _, _, _, e, _⟩ := h; cases e
  · obtain ⟨_, _, _, _, _, _, _, e, _⟩ := h; cases e
end
end DL
/-! DlQ: tuples so often, turned about. -/
namespace DL
open PySem PySem.Spec PyProof.Rows PySem.W L2 HT
section
variable {prog : Program} {w : World} {A : Around} {E : Value → Shared → Prop} {s : Shared}
/-- t * 1, () * k: t itself -/
theorem tup_same (b : Addr) (us : Array Value) (n : Nat) (dd : Option Addr) (sl : Array (Option Value)) (k : Int) (u : Tok) (k0 : (decide (k < -(2 ^ 63)) || decide (k ≥ 2 ^ 63)) = false) (k1 : (us.isEmpty || k == 1) = true) :
    Meets (Builtin.«tuple.__mul__» ⟨[.ref b, .int k u], []⟩) (fun _ R s => s.heap.get? b = some { cls := .type "tuple", dict := dd, data := .seq us n, slots := sl } ∧ R (.ok (.ret (Value.ref b))) s) :=
  .of_wp fun prog w A R s h => by
    obtain ⟨hp, g, d, tk, os⟩ := s
    obtain ⟨hb, h⟩ := h
    have ai := AutoSeq1.idx_int
    wp_walk using wpAny_loadPart' hb
    repeat (first
      | (refine wpAny_ite_false (decide_eq_false (by rw [k0]; exact Bool.false_ne_true)) ?_; (wp_walk using wpAny_loadPart' hb))
      | (refine wpAny_ite_true (decide_eq_true k1) ?_; (wp_walk using wpAny_loadPart' hb)))
    all_goals first | exact ⟨_, rfl, h⟩ | skip
/-- t * k, k not above 0: () -/
theorem tup_none (b : Addr) (us : Array Value) (n : Nat) (dd : Option Addr) (sl : Array (Option Value)) (k : Int) (u : Tok) (k0 : (decide (k < -(2 ^ 63)) || decide (k ≥ 2 ^ 63)) = false) (k1 : (us.isEmpty || k == 1) = false) (k2 : (decide (k ≤ 0) || us.isEmpty) = true) :
    Meets (Builtin.«tuple.__mul__» ⟨[.ref b, .int k u], []⟩) (fun _ R s => s.heap.get? b = some { cls := .type "tuple", dict := dd, data := .seq us n, slots := sl } ∧
      R (.ok (.ret (Value.ref s.heap.objs.size))) { s with heap := s.heap.push { cls := Value.type "tuple", data := Data.seq #[] } }) :=
  .of_wp fun prog w A R s h => by
    obtain ⟨hp, g, d, tk, os⟩ := s
    obtain ⟨hb, h⟩ := h
    have ai := AutoSeq1.idx_int
    wp_walk using wpAny_loadPart' hb
    repeat (first
      | (refine wpAny_ite_false (decide_eq_false (by rw [k0]; exact Bool.false_ne_true)) ?_; (wp_walk using wpAny_loadPart' hb))
      | (refine wpAny_ite_false (decide_eq_false (by rw [k1]; exact Bool.false_ne_true)) ?_; (wp_walk using wpAny_loadPart' hb))
      | (refine wpAny_ite_true (decide_eq_true k2) ?_; (wp_walk using wpAny_loadPart' hb)))
    all_goals first | exact ⟨_, rfl, h⟩ | skip
end
def rRepS (K : Frag) : R2 := fun x y H Q => ∃ b k xs, x = .ref b ∧ y = .int k ∧ SqT K H b xs ∧ -1000 ≤ k ∧ k ≤ 1000 ∧ (((xs = [] ∨ k = 1) ∧ Q (.ref b) H) ∨ ((xs ≠ [] ∧ k ≤ 0) ∧ ∀ p, H p = none → Q (.ref p) (upd H p (.tup []))))
section
variable {X : Cx}
theorem op_repS : OpR X (binaryOp .Mult) (rRepS X.K) := by
  intro pins s σ H x y v u Q I rx ry h
  obtain ⟨b, k, xs, rfl, rfl, hT, h1, h2, hz⟩ := h
  cases rx
  obtain ⟨tk0, rfl⟩ := ry
  obtain ⟨its, r, ⟨⟨c0, d0, x0, y0⟩, ho, e1, n, e2⟩, hs⟩ := I.tuple hT
  simp only at e1 e2
  subst e1 e2
  have hl : xs.length = its.length := r.length
  have k0 : (decide (k < -(2 ^ 63)) || decide (k ≥ 2 ^ 63)) = false := by rw [decide_eq_false (by omega), decide_eq_false (by omega)] <;> rfl
  rcases hz with ⟨hc, q⟩ | ⟨⟨hc1, hc2⟩, q⟩
  · have k1 : (its.toArray.isEmpty || k == 1) = true := by
      rcases hc with rfl | rfl
      · have e : its = [] := List.eq_nil_of_length_eq_zero hl.symm
        rw [e] <;> rfl
      · simp
    refine wpAny_binaryOp_repeat_ref (T := "tuple") (U := "int") (by decide) ⟨_, ho, rfl⟩ (fun s' => typeIs_int s' k tk0) noFill_tuple_mul F.fills_int_mul F.slot_int_rmul repeat_tuple F.slot_int_index.lookup
      (call_meets F.slot_int_rmul (typeIs_int s k tk0) F.entry_int_rmul (F.args_int_rmul_2 _ _) (int_rmul_tuple k tk0 b its.toArray n d0 y0)
        ⟨ho, rfl, ⟨_, ho, rfl⟩, call_meets F.slot_tuple_mul ⟨_, ho, rfl⟩ F.entry_tuple_mul (F.args_tuple_mul_2 _ _) (tup_same b its.toArray n d0 y0 k tk0 k0 k1) ⟨ho, ?_⟩⟩)
    exact ⟨.ref b, H, I, rfl, q⟩
  · have ne : its ≠ [] := fun e => hc1 (List.eq_nil_of_length_eq_zero (by rw [hl, e] <;> rfl))
    have ei : its.toArray.isEmpty = false := by
      cases its with
      | nil => exact absurd rfl ne
      | cons a l => rfl
    have k1 : (its.toArray.isEmpty || k == 1) = false := by
      rw [ei, Bool.false_or]
      exact beq_eq_false_iff_ne.mpr (by omega)
    have k2 : (decide (k ≤ 0) || its.toArray.isEmpty) = true := by rw [decide_eq_true hc2] <;> rfl
    refine wpAny_binaryOp_repeat_ref (T := "tuple") (U := "int") (by decide) ⟨_, ho, rfl⟩ (fun s' => typeIs_int s' k tk0) noFill_tuple_mul F.fills_int_mul F.slot_int_rmul repeat_tuple F.slot_int_index.lookup
      (call_meets F.slot_int_rmul (typeIs_int s k tk0) F.entry_int_rmul (F.args_int_rmul_2 _ _) (int_rmul_tuple k tk0 b its.toArray n d0 y0)
        ⟨ho, rfl, ⟨_, ho, rfl⟩, call_meets F.slot_tuple_mul ⟨_, ho, rfl⟩ F.entry_tuple_mul (F.args_tuple_mul_2 _ _) (tup_none b its.toArray n d0 y0 k tk0 k0 k1 k2) ⟨ho, ?_⟩⟩)
    refine ⟨.ref s.heap.objs.size, _, I.laid (t' := s.toks) (o := .tup []) (fun b ob q => Heap.get?_push_of_some _ q) (Nat.le_refl _) ?_, rfl, q _ (I.hok.fresh (Nat.le_refl _))⟩
    exact ⟨Nat.zero_le _, [], .nil, IsTup.new _ _⟩
end
section
variable {X : Cx} {pa : Nat → Addr} {pos : Pos}
def mulD2 : PD → PD → Option RV
  | .int i, .int j => if (-18446744073709551616 < i ∧ i < 18446744073709551616) ∨ (-18446744073709551616 < j ∧ j < 18446744073709551616) then some (.dat (.int (i * j))) else none
  | .list xs, .int k => if xs.length ≤ 1000 ∧ -1000 ≤ k ∧ k ≤ 1000 then some (.own (repD k.toNat xs)) else none
  | .tuple xs, .int k => if xs.length ≤ 1000 ∧ -1000 ≤ k ∧ k ≤ 1000 then some (.dat (.tuple (repD k.toNat xs))) else none
  | _, _ => none
theorem repD_1 (xs : List PD) : repD 1 xs = xs := by simp [repD]
theorem repD_0 {k : Int} (h : k ≤ 0) (xs : List PD) : repD k.toNat xs = [] := by
  have : k.toNat = 0 := by omega
  rw [this]; simp [repD]
theorem repD_nil (k : Nat) : repD k [] = [] := by simp [repD]
theorem op_mulD2 : ∃ r, OpR X (binaryOp .Mult) r ∧ Sem2 X pa r mulD2 := by
  obtain ⟨r0, o0, s0⟩ := op_mulD (X := X) (pa := pa)
  refine ⟨_, o0.or op_repS, fun {B F H σ ρ x y d e out Q} R hx hy ho q => ?_⟩
  unfold mulD2 at ho
  split at ho
  · exact .inl (s0 R hx hy ho q)
  · exact .inl (s0 R hx hy ho q)
  · rename_i xs k
    split at ho
    · rename_i hc
      cases ho
      by_cases h2 : xs ≠ [] ∧ 2 ≤ k
      · refine .inl (s0 R hx hy (out := .dat (.tuple (repD k.toNat xs))) ?_ q)
        simp only [mulD]
        rw [if_pos ⟨h2.1, hc.1, h2.2, hc.2.2⟩]
      · obtain ⟨a, vs, rfl, h1, h1', h3⟩ := hx.tup R.fh
        have hl := h3.length
        refine .inr ⟨a, k, vs, rfl, hy.int, h1', hc.2.1, hc.2.2, ?_⟩
        by_cases e1 : xs = []
        · subst e1
          rw [repD_nil] at q
          cases h3
          exact .inl ⟨.inl rfl, q F _ _ (Ext.refl _ _) R (.tup h1 .nil)⟩
        · by_cases e2 : k = 1
          · subst e2
            rw [show Int.toNat 1 = 1 by rfl, repD_1] at q
            exact .inl ⟨.inr rfl, q F _ _ (Ext.refl _ _) R (.tup h1 h3)⟩
          · have hk : k ≤ 0 := by
              have : ¬ 2 ≤ k := fun z => h2 ⟨e1, z⟩
              omega
            rw [repD_0 hk] at q
            refine .inr ⟨⟨fun z => e1 ?_, hk⟩, fun p hp => finT R q .nil hp⟩
            subst z
            cases h3
            rfl
    · cases ho
  · cases ho
theorem de_mul2 {a b : Expr} {ma mb : Mr RV} (ha : DE X pa a ma) (hb : DE X pa b mb) : DE X pa (.BinOp a .Mult b pos) (mBin mulD2 ma mb) := by
  obtain ⟨r, ho, hs⟩ := op_mulD2 (X := X) (pa := pa)
  exact de_bin ho hs ha hb
end
/-! xs[::-1] -/
section
variable {prog : Program} {w : World} {A : Around} {E : Value → Shared → Prop} {s : Shared}
theorem back_places (n : Nat) : Builtin.Slice.slicePlaces ((n : Int) - 1) (-1) (-1) = n := by
  unfold Builtin.Slice.slicePlaces
  rw [if_neg (by decide)]
  by_cases h : (n : Int) - 1 > -1
  · rw [if_pos h, show (-(-1) : Int) = 1 by decide, Int.ediv_one]; omega
  · rw [if_neg h]; omega
theorem fm_congr {α β : Type} {f g : α → Option β} : ∀ {l : List α}, (∀ x ∈ l, f x = g x) → l.filterMap f = l.filterMap g
  | [], _ => rfl
  | x :: l, h => by
    rw [List.filterMap_cons, List.filterMap_cons, h x (List.mem_cons_self ..), fm_congr fun y hy => h y (List.mem_cons_of_mem _ hy)]
theorem back_pick (us : Array Value) : ((List.range us.size).filterMap fun (k : Nat) => us[(((us.size : Nat) : Int) - 1 + (k : Int) * (-1)).toNat]?).toArray = us.toList.reverse.toArray := by
  have e : ∀ k ∈ List.range us.size, us[(((us.size : Nat) : Int) - 1 + (k : Int) * (-1)).toNat]? = us[us.size - 1 - k]? := fun k hk => by
    have := List.mem_range.mp hk
    congr 1
    omega
  rw [fm_congr e]
  have h1 : ((List.range us.size).filterMap fun k => us[us.size - 1 - k]?) = ((List.range us.size).map fun k => us.size - 1 - k).filterMap (us[·]?) := by
    rw [List.filterMap_map]; rfl
  rw [h1, krv_range, List.filterMap_reverse, krv_all]
theorem item_back {b sl : Addr} {us : Array Value} {vl vu vs : Value} {Q : Value → Shared → Prop} (at0 : IsTup s.heap b us) (at1 : s.heap.IsSliceOf sl vl vu vs) (p1 : IsPart vl none) (p2 : IsPart vu none) (p3 : IsPart vs (some (-1))) (hz : us.size ≤ sizeLine)
    (z : Q (.ref s.heap.objs.size) { s with heap := s.heap.push { cls := .type "tuple", data := .seq us.toList.reverse.toArray } }) : wpAny (model prog w) A (getItem (.ref b) (.ref sl)) Q E s := by
  have ok : sizeOk (.seq us.toList.reverse.toArray) := by
    show us.toList.reverse.toArray.size ≤ sizeLine
    simpa using hz
  obtain ⟨ob, g1, g2, g3⟩ := id at1
  have ty : s.TypeIs (.ref sl) "slice" := ⟨ob, g1, g2⟩
  unfold getItem
  try with_reducible refine wpAny_holding ?_
  first | refine wpAny_bind (wpAny_pure ?_) | skip
  refine wpAny_bind (wpAny_sequenceKey at0.typeIs (by decide) ?_)
  refine wpAny_bind (wpAny_callSpecial?_slot (name := Str.ofString "__getitem__") at0.typeIs slot_tuple_getitem (wpAny_call_entry slot_tuple_getitem at0.typeIs entry_tuple_getitem ?_ (args_tuple_getitem _ _)))
  show wpAny _ _ (Builtin.Tuple.tupleItemsOf (.ref b) >>= _) _ _ s
  refine wpAny_bind (tupleItemsOf_ at0 (wpAny_bind (wpAny_typeOf ty ?_)))
  rw [if_pos (by decide)]
  refine wpAny_bind ?_
  unfold Builtin.Slice.sliceApplied Builtin.Slice.sliceFields
  refine wpAny_bind (wpAny_bind (wpAny_field g1 g3 (x := vl) rfl (wpAny_bind (wpAny_field g1 g3 (x := vu) rfl (wpAny_bind (wpAny_field g1 g3 (x := vs) rfl (wpAny_pure ?_)))))))
  refine wpAny_bind (slicePart_ p3 ?_)
  show wpAny _ _ (if ((-1 : Int) == 0) = true then _ else _) _ _ s
  rw [if_neg (by decide)]
  refine wpAny_bind (slicePart_ p1 (wpAny_bind (slicePart_ p2 (wpAny_bind (wpAny_pure ?_)))))
  show wpAny _ _ (pure (((us.size : Nat) : Int) - 1, (-1 : Int), Builtin.Slice.slicePlaces (((us.size : Nat) : Int) - 1) (-1) (-1))) _ _ s
  rw [back_places]
  refine wpAny_pure ?_
  show wpAny _ _ (if (((us.size : Nat) : Int) - 1 == 0 && (-1 : Int) == 1 && us.size == us.size) = true then _ else _) _ _ s
  rw [if_neg (by simp), back_pick]
  first
    | exact wpAny_bind (m := Builtin.Tuple.tupleExact _) (wpAny_newObj_type (wpAny_pure ⟨_, rfl, wpAny_pure z⟩) ok)
    | exact wpAny_bind (m := Builtin.Tuple.tupleExact _) (wpAny_newObj_type (wpAny_bind (wpAny_pure (wpAny_pure ⟨_, rfl, wpAny_pure z⟩))) ok)
    | exact wpAny_bind (wpAny_bind (m := Builtin.Tuple.tupleExact _) (wpAny_newObj_type (wpAny_pure (wpAny_pure ⟨_, rfl, wpAny_pure z⟩)) ok))
    | exact wpAny_bind (wpAny_bind (m := Builtin.Tuple.tupleExact _) (wpAny_newObj_type (wpAny_pure ⟨_, rfl, wpAny_pure z⟩) ok))
end
section
variable {X : Cx} {pa : Nat → Addr} {pos : Pos}
def tRevT (K : Frag) (te : TE) : TE := fun σ H Q => te σ H fun x H1 => ∃ a xs, x = .ref a ∧ SqT K H1 a xs ∧ ∀ p, H1 p = none → Q (.ref p) (upd H1 p (.tup xs.reverse))
theorem pe_revT {e : Expr} {te : TE} {k : Nat} {p1 p2 p3 : Pos} (he : PE X e te) : PE X (.Subscript e (.Slice none none (some (.UnaryOp .USub (.Constant (.int 1) k p1) p2)) p3) pos) (tRevT X.K te) := by
  constructor
  intro pins s σ H Q I h
  refine Subscript_ (thn (he.run pins s σ H _ I h) ?_)
  rintro v s1 ⟨x, H1, I1, r1, a, xs, rfl, hx, q⟩
  cases r1
  have hst : PO X (some (.UnaryOp .USub (.Constant (.int 1) k p1) p2)) (tPart (tUn (rU fun i => .int (-i)) (tC (.int 1)))) := po_some (pe_un un_neg pe_int)
  refine wpAny_Slice (thn (po_none.run pins s1 σ H1 (fun o G => o = none ∧ G = H1) I1 ⟨rfl, rfl⟩) ?_)
  rintro vl s2 ⟨l, H2, I2, pl, rfl, rfl⟩
  refine thn (po_none.run pins s2 σ H2 (fun o G => o = none ∧ G = H2) I2 ⟨rfl, rfl⟩) ?_
  rintro vu s3 ⟨u, H3, I3, pu, rfl, rfl⟩
  refine thn (hst.run pins s3 σ H3 (fun o G => o = some (-1) ∧ G = H3) I3 ⟨1, rfl, -1, rfl, rfl, rfl⟩) ?_
  rintro vs s4 ⟨o, H4, I4, ps, rfl, rfl⟩
  have I5 : Inv X pins σ H4 { s4 with heap := s4.heap.push { cls := .type "slice", data := .fields #[vl, vu, vs] } } := I4.kept (t' := s4.toks) fun b ob q => Heap.get?_push_of_some _ q
  obtain ⟨its, r, ht, hz⟩ := I5.tuple hx
  have hlen := r.length
  refine tail_any (ops := [.ref a, .ref s4.heap.objs.size]) ht.typeIs PyProof.Rows.slot_tuple_getitem.lookup ?_ (by with_unfolding_all rfl)
  refine item_back ht (Heap.IsSliceOf.new _ vl vu vs) pl pu ps (by rw [List.size_toArray]; omega) ?_
  refine ⟨.ref _, _, I5.laid (t' := s4.toks) (o := .tup xs.reverse) (fun b ob q => Heap.get?_push_of_some _ q) (Nat.le_refl _) ?_, rfl, q _ (I5.hok.fresh (Nat.le_refl _))⟩
  exact ⟨by rw [List.length_reverse]; exact hz, _, by simpa using r.reverse, IsTup.new _ _⟩
def revD2 : PD → Option RV
  | .list ds => some (.own ds.reverse)
  | .tuple ds => some (.dat (.tuple ds.reverse))
  | _ => none
def revT : PD → Option RV
  | .tuple ds => some (.dat (.tuple ds.reverse))
  | _ => none
theorem de_revT {e : Expr} {k : Nat} {p1 p2 p3 : Pos} {m : Mr RV} (he : DE X pa e m) : DE X pa (.Subscript e (.Slice none none (some (.UnaryOp .USub (.Constant (.int 1) k p1) p2)) p3) pos) (mUn revT m) :=
  DE.of (pe_revT he) fun R e p => mUn_run (R1 := fun x H Q => ∃ a xs, x = .ref a ∧ SqT X.K H a xs ∧ ∀ p, H p = none → Q (.ref p) (upd H p (.tup xs.reverse))) (fun {B F H σ ρ x d out Q} R hx ho q => by
    unfold revT at ho
    split at ho
    · cases ho
      obtain ⟨a, vs, rfl, h1, h1', h2⟩ := hx.tup R.fh
      exact ⟨a, vs, rfl, h1', fun p hp => finT R q h2.reverse hp⟩
    · cases ho) R e p
/-- of both kinds: what the mirror says tells which -/
theorem de_rev2 {e : Expr} {k : Nat} {p1 p2 p3 : Pos} {m : Mr RV} (he : DE X pa e m) : DE X pa (.Subscript e (.Slice none none (some (.UnaryOp .USub (.Constant (.int 1) k p1) p2)) p3) pos) (mUn revD2 m) := by
  constructor
  intro pins s σ H Q I ⟨B, F, ρ, r, ρ', R, e1, p⟩
  have e2 := e1
  unfold mUn at e2
  split at e2
  · rename_i ra ρ1 h1
    split at e2
    · rename_i d h2
      cases d with
      | list ds =>
        refine (de_rev (X := X) (pa := pa) (pos := pos) he).run pins s σ H Q I ⟨B, F, ρ, r, ρ', R, ?_, p⟩
        simp only [mUn, h1, h2, revD]
        simpa [revD2] using e2
      | tuple ds =>
        refine (de_revT (X := X) (pa := pa) (pos := pos) he).run pins s σ H Q I ⟨B, F, ρ, r, ρ', R, ?_, p⟩
        simp only [mUn, h1, h2, revT]
        simpa [revD2] using e2
      | _ => cases e2
    · cases e2
  · cases e2
end
section
variable {X : Cx} {pa : Nat → Addr} {pos : Pos}
/-- script[a:b] -/
def mSlScr (i : Nat) (lo hi : Option (Mr RV)) : Mr RV := fun ρ => match ρ[i]? with
  | some (some (Val.scr ds)) => (match mPart lo ρ with
    | some (l, ρ2) => (match mPart hi ρ2 with
      | some (h, ρ3) => some (.own (cutD ds l h), ρ3)
      | none => none)
    | none => none)
  | _ => none
end
end DL
/-! DlR: sets of texts of a moment: len(set(x)). -/
namespace DL
open PySem PySem.Spec PyProof.Rows PySem.W L2
section
variable {P : Program} {w : World} {A : Around} {T : Result → Shared → Prop} {it : Addr} {fp wr : List Addr} {G : Array GenState → Array GenState → Prop} {n : Nat} {Pv : Nat → Value → Prop} {St : Nat → Shared → Prop}
end
section
variable {P : Program} {w : World} {A : Around} {E : Value → Shared → Prop} {s : Shared}
set_option maxHeartbeats 3200000 in
end
section
variable {X : Cx} {pa : Nat → Addr} {pos p0 p1 p2 : Pos} {a : Expr} {m : Mr RV}
end
end DL
/-! DlS: defs that raise errors of one's own (without fields), try around them. -/
namespace DL
open PySem PySem.Spec PyProof.Rows PySem.W L2
/-! ### what a block that may raise does -/
inductive FlX where
  | fl (f : Fl) | ex (c : Str)
abbrev Mx := Ev → Option (FlX × Ev)
def ExPost (K : Frag) (B F : Hp) (pa : Nat → Addr) (c : Str) (ρ' : Ev) (W : WX) : Prop := ∀ F' H' σ', Ext B F F' → Rep K B F' pa H' σ' ρ' → W (.ref (He.ga K c)) none σ' H'
def XPost (K : Frag) (B F : Hp) (pa : Nat → Addr) (W : WX) (fl : FlX) (ρ' : Ev) (D : Ends) : Prop := match fl with
  | .fl f => SPost K B F pa f ρ' D
  | .ex c => ExPost K B F pa c ρ' W
def tMX (K : Frag) (pa : Nat → Addr) (W : WX) (m : Mx) : TS := fun D σ H => ∃ B F ρ fl ρ', Rep K B F pa H σ ρ ∧ m ρ = some (fl, ρ') ∧ XPost K B F pa W fl ρ' D
def DX (X : Cx) (pa : Nat → Addr) (W : WX) (st : Stmt) (m : Mx) : Prop := PS X st (tMX X.K pa W m)
def DXs (X : Cx) (pa : Nat → Addr) (W : WX) (st : List Stmt) (m : Mx) : Prop := PSs X st (tMX X.K pa W m)
section
variable {X : Cx} {pa : Nat → Addr} {W : WX} {pos : Pos}
theorem DX.of {st : Stmt} {m : Mx} {t : TS} (h : PS X st t) (w : ∀ {B F : Hp} {H : Hp} {σ : St} {ρ : Ev} {fl : FlX} {ρ' : Ev} {D : Ends}, Rep X.K B F pa H σ ρ → m ρ = some (fl, ρ') → XPost X.K B F pa W fl ρ' D → t D σ H) : DX X pa W st m :=
  ⟨fun pins s σ H D I ⟨B, F, ρ, fl, ρ', R, e1, p⟩ => h.run pins s σ H D I (w R e1 p)⟩
theorem DXs.of {st : List Stmt} {m : Mx} {t : TS} (h : PSs X st t) (w : ∀ {B F : Hp} {H : Hp} {σ : St} {ρ : Ev} {fl : FlX} {ρ' : Ev} {D : Ends}, Rep X.K B F pa H σ ρ → m ρ = some (fl, ρ') → XPost X.K B F pa W fl ρ' D → t D σ H) : DXs X pa W st m :=
  ⟨fun pins s σ H D I ⟨B, F, ρ, fl, ρ', R, e1, p⟩ => h.run pins s σ H D I (w R e1 p)⟩
theorem XPost.ext {K : Frag} {B F F' : Hp} {fl : FlX} {ρ' : Ev} {D : Ends} (h : XPost K B F pa W fl ρ' D) (e : Ext B F F') : XPost K B F' pa W fl ρ' D := by
  cases fl with
  | fl f => exact SPost.ext h e
  | ex c => exact fun G H' σ' e2 R => h G H' σ' (e.trans e2) R
def mPl (m : Ms) : Mx := fun ρ => match m ρ with
  | some (f, ρ1) => some (.fl f, ρ1)
  | none => none
def mSeqX (a b : Mx) : Mx := fun ρ => match a ρ with
  | some (.fl .nx, ρ1) => b ρ1
  | some (fl, ρ1) => some (fl, ρ1)
  | none => none
def mIfX (mc : Mr Bool) (a b : Mx) : Mx := fun ρ => match mc ρ with
  | some (true, ρ1) => a ρ1
  | some (false, ρ1) => b ρ1
  | none => none
def mForX (b : Bd PD) (body : Mx) : List PD → Mx
  | [] => fun ρ => some (.fl .nx, ρ)
  | x :: xs => fun ρ => match b x ρ with
    | some ρ1 => (match body ρ1 with
      | some (.fl .nx, ρ2) => mForX b body xs ρ2
      | some (.fl .ct, ρ2) => mForX b body xs ρ2
      | some (.fl .bk, ρ2) => some (.fl .nx, ρ2)
      | some (.fl (.rt r), ρ2) => some (.fl (.rt r), ρ2)
      | some (.ex c, ρ2) => some (.ex c, ρ2)
      | none => none)
    | none => none
def mForSX (mi : Mr (List PD)) (b : Bd PD) (body : Mx) : Mx := fun ρ => match mi ρ with
  | some (items, ρ1) => mForX b body items ρ1
  | none => none
end
/-! ### raise -/
section
variable {X : Cx} {pa : Nat → Addr} {W : WX} {pos : Pos}
def mRaise (c : Str) : Mx := fun ρ => some (.ex c, ρ)
end
/-! ### a def that may raise -/
inductive Oc where
  | val (r : RV) | exc (c : Str)
abbrev EM := List Val → Option (Oc × List Val)
def OcP (K : Frag) (B F : Hp) (pa : Nat → Addr) (vs : List V) (ys : List Val) (Q : VK) (E : XK) : Oc → Prop
  | .val r => ∀ F' H' v, Ext B F F' → Rep K B F' pa H' (args0 vs) (vals0 ys) → RepR K B F' H' (args0 vs) (vals0 ys) r v → Q v H'
  | .exc c => ∀ F' H', Ext B F F' → Rep K B F' pa H' (args0 vs) (vals0 ys) → E (.ref (He.ga K c)) none H'
def spE (K : Frag) (ef : EM) : Sp := fun vs H Q E => ∃ (B F : Hp) (pa : Nat → Addr) (xs : List Val) (o : Oc) (ys : List Val), Rep K B F pa H (args0 vs) (vals0 xs) ∧ ef xs = some (o, ys) ∧ OcP K B F pa vs ys Q E o
def meOf (np n : Nat) (m : Mx) : EM := fun xs => if xs.length = np then (match m (vals0 xs ++ List.replicate (n - np) none) with
    | some (.fl (.rt (.dat d)), ρ) => (match outs xs ρ with
      | some ys => some (.val (.dat d), ys)
      | none => none)
    | some (.fl (.rt (.own ds)), ρ) => (match outs xs ρ with
      | some ys => some (.val (.own ds), ys)
      | none => none)
    | some (.fl .nx, ρ) => (match outs xs ρ with
      | some ys => some (.val (.dat .none), ys)
      | none => none)
    | some (.ex c, ρ) => (match outs xs ρ with
      | some ys => some (.exc c, ys)
      | none => none)
    | _ => none) else none
theorem FnG.dataX {P : Program} {w : World} {K : Frag} {mg : Str → Option Value} {base : Heap} {k : Nat} {x qual : Str} {params : Arguments} {body : List Stmt} {scope : Scope} {f : Addr} {fd : FuncData} {N ps : List Str} {m : Mx}
    (D : FunD K x qual params body scope [] [] f fd) (S : FnScope N ps scope)
    (bd : ∀ (cdv : Value) (A : Around) (fr : List Env) (s : Shared) (H : Hp) (E : XK) (pa : Nat → Addr), (A.deeper (envOfC qual scope s.heap.objs.size f cdv)).guards = some [] → Room k (A.deeper (envOfC qual scope s.heap.objs.size f cdv)) → CdOf K f x qual params body scope cdv →
      DXs (cxOf (L2.CX P w) P w K mg base N qual scope f cdv A fr s H E) pa (fun cls d _ H' => E cls d H') body m) : FnG P w K mg base (L2.CX P w) (k + 1) f fd ps (spE K (meOf ps.length N.length m)) := by
  have lenM : ∀ {xs : List Val} {r : Oc} {ys : List Val}, meOf ps.length N.length m xs = some (r, ys) → xs.length = ps.length := fun {xs r ys} e => by
    unfold meOf at e
    split at e
    · assumption
    · cases e
  have lenA : ∀ {B F H : Hp} {pa : Nat → Addr} {vs : List V} {xs : List Val}, Rep K B F pa H (args0 vs) (vals0 xs) → vs.length = xs.length := fun R => by
    have l := R.len
    unfold vals0 args0 at l
    rw [List.length_map, List.length_map] at l
    exact l.symm
  refine FnG.of D S (fun vs H Q E ⟨B, F, pa, xs, r, ys, R, e, _⟩ => (lenA R).trans (lenM e)) fun cdv A fr s H vs Q E hg hr hcd hsp => ?_
  obtain ⟨B, F, pa, xs, r, ys, R, e, q⟩ := hsp
  refine ⟨_, bd cdv A fr s H E pa hg hr hcd, ?_⟩
  have hl := lenM e
  have hv := lenA R
  unfold meOf at e
  rw [if_pos hl] at e
  have st : L2.start N vs = args0 vs ++ List.replicate (N.length - ps.length) none := by
    unfold L2.start args0
    rw [hv, hl]
  rw [st]
  have R1 := R.pad (N.length - ps.length)
  split at e
  · rename_i d ρ' h1
    split at e
    · rename_i ys' h2
      cases e
      exact ⟨B, F, _, _, ρ', R1, h1, show SPost _ _ _ _ _ _ _ from fun F' H' σ' E' R' v P' => q F' H' v E' (outs_rep R E' R' h2) P'⟩
    · cases e
  · rename_i ds ρ' h1
    split at e
    · rename_i ys' h2
      cases e
      exact ⟨B, F, _, _, ρ', R1, h1, show SPost _ _ _ _ _ _ _ from fun F' H' σ' E' R' v P' => q F' H' v E' (outs_rep R E' R' h2) (outs_own R R' h2 P')⟩
    · cases e
  · rename_i ρ' h1
    split at e
    · rename_i ys' h2
      cases e
      exact ⟨B, F, _, _, ρ', R1, h1, show SPost _ _ _ _ _ _ _ from fun F' H' σ' E' R' => q F' H' .non E' (outs_rep R E' R' h2) .non⟩
    · cases e
  · rename_i c ρ' h1
    split at e
    · rename_i ys' h2
      cases e
      exact ⟨B, F, _, _, ρ', R1, h1, show ExPost K B F pa c ρ' (fun cls d _ H' => E cls d H') from fun F' H' σ' E' R' => q F' H' E' (outs_rep R E' R' h2)⟩
    · cases e
  · cases e
/-! ### calls that may raise -/
section
variable {X : Cx} {pa : Nat → Addr} {W : WX} {pos p : Pos} {CX : CXT} {k : Nat} {f : Addr} {fd : FuncData} {ps : List Str} {x : Str} {e : Expr} {es : List Expr}
def OPost (K : Frag) (B F : Hp) (pa : Nat → Addr) (W : WX) (σ : St) (ρ' : Ev) (Q : VK) : Oc → Prop
  | .val r => EPost K B F pa σ r ρ' Q
  | .exc c => ∀ F' H', Ext B F F' → Rep K B F' pa H' σ ρ' → W (.ref (He.ga K c)) none σ H'
abbrev Mo := Ev → Option (Oc × Ev)
theorem OPost.ext {K : Frag} {B F F' : Hp} {σ : St} {ρ' : Ev} {Q : VK} {o : Oc} (h : OPost K B F pa W σ ρ' Q o) (e : Ext B F F') : OPost K B F' pa W σ ρ' Q o := by
  cases o with
  | val r => exact EPost.ext h e
  | exc c => exact fun G H' e2 R => h G H' (e.trans e2) R
def Oc.plain : Oc → Bool
  | .val (.dat _) => true
  | .val (.own _) => true
  | .exc _ => true
  | _ => false
def mCallE (ef : EM) (ms : Mr (List RV)) : Mo := fun ρ => match ms ρ with
  | some (rs, ρ1) => (match toVals (rs.map holdR) ρ1 with
    | some (xs, ρ2) => (match ef xs with
      | some (o, _) => if o.plain = true then some (o, ρ2) else none
      | none => none)
    | none => none)
  | none => none
/-- [e, f(..)] -/
def mLst2X (m : Mr RV) (mo : Mo) : Mo := fun ρ => match m ρ with
  | some (.dat d, ρ1) => (match mo ρ1 with
    | some (.val (.dat d2), ρ2) => some (.val (.own [d, d2]), ρ2)
    | some (.val (.own d2), ρ2) => some (.val (.own [d, .list d2]), ρ2)
    | some (.exc c, ρ2) => some (.exc c, ρ2)
    | _ => none)
  | _ => none
def mSetX (i : Nat) (mo : Mo) : Mx := fun ρ => match mo ρ with
  | some (.val r, ρ1) => (match put i r ρ1 with
    | some ρ2 => some (.fl .nx, ρ2)
    | none => none)
  | some (.exc c, ρ1) => some (.ex c, ρ1)
  | none => none
end
/-! ### try: .. except C as e: told = [word, isinstance(e, D)] -/
def mTry (c : Str) (body : Mx) (hd : Ms) : Ms := fun ρ => match body ρ with
  | some (.fl f, ρ1) => some (f, ρ1)
  | some (.ex c', ρ1) => if c' = c then hd ρ1 else none
  | none => none
/-- slot i was the error's, slot j is told -/
def mTold (i j : Nat) (w : Str) (b : Bool) : Ms := fun ρ => if i < ρ.length ∧ i ≠ j then some (.nx, (ρ.set i none).set j (some (.own [.str w, .bool b]))) else none
theorem Rep.any {K : Frag} {B F : Hp} {pa : Nat → Addr} {H : Hp} {σ : St} {ρ : Ev} (R : Rep K B F pa H σ ρ) (i : Nat) (o : Option V) (hn : ρ[i]? = some none ∨ ρ[i]? = none) : Rep K B F pa H (σ.set i o) ρ := by
  have ne : ∀ {j : Nat} {x : Val}, ρ[j]? = some (some x) → i ≠ j := fun {j x} e z => by
    subst z
    rcases hn with h | h <;> rw [h] at e <;> cases e
  refine ⟨R.fh, R.bh, R.tb, by rw [List.length_set]; exact R.len, fun j d e => ?_, fun j x ds e m => ?_, fun j ds e => ?_, fun j ds e => ?_, fun j k x y ds es a e1 e2 m1 m2 h1 h2 => ?_⟩
  · rw [List.getElem?_set_ne (ne e)]; exact R.dat j d e
  · rw [List.getElem?_set_ne (ne e)]; exact R.mu j x ds e m
  · rw [List.getElem?_set_ne (ne e)]; exact R.pin j ds e
  · rw [List.getElem?_set_ne (ne e)]; exact R.scr j ds e
  · rw [List.getElem?_set_ne (ne e1)] at h1
    rw [List.getElem?_set_ne (ne e2)] at h2
    exact R.inj j k x y ds es a e1 e2 m1 m2 h1 h2
section
variable {X : Cx} {pa : Nat → Addr} {pos : Pos}
end
/-! ### a def of the text that may raise, walked -/
structure FnE (P : Program) (w : World) (K : Frag) (mg : Str → Option Value) (base : Heap) (k : Nat) (x : Str) (st : Stmt) (ps : List Str) (ef : EM) : Prop where
  ex : ∃ f fd, FunD K x x (defArgs st) (defBody st) (defScope st) [] [] f fd ∧ mg x = some (.ref f) ∧ Binds K fd ps [] ∧ FnG P w K mg base (L2.CX P w) k f fd ps (spE K ef)
theorem FnE.of {fa : List He.Fa} {fn : List He.DefD} {xf : List XF} {P : Program} {w : World} {K : Frag} {mg : Str → Option Value} {base : Heap} {k : Nat} {x : Str} {st : Stmt} {N ps : List Str} {m : Mx} (c : Facts fa fn xf K mg base) (i j : Nat) (S : FnScope N ps (defScope st)) (pl : Plain x st ps)
    (bd : ∀ (f : Addr) (cdv : Value) (A : Around) (fr : List Env) (s : Shared) (H : Hp) (E : XK) (pa : Nat → Addr), (A.deeper (envOfC x (defScope st) s.heap.objs.size f cdv)).guards = some [] → Room k (A.deeper (envOfC x (defScope st) s.heap.objs.size f cdv)) →
      Takes (cxOf (L2.CX P w) P w K mg base N x (defScope st) f cdv A fr s H E) (fun cls d _ H' => E cls d H') → PassesOwn (model P w) (A.deeper (envOfC x (defScope st) s.heap.objs.size f cdv)) (envOfC x (defScope st) s.heap.objs.size f cdv) (cxOf (L2.CX P w) P w K mg base N x (defScope st) f cdv A fr s H E).xe → TabX (cxOf (L2.CX P w) P w K mg base N x (defScope st) f cdv A fr s H E) →
      DXs (cxOf (L2.CX P w) P w K mg base N x (defScope st) f cdv A fr s H E) pa (fun cls d _ H' => E cls d H') (defBody st) m)
    (hf : fn[i]? = some ⟨(x, none), x, x, defArgs st, defBody st, defScope st, [], []⟩ := by rfl) (hg : fa[j]? = some (.glo x) := by rfl) : FnE P w K mg base (k + 1) x st ps (meOf ps.length N.length m) := by
  obtain ⟨fd, F⟩ := c.def_ i hf
  exact ⟨_, fd, F, c.glo j hg, F.bindsN pl, FnG.dataX F S fun cdv A fr s H E pa h1 h2 h3 => bd _ cdv A fr s H E pa h1 h2 (takes_of rfl rfl rfl rfl) (passes_of rfl) (tabX_of c.tk h3 rfl rfl rfl rfl rfl)⟩
theorem FnE.lift {P : Program} {w : World} {K : Frag} {mg : Str → Option Value} {base : Heap} {j k : Nat} {x : Str} {st : Stmt} {ps : List Str} {ef : EM} (F : FnE P w K mg base j x st ps ef) (h : j ≤ k) : FnE P w K mg base k x st ps ef := by
  obtain ⟨f, fd, a, b, c, d⟩ := F.ex
  exact ⟨f, fd, a, b, c, d.lift h⟩
end DL
/-! DlT: a, b = a tuple or a list. -/
namespace DL
open PySem PySem.Spec PyProof.Rows PySem.W L2
section
variable {X : Cx} {pa : Nat → Addr} {pos : Pos}
def bTup2 (n : Nat) (bs : Bd (List PD)) : Bd PD := fun d ρ => match d with
  | .tuple ds => if ds.length = n then bs ds ρ else none
  | .list ds => if ds.length = n then bs ds ρ else none
  | _ => none
theorem pg_two {e : Expr} {t u : TG} (h1 : PG X e t) (h2 : PG X e u) : PG X e fun v σ H Q => t v σ H Q ∨ u v σ H Q := by
  refine ⟨fun pins s σ H v w Q I r hw => ?_⟩
  rcases hw with hw | hw
  · exact h1.run pins s σ H v w Q I r hw
  · exact h2.run pins s σ H v w Q I r hw
theorem dg_tup2 {es : List Expr} {k n : Nat} {is : List Nat} {bs : Bd (List PD)} (hc : X.calm = true) (h : DGs X pa es is bs) (hn : (assignEach es X.env).length = n := by rfl) (hst : (assignEach es X.env).findIdx? (·.1) = none := by rfl) : DG X pa (.Tuple es k pos) is (bTup2 n bs) := by
  constructor
  intro pins s σ H v u Q I r g
  refine (pg_two (pg_tup hc h hn hst) (pg_lst hc h hn hst)).run pins s σ H v u Q I r ?_
  obtain ⟨B, F, ρ, d, ρ', R, hv, e, q⟩ := g
  unfold bTup2 at e
  split at e
  · rename_i ds
    split at e
    · rename_i hl
      cases hv with
      | tup hs ht =>
        exact .inl ⟨_, _, rfl, SqT.le R.fh hs, ht.length.trans hl, B, F, ρ, ds, ρ', R, ht, e, q⟩
    · cases e
  · rename_i ds
    split at e
    · rename_i hl
      cases hv with
      | lst hs ht =>
        exact .inr ⟨_, _, rfl, SqL.of (R.fh _ _ hs), ht.length.trans hl, B, F, ρ, ds, ρ', R, ht, e, q⟩
    · cases e
  · cases e
end
end DL
/-! DlU: x = [new lists]; a test; for y in x: y.append(None). Neither x nor y is looked at behind it. -/
namespace DL
open PySem PySem.Spec PyProof.Rows L2
def ownsOf : List RV → Option (List (List PD))
  | [] => some []
  | .own ds :: rs => (match ownsOf rs with
    | some dss => if ds.length ≤ 100000 then some (ds :: dss) else none
    | none => none)
  | _ => none
section
variable {K : Frag} {B F : Hp} {pa : Nat → Addr} {H : Hp} {σ : St} {ρ : Ev}
theorem RepRo.upd {a : Addr} {o : HO} (hF : F a = none) : ∀ {rs : List RV} {dss : List (List PD)} {vs : List V}, ownsOf rs = some dss → RepRo K B F H σ ρ rs vs → (∀ (j : Nat) es, rs[j]? = some (.own es) → vs[j]? ≠ some (.ref a)) → RepRo K B (upd F a o) H σ ρ rs vs
  | [], _, _, _, h, _ => h
  | .own ds :: rs, _, _, e, ⟨v, ws, ev, h, ap, t⟩, n => by
    unfold ownsOf at e
    split at e
    · rename_i dss' e'
      obtain ⟨b, us, rfl, h2, h3, h4, h5, h6⟩ := h
      subst ev
      refine ⟨_, ws, rfl, ⟨b, us, rfl, h2, ?_, h4, h5.le (Le.upd hF), h6⟩, ap, RepRo.upd hF e' t fun j es g => ?_⟩
      · have := n 0 ds (by simp)
        rw [upd_ne]
        · exact h3
        · rintro rfl; exact this (by simp)
      · have := n (j + 1) es (by simpa using g)
        simpa using this
    · cases e
  | .dat _ :: _, _, _, e, _, _ => by cases e
  | .bor _ :: _, _, _, e, _, _ => by cases e
  | .scr _ :: _, _, _, e, _, _ => by cases e
end
section
variable {X : Cx} {pa : Nat → Addr}
end
end DL
/-! DlV: * of large ints. -/
namespace DL
open PySem PySem.Spec PyProof.Rows L2
def bigN : Nat := 2 ^ 8000
section
variable {X : Cx} {pa : Nat → Addr} {pos : Pos} {a b : Expr} {ma mb : Mr RV}
def mulD3 (x y : PD) : Option RV := match x, y with
  | .int i, .int j => if ((-18446744073709551616 < i ∧ i < 18446744073709551616) ∨ (-18446744073709551616 < j ∧ j < 18446744073709551616)) ∨ (i.natAbs < bigN ∧ j.natAbs < bigN) then some (.dat (.int (i * j))) else none
  | x, y => mulD2 x y
def divmodF2 : List PD → Option RV
  | [.int i, .int j] => if 0 < j ∧ j.natAbs < bigN then some (.dat (.tuple [.int (i / j), .int (i % j)])) else none
  | _ => none
end
end DL
/-! DlW: a lambda is made; sorted(range(..), key=lambda side: (0 - row[side], side)). -/
namespace DL
open PySem PySem.Spec PyProof.Rows L2
section
variable {X : Cx} {pins : List (Addr × Obj)} {σ : St} {H : Hp} {s : Shared}
abbrev lamQ (X : Cx) : Str := X.env.qual ++ "<lambda>"
abbrev lamClo (X : Cx) (scope : Scope) : List (Str × Addr) := L2.cloFrom X.env.cells scope.names []
/-- the object of a lambda just made -/
abbrev lamO (X : Cx) (params : Arguments) (body : Expr) (scope : Scope) (pm : Value) (c' : Addr) (ctv : Value) : Obj := PySem.W.kla_obj "<lambda>" (lamQ X) params body scope (lamClo X scope) pm c' ctv
theorem lam_new {params : Arguments} {body : Expr} {scope : Scope} {pos : Pos} {E : Value → Shared → Prop} {Q : Value → Shared → Prop}
    (I : Inv X pins σ H s) (tx : TabX X) (hT : Tb X.K H)
    (hdef : defaultsOf params X.env = ([], []))
    (hfree : ∀ y ∈ scope.names, y.2 = .free → ∃ c, X.env.cells.lookup y.1 = some c)
    (go : ∀ (f c' : Addr) (pm ctv : Value) (G : Hp) (u : Shared), Inv X pins σ G u → Le H G → Tb X.K G → u.heap.get? f = some (lamO X params body scope pm c' ctv) → G f = none → f ∉ frs X.stack → G c' = some (LamX.CodeO c' (lamQ X)) → Q (.ref f) u) :
    wpAny (model X.prog X.w) X.A (eval (.Lambda params body scope pos) X.env) Q E s := by
  obtain ⟨c, P, hcode, TB, hm, hu⟩ := tx.ex
  obtain ⟨ps, tP, tr, am⟩ := hT _ hm
  have hP : s.heap.get? P = some { cls := .none, data := .fields ps } := I.hok P _ tP
  have away : ∀ f, s.heap.objs.size ≤ f → f ∉ frs X.stack := fun f hf z => by
    rcases List.mem_cons.mp (I.stkSub _ z) with e | e
    · have h1 := I.lt
      rw [e] at hf
      exact absurd h1 (Nat.not_lt.mpr hf)
    · exact I.nofs hf e
  have gk := I.mod.glob.keeps I.bk
  have ck := TB.code.keeps I.bk
  have mk := TB.bm.keeps I.bk
  refine PySem.W.kla_eval hdef ?_
  rcases q : codeAmong pos ps.toList with _ | cv
  · refine PySem.W.kla_makeFunction (mg := X.mg) (closure_ok hfree) I.ok.glob gk hcode ck hP tr q TB.gP mk fun c' ctv h' tk hx hge hlt hrec htb => ?_
    obtain ⟨d, oc, us, t, e, hoc, hd, hv⟩ := hrec
    cases e
    have nc : H c' = none := I.hok.fresh hge
    let more : Array Value := #[rawInt pos.line, rawInt pos.col, .ref c']
    let o2 : Obj := lamO X params body scope ((X.mg "__name__").getD .none) c' ctv
    have J := LamX.inv_table (t' := tk) (more := more) (h' := h'.push o2) I tP (fun b o hb e => Heap.get?_push_of_some _ (hx b o hb e)) (Heap.get?_push_of_some _ htb) hge ⟨oc, us, t, Heap.get?_push_of_some _ hoc, hd, hv⟩
    have hsz : s.heap.objs.size ≤ h'.objs.size := Nat.le_trans hge (Nat.le_of_lt hlt)
    have ple : P < h'.objs.size := Nat.lt_of_lt_of_le (Heap.lt_size hP) hsz
    have stay : ∀ b o, H b = some o → (∀ r, o ≠ .tbl r) → upd (upd H P (.tbl (ps ++ more))) c' (LamX.CodeO c' (lamQ X)) b = some o := fun b o e n => by
      rw [upd_ne (ne_of_none e nc), upd_ne]
      · exact e
      · rintro rfl
        exact n ps (Option.some.inj (e.symm.trans tP))
    refine go h'.objs.size c' _ ctv _ _ J (fun b o e => ?_) (fun p hp => ?_) (Heap.get?_push_size _ rfl) ?_ (away _ hsz) upd_same
    · by_cases hb : b = P
      · subst hb
        rw [tP] at e
        cases e
        exact ⟨_, (upd_ne (ne_of_none tP nc)).trans upd_same⟩
      · refine .of ?_
        rw [upd_ne (ne_of_none e nc), upd_ne hb]; exact e
    · by_cases hb : p.1 = P
      · rw [hu p hp hb, hb]
        refine ⟨_, (upd_ne (ne_of_none tP nc)).trans upd_same, ?_, fun p' v hc => ?_⟩
        · rw [Array.toList_append]; exact PySem.TriplesOk_snoc _ _ _ _ tr
        · rw [Array.toList_append] at hc
          rcases LamX.among_app _ tr hc with z | z
          · obtain ⟨c0, e1, e2⟩ := am p' v z
            exact ⟨c0, e1, stay _ _ e2 LamX.codeO_ne⟩
          · exact ⟨c', z, upd_same⟩
      · obtain ⟨r, a1, a2, a3⟩ := hT p hp
        refine ⟨r, ?_, a2, fun p' v hc => ?_⟩
        · rw [upd_ne (ne_of_none a1 nc), upd_ne hb]; exact a1
        · obtain ⟨c0, e1, e2⟩ := a3 p' v hc
          exact ⟨c0, e1, stay _ _ e2 LamX.codeO_ne⟩
    · rw [upd_ne (Nat.ne_of_gt hlt), upd_ne (Nat.ne_of_gt ple)]
      exact I.hok.fresh hsz
  · obtain ⟨c', e, hco⟩ := am pos cv q
    subst e
    refine PySem.W.kla_makeFunctionHit (mg := X.mg) (closure_ok hfree) I.ok.glob gk hcode ck hP tr q mk fun ctv h' tk hx hsz => ?_
    exact go h'.objs.size c' _ ctv H _ (I.kept fun b o e => Heap.get?_push_of_some _ (hx b o e)) (Le.refl _) hT (Heap.get?_push_size _ rfl) (I.hok.fresh hsz) (away _ hsz) hco
theorem lam_free {scope : Scope} (ok : X.Ok) (h : ∀ y ∈ scope.names, y.2 = .free → X.env.scope.names.lookup y.1 = some .cell ∨ X.env.scope.names.lookup y.1 = some .free) : ∀ y ∈ scope.names, y.2 = .free → ∃ c, X.env.cells.lookup y.1 = some c := fun y hy e =>
  ok.has _ (h y hy e)
/-- a captured name's cell -/
theorem lam_cell {scope : Scope} {y : Str} {c : Addr} (hy : scope.names.lookup y = some .free) (hc : X.env.cells.lookup y = some c) : (lamClo X scope).lookup y = some c := by
  obtain ⟨c2, h2⟩ := L2.mem_lookup (cloFrom_has (cells := X.env.cells) (acc := []) (PySem.mem_of_lookup hy))
  rw [h2]
  rcases cloFrom_mem (PySem.mem_of_lookup h2) with z | ⟨_, z⟩
  · cases z
  · rw [z, hc]; rfl
end
/-- (0 - row[side], side) -/
abbrev keyE (rn sn : Str) (k0 k1 : Nat) (p1 p2 p3 p4 p5 p6 p7 : Pos) : Expr := .Tuple [.BinOp (.Constant (.int 0) k0 p1) .Sub (.Subscript (.Name rn p2) (.Name sn p3) p4) p5, .Name sn p6] k1 p7
structure KeyS (scope : Scope) (rn sn : Str) : Prop where
  kind : scope.kind = .function
  co : scope.isCoroutine = false
  gen : scope.isGenerator = false
  nc : ∀ y ∈ scope.names, y.2 ≠ .cell
  loc : scope.names.lookup sn = some .local
  fr : scope.names.lookup rn = some .free
  d1 : (rn == ("__debug__" : Str)) = false
  d2 : (sn == ("__debug__" : Str)) = false
  d3 : (rn == ("__classdict__" : Str)) = false
theorem key_call {prog : Program} {w : World} {A : Around} {s : Shared} {f c' cr t : Addr} {qual rn sn : Str} {params : Arguments} {scope : Scope} {clos : List (Str × Addr)} {pm ctv : Value} {us : Array Value} {n : Int} {i : Nat} {ti tn : Tok} {k0 k1 : Nat} {p1 p2 p3 p4 p5 p6 p7 : Pos}
    (hroom : A.depth < recursionLimit) (lim : s.heap.NoLimit) (hf : s.heap.get? f = some (PySem.W.kla_obj "<lambda>" qual params (keyE rn sn k0 k1 p1 p2 p3 p4 p5 p6 p7) scope clos pm c' ctv)) (hcd : s.heap.CodeRec (.ref c') qual)
    (S : KeyS scope rn sn) (hbind : ∀ v, bindArgs (PySem.W.kla_fn "<lambda>" qual params (keyE rn sn k0 k1 p1 p2 p3 p4 p5 p6 p7) scope clos pm (.ref c') ctv) ⟨[v], []⟩ = pure [(sn, v)])
    (hcl : clos.lookup rn = some cr) (hc : s.heap.IsCell cr (some (.ref t))) (ht : IsTup s.heap t us) (hi : us[i]? = some (.int n tn)) (hz : us.size ≤ 1000) :
    wpAny (model prog w) A (call (.ref f) [.int i ti]) (PySem.W.KeyPure (.tuple [.int (0 - n), .int i]) s) (fun _ _ => False) s := by
  have hin : i < us.size := (Array.getElem?_eq_some_iff.mp hi).1
  refine wpAny_call (codeAny_mono (R := fun r u => ∃ v, r = .ok (.ret v) ∧ PySem.W.KeyPure (.tuple [.int (0 - n), .int i]) s v u) (PySem.W.kla_callFunE hroom hf rfl S.co S.gen rfl hcd ?_) fun r u hq => by obtain ⟨v, rfl, q⟩ := hq; exact q)
  show wpAny _ _ (bindArgs (PySem.W.kla_fn "<lambda>" qual params (keyE rn sn k0 k1 p1 p2 p3 p4 p5 p6 p7) scope clos pm (.ref c') ctv) ⟨[.int i ti], []⟩) _ _ _
  rw [hbind]
  refine wpAny_pure (wpAny_newFunctionEnv S.nc (fun y hy => ?_) (fun h₁ hns hsb => ⟨lim.fresh _ hsb, ?_⟩) S.kind)
  · rw [List.mem_singleton.mp hy]; exact S.loc
  have kp : ∀ b o, s.heap.get? b = some o → h₁.get? b = some o := fun b o e => hsb.extBut b o (Nat.ne_of_lt (Heap.lt_size e)) (Heap.get?_push_of_some _ e)
  have tup1 : IsTup h₁ t us := by obtain ⟨o, e, r⟩ := ht; exact ⟨o, kp _ _ e, r⟩
  have cell1 : h₁.IsCell cr (some (.ref t)) := by obtain ⟨o, e, r⟩ := hc; exact ⟨o, kp _ _ e, r⟩
  show codeAny _ _ (.expr (keyE rn sn k0 k1 p1 p2 p3 p4 p5 p6 p7) (PySem.W.envX qual scope s.heap.objs.size f (.ref c') clos)) _ _
  refine PySem.W.kla_codeExpr (wpAny_Tuple_spliced ?_)
  show wpAny _ _ (spliced [(false, eval (.BinOp (.Constant (.int 0) k0 p1) .Sub (.Subscript (.Name rn p2) (.Name sn p3) p4) p5) (PySem.W.envX qual scope s.heap.objs.size f (.ref c') clos)), (false, eval (.Name sn p6) (PySem.W.envX qual scope s.heap.objs.size f (.ref c') clos))]) _ _ _
  have side : ∀ {g : Heap} {tk : Nat} {Q : Value → Shared → Prop} {E : Value → Shared → Prop} {p : Pos}, (∀ b o, h₁.get? b = some o → g.get? b = some o) → Q (.int i ti) { s with heap := g, toks := tk } →
      wpAny (model prog w) (A.deeper (PySem.W.envX qual scope s.heap.objs.size f (.ref c') clos)) (eval (.Name sn p) (PySem.W.envX qual scope s.heap.objs.size f (.ref c') clos)) Q E { s with heap := g, toks := tk } := fun {g tk Q E p} k q =>
    wpAny_Name (wpAny_loadName_local (v := .int i ti) S.kind S.loc (hns.keeps k) (by show List.lookup sn [(sn, Value.int i ti)] = _; rw [List.lookup_cons, beq_self_eq_true]) q) S.d2
  refine Calls.spliced_cons (wpAny_BinOp (wpAny_Constant_int (wpAny_Subscript_Name (T := "tuple") slot_tuple_getitem.lookup
    (wpAny_Name (wpAny_loadName_free (c := cr) (v := .ref t) S.kind S.fr hcl cell1 (side (fun _ _ e => e) ⟨tup1.typeIs, getItem_tuple (j := i) (x := .int n tn) tup1 (by omega) (by omega) (seqIndex_of (by omega) (by omega)) hi (sub_int ?_)⟩) S.d3) S.d1))))
  refine Calls.spliced_cons (side (fun _ _ e => e) (Calls.spliced_nil ⟨by show 2 ≤ sizeLine; rw [sizeLine_eq]; decide, ⟨_, rfl, _, _, rfl, fun b o e => Heap.get?_push_of_some _ (kp b o e), ?_⟩⟩))
  exact Reads.tuple (Heap.get?_push_size _ rfl) rfl rfl (.cons (.int _ _) (.cons (.int _ _) .nil))
end DL
namespace DL
open PySem PySem.Spec PyProof.Rows L2
/-! ### sorted(..) by that key -/
/-- the sides by what they have, the greatest first, of like ones the first side -/
def fallL (ns : List Int) : List Nat := (List.range ns.length).mergeSort fun p q => decide (0 - ns.getD p 0 < 0 - ns.getD q 0 ∨ (0 - ns.getD p 0 = 0 - ns.getD q 0 ∧ (p : Int) ≤ (q : Int)))
theorem fallL_perm (ns : List Int) : (fallL ns).Perm (List.range ns.length) := List.mergeSort_perm ..
theorem fallL_len (ns : List Int) : (fallL ns).length = ns.length := by rw [(fallL_perm ns).length_eq, List.length_range]
def fallV (ns : List Int) : List V := (fallL ns).map fun i => V.int (i : Nat)
def keyD (ns : List Int) (i : Nat) : PyData := .tuple [.int (0 - ns.getD i 0), .int i]
def isN (v : Value) (i : Nat) : Prop := ∃ t, v = .int (i : Nat) t
section
variable {X : Cx} {pins : List (Addr × Obj)} {σ : St} {H : Hp} {s : Shared}
theorem isN_vals : ∀ {out : List Value} {is : List Nat}, PySem.W.EachIs isN out is → Vals (is.map fun i => V.int (i : Nat)) out
  | _, _, .nil => .nil
  | _, _, .cons h t => .cons h (isN_vals t)
theorem keys_ok (ns : List Int) : PySem.W.AllAlike ((List.range ns.length).map (keyD ns)) ∧ PySem.W.Sortable ((List.range ns.length).map (keyD ns)) ∧ ∀ i, (keyD ns i).depth = 1 :=
  ⟨PySem.W.AllAlike.of fun _ _ => by simp [PySem.W.alike, PySem.W.alikeAll, keyD], PySem.W.Sortable.tuples fun _ => ⟨_, _, rfl⟩, fun i => by simp [keyD, PyData.depth, PyData.depthAll]⟩
theorem key_sort (ns : List Int) : (List.range ns.length).mergeSort (PySem.W.dataLe false (keyD ns)) = fallL ns := by
  have e : keyD ns = fun i => .tuple [.int ((fun i => 0 - ns.getD i 0) i), .int ((fun i : Nat => (i : Int)) i)] := rfl
  rw [e, PySem.W.dataLe_ii (β := Nat) (fun i => 0 - ns.getD i 0) (fun i => (i : Int))]
  rfl
/-- the lambda's own calls while it is sorted -/
theorem key_turn {f c' t : Addr} {rn sn : Str} {params : Arguments} {scope : Scope} {pm ctv : Value} {ns : List Int} {k0 k1 i : Nat} {p1 p2 p3 p4 p5 p6 p7 : Pos} (I : Inv X pins σ H s) 
    (hf : s.heap.get? f = some (lamO X params (keyE rn sn k0 k1 p1 p2 p3 p4 p5 p6 p7) scope pm c' ctv)) (hco : H c' = some (LamX.CodeO c' (lamQ X))) (S : KeyS scope rn sn)
    (hbind : ∀ v, bindArgs (PySem.W.kla_fn "<lambda>" (lamQ X) params (keyE rn sn k0 k1 p1 p2 p3 p4 p5 p6 p7) scope (lamClo X scope) pm (.ref c') ctv) ⟨[v], []⟩ = pure [(sn, v)])
    (hN : X.N[i]? = some rn) (hk : X.env.scope.names.lookup rn = some .cell) (hσ : σ[i]? = some (some (.ref t))) (hs : SqT X.K H t (ns.map V.int)) (hz : ns.length ≤ 1000) {A : Around} (hA : A.depth < recursionLimit) :
    ∀ (v : Value) (j : Nat), isN v j → j ∈ List.range ns.length → ∀ (h : Heap) (tk : Nat), (∀ b o, s.heap.get? b = some o → h.get? b = some o) →
      wpAny (model X.prog X.w) A (call (.ref f) [v]) (PySem.W.KeyPure (keyD ns j) { s with heap := h, toks := tk }) (fun _ _ => False) { s with heap := h, toks := tk } := by
  rintro v j ⟨tj, rfl⟩ hj h tk kp
  have hj := List.mem_range.mp hj
  obtain ⟨m, hn, hl⟩ := I.loc
  obtain ⟨u, ru, lk⟩ := hl i rn _ hN hσ (.inr (.inl hk))
  have eu : u = .ref t := ru
  subst eu
  rcases lk with ⟨z, _⟩ | ⟨_, c, hc, hcell⟩
  · have z : X.env.scope.names.lookup rn = some .local := z
    rw [hk] at z; cases z
  obtain ⟨its, rv, ht, _⟩ := I.tuple hs
  have hz2 : its.length = ns.length := by rw [← rv.length, List.length_map]
  have ex : (ns.map V.int)[j]? = some (V.int (ns.getD j 0)) := by rw [List.getElem?_map, List.getElem?_eq_getElem hj, List.getD_eq_getElem?_getD, List.getElem?_eq_getElem hj]; rfl
  obtain ⟨y, hy, ry⟩ := rv.get ex
  obtain ⟨tn, rfl⟩ := ry
  obtain ⟨⟨oc, vs, t0, g1, g2, g3⟩, _⟩ := I.hok c' _ hco
  refine key_call (s := { s with heap := h, toks := tk }) hA (I.nolimit.keeps kp) (kp _ _ hf) ⟨c', oc, vs, t0, rfl, kp _ _ g1, g2, g3⟩ S hbind (lam_cell S.fr hc) ?_ ?_ (t := t) (us := its.toArray) (tn := tn) ?_ ?_
  · obtain ⟨o, e, r⟩ := hcell; exact ⟨o, kp _ _ e, r⟩
  · obtain ⟨o, e, r⟩ := ht; exact ⟨o, kp _ _ e, r⟩
  · simpa using hy
  · simpa [hz2] using hz
/-- the sorted list is laid -/
theorem inv_sorted {ns : List Int} {h' : Heap} {tk c : Nat} {a : Addr} {out : List Value} (I : Inv X pins σ H s) (hz : ns.length ≤ 1000) (kp : ∀ b o, s.heap.get? b = some o → h'.get? b = some o) (ha : s.heap.objs.size ≤ a) (hD : h'.get? a = some (seqObj "list" (List.toArray out) c)) (eo : PySem.W.EachIs isN out (fallL ns)) :
    Inv X pins σ (upd H a (.lst (fallV ns))) { s with heap := h', toks := tk } ∧ H a = none :=
  ⟨I.laid kp ha (show ObjOk X.prog X.w _ _ _ (.lst (fallV ns)) from ⟨by unfold fallV; rw [List.length_map, fallL_len, sizeLine_eq]; omega, out, c, isN_vals eo, hD⟩), I.hok.fresh ha⟩
theorem vals_isN : ∀ {us : List Value} {is : List Nat}, Vals (is.map fun i => V.int (i : Nat)) us → PySem.W.EachIs isN us is
  | _, [], h => by cases h; exact .nil
  | _, i :: is, h => by
    cases h with
    | cons h1 h2 => exact .cons h1 (vals_isN h2)
theorem sizes {n : Nat} (h : n ≤ 1000) : n ≤ sizeLine := by rw [sizeLine_eq]; omega
end
section
variable {X : Cx} {e : Expr} {t : TE} {p p1 pos lpos kpos q1 q2 q3 q4 q5 q6 q7 : Pos} {rn sn : Str} {params : Arguments} {scope : Scope} {k0 k1 i j : Nat}
/-- what is asked where the sorting begins, and what comes -/
def tFall (K : Frag) (i : Nat) (arg : V → Hp → Nat → Prop) (t : TE) : TE := fun σ H Q => t σ H fun x H1 => ∃ ts ns, arg x H1 ns.length ∧ σ[i]? = some (some (.ref ts)) ∧ SqT K H1 ts (ns.map V.int) ∧ ns.length ≤ 1000 ∧ Tb K H1 ∧
  ∀ H2 p, Le H1 H2 → Tb K H2 → H2 p = none → Q (.ref p) (upd H2 p (.lst (fallV ns)))
def rangeV (n : Nat) : List V := (List.range n).map fun i => V.int (i : Nat)
/-- the facts of the lambda that are looked at once -/
structure KeyF (X : Cx) (params : Arguments) (body : Expr) (scope : Scope) (rn sn : Str) (i : Nat) : Prop where
  S : KeyS scope rn sn
  bind : ∀ (q : Str) (cl : List (Str × Addr)) (pm cv ctv v : Value), bindArgs (PySem.W.kla_fn "<lambda>" q params body scope cl pm cv ctv) ⟨[v], []⟩ = pure [(sn, v)]
  def_ : defaultsOf params X.env = ([], [])
  free : ∀ y ∈ scope.names, y.2 = .free → X.env.scope.names.lookup y.1 = some .cell ∨ X.env.scope.names.lookup y.1 = some .free
  N : X.N[i]? = some rn
  cell : X.env.scope.names.lookup rn = some .cell
def freeB (sc scope : Scope) : Bool := scope.names.all fun y => !decide (y.2 = .free) || decide (sc.names.lookup y.1 = some .cell) || decide (sc.names.lookup y.1 = some .free)
theorem freeB_ok {sc scope : Scope} (h : freeB sc scope = true) : ∀ y ∈ scope.names, y.2 = .free → sc.names.lookup y.1 = some .cell ∨ sc.names.lookup y.1 = some .free := fun y hy e => by
  have z := List.all_eq_true.mp h y hy
  simp only [Bool.or_eq_true, Bool.not_eq_true', decide_eq_true_eq, decide_eq_false_iff_not] at z
  rcases z with (z | z) | z
  · exact absurd e z
  · exact .inl z
  · exact .inr z
theorem keyF_of (h1 : scope.kind = .function := by rfl) (h2 : scope.isCoroutine = false := by rfl) (h3 : scope.isGenerator = false := by rfl) (h4 : ∀ y ∈ scope.names, y.2 ≠ .cell := by decide) (h5 : scope.names.lookup sn = some .local := by rfl) (h6 : scope.names.lookup rn = some .free := by rfl)
    (d1 : (rn == ("__debug__" : Str)) = false := by decide) (d2 : (sn == ("__debug__" : Str)) = false := by decide) (d3 : (rn == ("__classdict__" : Str)) = false := by decide) {body : Expr}
    (hb : ∀ (q : Str) (cl : List (Str × Addr)) (pm cv ctv v : Value), bindArgs (PySem.W.kla_fn "<lambda>" q params body scope cl pm cv ctv) ⟨[v], []⟩ = pure [(sn, v)] := by intros; rfl) (hd : defaultsOf params X.env = ([], []) := by rfl)
    (hf : freeB X.env.scope scope = true := by rfl) (hN : X.N[i]? = some rn := by rfl) (hc : X.env.scope.names.lookup rn = some .cell := by rfl) : KeyF X params body scope rn sn i :=
  ⟨⟨h1, h2, h3, h4, h5, h6, d1, d2, d3⟩, hb, hd, freeB_ok hf, hN, hc⟩
/-- sorted(range) by a key, over the machine's heap -/
theorem sorted_rangeK {prog : Program} {w : World} {A : Around} {E : Value → Shared → Prop} {s : Shared} {r f : Addr} {ns : List Int} {ta tb tc : Tok} {Q : Value → Shared → Prop} (hh : A.handled = none) (hr : IsRange s.heap r 0 (ns.length : Int) 1 ta tb tc) (hz : ns.length ≤ 1000) (hu : A.units + 20 < cLine)
    (turn : ∀ (v : Value) (j : Nat), isN v j → j ∈ List.range ns.length → ∀ (h : Heap) (tk : Nat), (∀ b o, s.heap.get? b = some o → h.get? b = some o) →
      wpAny (model prog w) A.in1.in1 (call (.ref f) [v]) (PySem.W.KeyPure (keyD ns j) { s with heap := h, toks := tk }) (fun _ _ => False) { s with heap := h, toks := tk })
    (go : ∀ (a : Addr) (out : List Value) (c : Nat) (g h' : Heap) (tk : Nat), (∀ b o, s.heap.get? b = some o → g.get? b = some o) → g.objs.size ≤ a → (∀ b o, g.get? b = some o → h'.get? b = some o) → h'.get? a = some (seqObj "list" (List.toArray out) c) → PySem.W.EachIs isN out (fallL ns) → Q (.ref a) { s with heap := h', toks := tk }) :
    wpAny (model prog w) A (call (.builtin "sorted") [.ref r] [(Str.ofString "key", .ref f)]) Q E s := by
  refine call_function_entry_kw kind_sorted plain_sorted entry_sorted (ksk_s1 _ _) ?_
  unfold Builtin.«sorted»
  refine wpAny_bind (m := checkCount "sorted" 1 1 _) (wpAny_pure ?_)
  refine wpAny_bind (collect_range (n := ns.length) (A := A.in1) hh hr (small_one (by decide) (by decide) (by omega) (by omega)) (by rw [rangeSize_nat]; simp) (by omega) fun h' tk acc hk hi => ?_)
  have rv : Vals (rangeV ns.length) acc.toList := by
    have hi2 : ItemsOf (fun i v => ∃ t, v = .int (0 + i * 1) t) acc ((ns.length : Int) - 0).toNat := by simpa using hi
    have := vals_rg hi2
    have e : rgV 0 (ns.length : Int) = rangeV ns.length := by
      unfold rgV rangeV
      simp
    rwa [e] at this
  have eb : PySem.W.EachIs isN acc.toList (List.range ns.length) := vals_isN rv
  have hl : acc.toList.length = ns.length := by rw [← rv.length]; unfold rangeV; simp
  refine wpAny_bind (wpAny_newList ?_ (by rw [hl]; exact sizes hz))
  obtain ⟨k1, k2, k3⟩ := keys_ok ns
  have up : ∀ b o, h'.get? b = some o → b ≠ h'.objs.size ∧ (h'.push (seqObj "list" acc.toList.toArray 0)).get? b = some o := fun b o e => ⟨Nat.ne_of_lt (Heap.lt_size e), Heap.get?_push_of_some _ e⟩
  refine wpAny_bind (wpAny_holding (PySem.W.list_sort_key_data (b := false) (s := { s with heap := h'.push (seqObj "list" acc.toList.toArray 0), toks := tk }) (keyD ns) (Heap.get?_push_size _ rfl) eb k1 k2 (by rw [List.length_range]; exact sizes hz) (fun j _ => ?_) (ksk_l1 _ _) (ksk_t1 _ _) (fun v j hv hj h tk kp => turn v j hv hj h tk fun b o e => kp b o (up b o (hk b o e)).1 (up b o (hk b o e)).2) fun out c h2 tk2 kp hD _ eo => wpAny_pure ⟨_, rfl, ?_⟩))
  · rw [k3]
    show A.units + 1 + 1 + 1 < cLine
    omega
  · rw [key_sort] at eo
    exact go _ out c h' h2 tk2 hk (Nat.le_refl _) (fun b o e => kp b o (up b o e).1 (up b o e).2) hD eo
theorem pe_fallR {a : Expr} {ta : TE} {p2 p3 : Pos} (tx : TabX X) (hc : X.calm = true) (hr : Room j X.A) (hg : Gl X "sorted") (hm : X.mg "sorted" = none) (hg2 : Gl X "range") (hm2 : X.mg "range" = none) (F : KeyF X params (keyE rn sn k0 k1 q1 q2 q3 q4 q5 q6 q7) scope rn sn i) (he : PE X a ta)
    (na2 : starEach [a] X.env = (false, eval a X.env) :: starEach [] X.env := by rfl)
    (na : starEach [Expr.Call (.Name "range" p2) [a] [] p3] X.env = (false, eval (.Call (.Name "range" p2) [a] [] p3) X.env) :: starEach [] X.env := by rfl)
    (hs : backTo pos (starEach [Expr.Call (.Name "range" p2) [a] [] p3] X.env) = (false, eval (.Call (.Name "range" p2) [a] [] p3) X.env) :: backTo pos (starEach [] X.env) := by rfl) :
    PE X (.Call (.Name "sorted" p) [.Call (.Name "range" p2) [a] [] p3] [⟨some "key", .Lambda params (keyE rn sn k0 k1 q1 q2 q3 q4 q5 q6 q7) scope lpos, kpos⟩] pos) (tFall X.K i (fun x _ n => x = .int (n : Int)) ta) := by
  refine ⟨fun pins s σ H Q I h => ?_⟩
  refine wpAny_Call_Name_kw (ld_blt I hg hm boot_sorted ?_)
  refine PyProof.Rows.callWith_kw (args_cons (Call_ (ld_blt I hg2 hm2 boot_range (PyProof.Rows.callWith_type1 (one_arg he I h (fun v s1 x H1 I1 r1 g => ?_) na2) na2))) na) hs (by rw [hs]; rfl)
  obtain ⟨ts, ns, rfl, hσ, hts, hz, hT, q⟩ := g
  obtain ⟨t0, rfl⟩ := r1
  refine call_range_1 (args_nil ?_)
  let ro : Obj := { cls := .type "range", data := .fields #[.int 0 s1.toks, .int (ns.length : Int) t0, .int 1 (s1.toks + 1)] }
  let r : Addr := s1.heap.objs.size
  have fp := I1.fpOk (b := r) (H' := H1) (Nat.le_refl _) (I1.hok.fresh (Nat.le_refl _))
  have I2 : Inv X pins σ H1 { s1 with heap := s1.heap.push ro, toks := s1.toks + 1 + 1 } := I1.kept fun b u e => Heap.get?_push_of_some _ e
  have I3 : Inv X ((r, ro) :: pins) σ H1 { s1 with heap := s1.heap.push ro, toks := s1.toks + 1 + 1 } := I2.pins_of fun z hz => by
    rcases List.mem_cons.mp hz with rfl | hz
    · exact ⟨Heap.get?_push_size _ rfl, fp.1, fp.2.1, fp.2.2.1, fun v e => nomatch e⟩
    · exact I2.pin z (List.mem_append_right _ hz)
  show wpAny _ _ (evalAll [do let v ← eval (.Lambda params (keyE rn sn k0 k1 q1 q2 q3 q4 q5 q6 q7) scope lpos) X.env; standAt pos; pure v]) _ _ _
  refine wpAny_evalAll_cons (wpAny_bind (lam_new I3 tx hT F.def_ (lam_free I3.ok F.free) fun f c' pm ctv H2 s2 I4 l2 T2 hf nf nfr hco => wpAny_bind (wpAny_standAt (wpAny_pure (wpAny_evalAll_nil ?_)))))
  have hro : s2.heap.get? r = some ro := (I4.pin (r, ro) (List.mem_append_right _ (List.mem_cons_self ..))).1
  have I5 : Inv X pins σ H2 s2 := I4.pins_of fun z hz => I4.pin z (List.mem_append_right _ (List.mem_cons_of_mem _ hz))
  refine sorted_rangeK (I5.ok.hd hc) hro hz (by have := hr.un; omega) (key_turn I5 hf hco F.S (F.bind _ _ _ _ _) F.N F.cell hσ (SqT.le l2 hts) hz (show X.A.in1.in1.depth < recursionLimit from hr.depth)) fun a out c g h' tk k1' ha k2' hD eo => ?_
  have I6 : Inv X pins σ H2 { s2 with heap := g } := I5.kept k1'
  obtain ⟨J, nn⟩ := inv_sorted (tk := tk) I6 hz k2' ha hD eo
  exact ⟨.ref a, _, J, rfl, q _ _ l2 T2 nn⟩
end
end DL
namespace DL
open PySem PySem.Spec PyProof.Rows L2
def fallD (ns : List Int) : List PD := (fallL ns).map fun i => .int (i : Nat)
def rowAt (i : Nat) (ρ : Ev) : Option (List Int) := match ρ[i]? with
  | some (some (Val.dat (.tuple es))) => (match intsOf es with
    | some ns => if ns.length ≤ 1000 then some ns else none
    | none => none)
  | _ => none
def mFallR (i : Nat) (m : Mr RV) : Mr RV := fun ρ => match m ρ with
  | some (.dat (.int n), ρ1) => (match rowAt i ρ1 with
    | some ns => if n = (ns.length : Int) then some (.own (fallD ns), ρ1) else none
    | none => none)
  | _ => none
section
variable {X : Cx} {pa : Nat → Addr} {e : Expr} {m : Mr RV} {p p1 pos lpos kpos q1 q2 q3 q4 q5 q6 q7 : Pos} {rn sn : Str} {params : Arguments} {scope : Scope} {k0 k1 j : Nat}
theorem has_fall {K : Frag} {F : Hp} (ns : List Int) : HasL K F (fallV ns) (fallD ns) := by
  unfold fallV fallD
  induction fallL ns with
  | nil => exact .nil
  | cons x l ih => exact .cons (.int _) ih
theorem rowAt_rep {K : Frag} {B F H : Hp} {σ : St} {ρ : Ev} {i : Nat} {ns : List Int} (R : Rep K B F pa H σ ρ) (h : rowAt i ρ = some ns) : ∃ ts, σ[i]? = some (some (.ref ts)) ∧ SqT K H ts (ns.map V.int) ∧ ns.length ≤ 1000 := by
  unfold rowAt at h
  split at h
  · rename_i es he
    split at h
    · rename_i ms hm
      split at h
      · rename_i hz
        cases h
        obtain ⟨v, h1, h2⟩ := R.dat i _ he
        cases h2 with
        | tup hs ht =>
          rw [intsOf_eq hm] at ht
          rw [ht.ints] at hs
          exact ⟨_, h1, SqT.le R.fh hs, hz⟩
      · cases h
    · cases h
  · cases h
theorem de_fallR (i : Nat) {p2 p3 : Pos} (tx : TabX X) (hr : Room j X.A) (hm : X.mg "sorted" = none) (hm2 : X.mg "range" = none) (he : DE X pa e m) (hc : X.calm = true := by rfl) (F : KeyF X params (keyE rn sn k0 k1 q1 q2 q3 q4 q5 q6 q7) scope rn sn i := by exact keyF_of) (hg : Gl X "sorted" := by rfl) (hg2 : Gl X "range" := by rfl)
    (na2 : starEach [e] X.env = (false, eval e X.env) :: starEach [] X.env := by rfl)
    (na : starEach [Expr.Call (.Name "range" p2) [e] [] p3] X.env = (false, eval (.Call (.Name "range" p2) [e] [] p3) X.env) :: starEach [] X.env := by rfl)
    (hs : backTo pos (starEach [Expr.Call (.Name "range" p2) [e] [] p3] X.env) = (false, eval (.Call (.Name "range" p2) [e] [] p3) X.env) :: backTo pos (starEach [] X.env) := by rfl) :
    DE X pa (.Call (.Name "sorted" p) [.Call (.Name "range" p2) [e] [] p3] [⟨some "key", .Lambda params (keyE rn sn k0 k1 q1 q2 q3 q4 q5 q6 q7) scope lpos, kpos⟩] pos) (mFallR i m) :=
  DE.of (pe_fallR tx hc hr hg hm hg2 hm2 F he na2 na hs) fun {B F H σ ρ r ρ' Q} R e q => by
    unfold mFallR at e
    split at e
    · rename_i n ρ1 h1
      split at e
      · rename_i ns h3
        split at e
        · rename_i h5
          cases e
          refine ⟨B, F, ρ, _, _, R, h1, fun F1 H1 v E1 R1 P1 => ?_⟩
          cases P1
          obtain ⟨ts, g3, g4, g5⟩ := rowAt_rep R1 h3
          exact ⟨ts, ns, by rw [h5], g3, g4, g5, R1.tb, fun H2 p l2 T2 n2 => finL (R1.behind (Ext.refl _ _) l2 (R1.fh.trans l2) T2) (q.ext E1) (has_fall ns) n2⟩
        · cases e
      · cases e
    · cases e
end
end DL
/-! DlX: enumerate(zip(a, b)): the zip's own tuple may be out, alive or gone. -/
namespace DL
open PySem PySem.Spec PyProof.Rows L2
/-- a zip of two, whatever is known of its own tuple -/
abbrev ZpO (own : Value) (f : Bool) (TI TO : Addr) : Obj := { cls := .type "zip", dict := none, data := .fields #[own, .bool f, .bool false, .ref TI, .ref TO], slots := #[] }
def OwnV (v : Value) : Prop := v = .none ∨ ∃ T : Addr, v = rawInt T
abbrev Zp (h : Heap) (z TI TO : Addr) : Prop := ∃ own f, OwnV own ∧ h.get? z = some (ZpO own f TI TO)
section
variable {prog : Program} {w : World} {A : Around} {E : Value → Shared → Prop} {s : Shared} {z TI TO i1 i2 : Addr} {fp1 fp2 : List Addr} {n1 n2 i : Nat} {P1 P2 : Nat → Value → Prop} {St1 St2 : Nat → Heap → Prop} {own : Value} {f : Bool}
theorem own_chk {Q : Bool → Shared → Prop} (ho : OwnV own) (hz : s.heap.get? z = some (ZpO own f TI TO)) (h1 : Q true s) (h2 : ∀ g, g.get? z = some (ZpO own true TI TO) → Heap.SameBut z s.heap g → Q false { s with heap := g }) :
    wpAny (model prog w) A (Builtin.SmallTypes.ownedTupleIsFree (.ref z)) Q E s := by
  unfold Builtin.SmallTypes.ownedTupleIsFree
  rcases ho with rfl | ⟨T, rfl⟩
  · exact wpAny_bind (wpAny_field hz rfl (x := .none) rfl (wpAny_pure h1))
  · refine wpAny_bind (wpAny_field hz rfl (x := rawInt T) rfl ?_)
    show wpAny _ _ (loadIfAlive ((T : Int).toNat) >>= _) _ _ _
    rw [Int.toNat_natCast]
    cases q : s.heap.get? T with
    | none =>
      intro Γ p hΓ
      simp only [Sem.wp_bind', Sem.wp_loadIfAlive, loadIfAlive, q]
      exact (wpAny_pure h1 : wpAny (model prog w) A (pure true) Q E s) Γ p hΓ
    | some oT =>
      refine wpAny_bind (PySem.W.kdx_alive q ?_)
      simp only [Option.isNone_some, Bool.false_eq_true, if_false]
      refine wpAny_bind (wpAny_field hz rfl (x := .bool f) rfl ?_)
      cases f with
      | true =>
        rw [if_neg (by decide)]
        exact wpAny_pure (h2 s.heap hz (Heap.SameBut.refl _ _))
      | false =>
        rw [if_pos (by rfl)]
        exact wpAny_bind (wpAny_setField_rec hz (by simp) fun g hg hs => wpAny_pure (h2 g hg hs))
/-- what holds behind a zip's next: N is the new tuple -/
structure ZpAft (z TI TO i1 i2 : Addr) (i : Nat) (St1 St2 : Nat → Heap → Prop) (h g : Heap) (x y : Value) : Prop where
  zz : Zp g z TI TO
  oo : ∃ b1 b2, IsTupOf2 g TO b1 b2
  s1 : St1 (i + 1) g
  s2 : St2 (i + 1) g
  tt : IsTupOf2 g h.objs.size x y
  nn : g.objs.size = h.objs.size + 1
  kk : ∀ c o, c ≠ z → c ≠ TO → c ≠ i1 → c ≠ i2 → h.get? c = some o → g.get? c = some o
theorem zip_nextA {a1 a2 : Value} {Q : Value → Shared → Prop} (S : ZipSep2 z TI TO i1 i2 fp1 fp2) (D1 : Draws prog w A i1 fp1 n1 P1 St1) (D2 : Draws prog w A i2 fp2 n2 P2 St2) (hZ : Zp s.heap z TI TO)
    (hI : IsTupOf2 s.heap TI (.ref i1) (.ref i2)) (hO : IsTupOf2 s.heap TO a1 a2) (u1 : St1 i s.heap) (u2 : St2 i s.heap) (l1 : i < n1) (l2 : i < n2)
    (go : ∀ x y g tk, P1 i x → P2 i y → ZpAft z TI TO i1 i2 i St1 St2 s.heap g x y → Q (.ref s.heap.objs.size) { s with heap := g, toks := tk }) :
    wpAny (model prog w) A (Builtin.«zip.__next__» ⟨[.ref z], []⟩) (fun r u => ∃ v, r = .done (.ret v) ∧ Q v u) E s := by
  obtain ⟨h0, gs, dr, t0, os⟩ := s
  obtain ⟨own, f, ho, hz⟩ := hZ
  show wpAny _ _ (field (.ref z) 2 >>= _) _ _ ⟨h0, gs, dr, t0, os⟩
  refine wpAny_bind (wpAny_field hz rfl (x := .bool false) rfl ?_)
  show wpAny _ _ (field (.ref z) 3 >>= _) _ _ ⟨h0, gs, dr, t0, os⟩
  refine wpAny_bind (wpAny_field hz rfl (x := .ref TI) rfl (wpAny_bind (wpAny_seqItems hI rfl ?_)))
  show wpAny _ _ (Builtin.SmallTypes.ownedTupleIsFree (.ref z) >>= _) _ _ ⟨h0, gs, dr, t0, os⟩
  refine wpAny_bind (own_chk ho hz ?free fun h1 hz1 e1 => ?held)
  case held =>
    replace e1 : Heap.SameBut z h0 h1 := e1
    simp only [Bool.false_eq_true, if_false]
    refine wpAny_bind ?_
    rw [← Array.forIn_toList]
    simp only [List.forIn_cons, List.forIn_nil]
    refine wpAny_bind (wpAny_bind (wpAny_holding ?_))
    show wpAny _ _ (Builtin.SmallTypes.nextOf (.ref i1) >>= _) _ _ ⟨h1, gs, dr, t0, os⟩
    refine wpAny_bind (D1.item i _ _ _ l1 (D1.over u1 e1 S.zf1) fun x h2 t1 hx v1 e2 => wpAny_pure (wpAny_pure ?_))
    replace e2 : Heap.SameBut i1 h1 h2 := e2
    refine wpAny_bind (wpAny_bind (wpAny_holding ?_))
    show wpAny _ _ (Builtin.SmallTypes.nextOf (.ref i2) >>= _) _ _ ⟨h2, gs, dr, t1, os⟩
    refine wpAny_bind (D2.item i _ _ _ l2 (D2.over (D2.over u2 e1 S.zf2) e2 S.sep1_2) fun y h3 t2 hy v2 e3 => wpAny_pure (wpAny_pure (wpAny_pure ?_)))
    replace e3 : Heap.SameBut i2 h2 h3 := e3
    show wpAny _ _ (newTuple [x, y] >>= _) _ _ ⟨h3, gs, dr, t2, os⟩
    have hn : h3.objs.size = h0.objs.size := by rw [e3.1, e2.1, e1.1]
    refine wpAny_bind (wpAny_newTuple (wpAny_pure ⟨_, rfl, ?_⟩))
    show Q (.ref h3.objs.size) ⟨h3.push _, gs, dr, t2, os⟩
    have kk : ∀ c o, c ≠ z → c ≠ i1 → c ≠ i2 → h0.get? c = some o → h3.get? c = some o := fun c o c1 c2 c3 e => e3.extBut _ _ c3 (e2.extBut _ _ c2 (e1.extBut _ _ c1 e))
    have key : ZpAft z TI TO i1 i2 i St1 St2 h0 (h3.push { cls := .type "tuple", data := .seq [x, y].toArray }) x y := by
      refine ⟨⟨own, true, ho, Heap.get?_push_of_some _ (e3.extBut _ _ S.zi2 (e2.extBut _ _ S.zi1 hz1))⟩, ⟨a1, a2, Heap.get?_push_of_some _ (kk _ _ S.TOz S.Ti1 S.Ti2 hO)⟩, ?_, ?_, ?_, by rw [Heap.size_push, hn], fun c o c1 _ c3 c4 e => Heap.get?_push_of_some _ (kk c o c1 c3 c4 e)⟩
      · exact D1.frame _ _ _ (D1.over v1 e3 S.sep2_1) fun b _ o e => Heap.get?_push_of_some _ e
      · exact D2.frame _ _ _ v2 fun b _ o e => Heap.get?_push_of_some _ e
      · rw [← hn]; exact Heap.get?_push_size _ rfl
    rw [hn]
    exact go x y _ t2 hx hy key
  case free =>
    simp only [if_true]
    refine wpAny_bind (wpAny_rule (wpAny_bind (wpAny_field hz rfl (x := .ref TO) rfl ?_)))
    refine wpAny_bind (wpAny_setField_rec hz (by simp) fun h1 hz1 e1 => ?_)
    replace hz1 : h1.get? z = some (ZpO .ellipsis f TI TO) := hz1
    replace e1 : Heap.SameBut z h0 h1 := e1
    refine wpAny_bind ?_
    simp only [List.zipIdx_cons, List.zipIdx_nil, List.forIn_cons, List.forIn_nil]
    refine wpAny_bind (wpAny_bind (wpAny_onRaise ?_))
    show wpAny _ _ (Builtin.SmallTypes.nextOf (.ref i1) >>= _) _ _ ⟨h1, gs, dr, t0, os⟩
    refine wpAny_bind (D1.item i _ _ _ l1 (D1.over u1 e1 S.zf1) fun x h2 t1 hx v1 e2 => wpAny_pure ?_)
    replace e2 : Heap.SameBut i1 h1 h2 := e2
    have o2 : IsTupOf2 h2 TO a1 a2 := e2.extBut _ _ S.Ti1 (e1.extBut _ _ S.TOz hO)
    refine wpAny_bind (wpAny_seqItems (s := ⟨h2, gs, dr, t1, os⟩) o2 rfl (wpAny_bind (updateSeq_IsTupOf2 (s := ⟨h2, gs, dr, t1, os⟩) o2 fun h3 o3 e3 => ?_)))
    replace o3 : IsTupOf2 h3 TO x a2 := o3
    replace e3 : Heap.SameBut TO h2 h3 := e3
    refine wpAny_bind (wpAny_letGo (wpAny_pure (wpAny_bind (wpAny_bind (wpAny_onRaise ?_)))))
    show wpAny _ _ (Builtin.SmallTypes.nextOf (.ref i2) >>= _) _ _ ⟨h3, gs, dr, t1, os⟩
    refine wpAny_bind (D2.item i _ _ _ l2 (D2.over (D2.over (D2.over u2 e1 S.zf2) e2 S.sep1_2) e3 S.Tf2) fun y h4 t2 hy v2 e4 => wpAny_pure ?_)
    replace e4 : Heap.SameBut i2 h3 h4 := e4
    have o4 : IsTupOf2 h4 TO x a2 := e4.extBut _ _ S.Ti2 o3
    refine wpAny_bind (wpAny_seqItems (s := ⟨h4, gs, dr, t2, os⟩) o4 rfl (wpAny_bind (updateSeq_IsTupOf2 (s := ⟨h4, gs, dr, t2, os⟩) o4 fun h5 o5 e5 => ?_)))
    replace o5 : IsTupOf2 h5 TO x y := o5
    replace e5 : Heap.SameBut TO h4 h5 := e5
    refine wpAny_bind (wpAny_letGo (wpAny_pure (wpAny_pure (wpAny_bind (wpAny_seqItems (s := ⟨h5, gs, dr, t2, os⟩) o5 rfl (wpAny_bind (wpAny_newTuple ?_)))))))
    have hn : h5.objs.size = h0.objs.size := by rw [e5.1, e4.1, e3.1, e2.1, e1.1]
    have z5 : h5.get? z = some (ZpO .ellipsis f TI TO) := e5.extBut _ _ S.TOz.symm (e4.extBut _ _ S.zi2 (e3.extBut _ _ S.TOz.symm (e2.extBut _ _ S.zi1 hz1)))
    have kk : ∀ c o, c ≠ z → c ≠ TO → c ≠ i1 → c ≠ i2 → h0.get? c = some o → h5.get? c = some o := fun c o c1 c2 c3 c4 e =>
      e5.extBut _ _ c2 (e4.extBut _ _ c4 (e3.extBut _ _ c2 (e2.extBut _ _ c3 (e1.extBut _ _ c1 e))))
    have w1 : St1 (i + 1) h5 := D1.over (D1.over (D1.over v1 e3 S.Tf1) e4 S.sep2_1) e5 S.Tf1
    have w2 : St2 (i + 1) h5 := D2.over v2 e5 S.Tf2
    have zl : z < h5.objs.size := Heap.lt_size z5
    show wpAny _ _ (Builtin.SmallTypes.ownedTupleHandOut (.ref z) (.ref h5.objs.size) >>= _) _ _ ⟨h5.push { cls := .type "tuple", data := .seq #[x, y] }, gs, dr, t2, os⟩
    refine wpAny_bind ?_
    unfold Builtin.SmallTypes.ownedTupleHandOut
    have z6 : (h5.push { cls := .type "tuple", data := .seq #[x, y] }).get? z = some (ZpO .ellipsis f TI TO) := Heap.get?_push_of_some _ z5
    refine wpAny_bind (wpAny_setField_rec z6 (by simp) fun h7 z7 e7 => ?_)
    replace z7 : h7.get? z = some (ZpO (rawInt h5.objs.size) f TI TO) := z7
    refine wpAny_setField_rec z7 (by simp) fun h8 z8 e8 => ?_
    replace z8 : h8.get? z = some (ZpO (rawInt h5.objs.size) false TI TO) := z8
    replace e7 : Heap.SameBut z (h5.push { cls := .type "tuple", data := .seq #[x, y] }) h7 := e7
    replace e8 : Heap.SameBut z h7 h8 := e8
    have up : ∀ c o, c ≠ z → h5.get? c = some o → h8.get? c = some o := fun c o c1 e => e8.extBut _ _ c1 (e7.extBut _ _ c1 (Heap.get?_push_of_some _ e))
    refine wpAny_pure ⟨_, rfl, ?_⟩
    show Q (.ref h5.objs.size) ⟨h8, gs, dr, t2, os⟩
    rw [hn]
    refine go x y h8 t2 hx hy ⟨⟨_, false, .inr ⟨_, rfl⟩, z8⟩, ⟨x, y, up _ _ S.TOz o5⟩, D1.frame _ _ _ w1 fun b hb o e => up b o (fun q => S.zf1 (q ▸ hb)) e, D2.frame _ _ _ w2 fun b hb o e => up b o (fun q => S.zf2 (q ▸ hb)) e, ?_, by rw [e8.1, e7.1, Heap.size_push, hn], fun c o c1 c2 c3 c4 e => up c o c1 (kk c o c1 c2 c3 c4 e)⟩
    rw [← hn]
    exact e8.extBut _ _ (Nat.ne_of_gt zl) (e7.extBut _ _ (Nat.ne_of_gt zl) (Heap.get?_push_size _ rfl))
def keepZ (z TO i1 i2 : Addr) (h g : Heap) : Prop := ∀ c o, c ≠ z → c ≠ TO → c ≠ i1 → c ≠ i2 → h.get? c = some o → g.get? c = some o
theorem zip_endA {a1 a2 : Value} {Q : Fin → Shared → Prop} (S : ZipSep2 z TI TO i1 i2 fp1 fp2) (D1 : Draws prog w A i1 fp1 n1 P1 St1) (D2 : Draws prog w A i2 fp2 n2 P2 St2) (hZ : Zp s.heap z TI TO)
    (hI : IsTupOf2 s.heap TI (.ref i1) (.ref i2)) (hO : IsTupOf2 s.heap TO a1 a2) (u1 : St1 i s.heap) (u2 : St2 i s.heap) (l1 : i ≤ n1) (l2 : i ≤ n2) (le : i = n1 ∨ i = n2)
    (go : ∀ g tk e, keepZ z TO i1 i2 s.heap g → (∃ o, g.get? e = some o ∧ o.cls = .type "StopIteration") → E (.ref e) { s with heap := g, toks := tk }) :
    wpAny (model prog w) A (Builtin.«zip.__next__» ⟨[.ref z], []⟩) Q E s := by
  obtain ⟨h0, gs, dr, t0, os⟩ := s
  obtain ⟨own, f, ho, hz⟩ := hZ
  show wpAny _ _ (field (.ref z) 2 >>= _) _ _ ⟨h0, gs, dr, t0, os⟩
  refine wpAny_bind (wpAny_field hz rfl (x := .bool false) rfl ?_)
  show wpAny _ _ (field (.ref z) 3 >>= _) _ _ ⟨h0, gs, dr, t0, os⟩
  refine wpAny_bind (wpAny_field hz rfl (x := .ref TI) rfl (wpAny_bind (wpAny_seqItems hI rfl ?_)))
  show wpAny _ _ (Builtin.SmallTypes.ownedTupleIsFree (.ref z) >>= _) _ _ ⟨h0, gs, dr, t0, os⟩
  refine wpAny_bind (own_chk ho hz ?free fun h1 hz1 e1 => ?held)
  case held =>
    replace e1 : Heap.SameBut z h0 h1 := e1
    simp only [Bool.false_eq_true, if_false]
    refine wpAny_bind ?_
    rw [← Array.forIn_toList]
    simp only [List.forIn_cons, List.forIn_nil]
    refine wpAny_bind (wpAny_bind (wpAny_holding ?_))
    show wpAny _ _ (Builtin.SmallTypes.nextOf (.ref i1) >>= _) _ _ ⟨h1, gs, dr, t0, os⟩
    by_cases c1 : i < n1
    · refine wpAny_bind (D1.item i _ _ _ c1 (D1.over u1 e1 S.zf1) fun x h2 t1 hx v1 e2 => wpAny_pure (wpAny_pure ?_))
      replace e2 : Heap.SameBut i1 h1 h2 := e2
      refine wpAny_bind (wpAny_bind (wpAny_holding ?_))
      show wpAny _ _ (Builtin.SmallTypes.nextOf (.ref i2) >>= _) _ _ ⟨h2, gs, dr, t1, os⟩
      have ei : i = n2 := by omega
      refine wpAny_bind (D2.done ⟨h2, gs, dr, t1, os⟩ _ _ (by rw [← ei]; exact D2.over (D2.over u2 e1 S.zf2) e2 S.sep1_2) fun q e hq he => ?_)
      exact go q t1 e (fun c o d1 _ d3 d4 x => hq _ _ d4 (e2.extBut _ _ d3 (e1.extBut _ _ d1 x))) he
    · have ei : i = n1 := by omega
      refine wpAny_bind (D1.done ⟨h1, gs, dr, t0, os⟩ _ _ (by rw [← ei]; exact D1.over u1 e1 S.zf1) fun q e hq he => ?_)
      exact go q t0 e (fun c o d1 _ d3 _ x => hq _ _ d3 (e1.extBut _ _ d1 x)) he
  case free =>
    simp only [if_true]
    refine wpAny_bind (wpAny_rule (wpAny_bind (wpAny_field hz rfl (x := .ref TO) rfl ?_)))
    refine wpAny_bind (wpAny_setField_rec hz (by simp) fun h1 hz1 e1 => ?_)
    replace hz1 : h1.get? z = some (ZpO .ellipsis f TI TO) := hz1
    replace e1 : Heap.SameBut z h0 h1 := e1
    have fin : ∀ (q : Heap) (tk : Nat) (e : Addr), q.get? z = some (ZpO .ellipsis f TI TO) → keepZ z TO i1 i2 h0 q → (∃ o, q.get? e = some o ∧ o.cls = .type "StopIteration") →
        wpAny (model prog w) A (setField (.ref z) 0 .none) (fun _ s'' => E (.ref e) s'') E ⟨q, gs, dr, tk, os⟩ := fun q tk e hzq kq ⟨oe, ge, ce⟩ => by
      have ne : e ≠ z := fun x => by subst x; rw [hzq] at ge; cases ge; simp at ce
      refine wpAny_setField_rec (s := ⟨q, gs, dr, tk, os⟩) hzq (by simp) fun q' _ eq => ?_
      replace eq : Heap.SameBut z q q' := eq
      exact go q' tk e (fun c o d1 d2 d3 d4 x => eq.extBut _ _ d1 (kq c o d1 d2 d3 d4 x)) ⟨oe, eq.extBut _ _ ne ge, ce⟩
    refine wpAny_bind ?_
    simp only [List.zipIdx_cons, List.zipIdx_nil, List.forIn_cons, List.forIn_nil]
    refine wpAny_bind (wpAny_bind (wpAny_onRaise ?_))
    show wpAny _ _ (Builtin.SmallTypes.nextOf (.ref i1) >>= _) _ _ ⟨h1, gs, dr, t0, os⟩
    by_cases c1 : i < n1
    · refine wpAny_bind (D1.item i _ _ _ c1 (D1.over u1 e1 S.zf1) fun x h2 t1 hx v1 e2 => wpAny_pure ?_)
      replace e2 : Heap.SameBut i1 h1 h2 := e2
      have o2 : IsTupOf2 h2 TO a1 a2 := e2.extBut _ _ S.Ti1 (e1.extBut _ _ S.TOz hO)
      refine wpAny_bind (wpAny_seqItems (s := ⟨h2, gs, dr, t1, os⟩) o2 rfl (wpAny_bind (updateSeq_IsTupOf2 (s := ⟨h2, gs, dr, t1, os⟩) o2 fun h3 o3 e3 => ?_)))
      replace e3 : Heap.SameBut TO h2 h3 := e3
      refine wpAny_bind (wpAny_letGo (wpAny_pure (wpAny_bind (wpAny_bind (wpAny_onRaise ?_)))))
      show wpAny _ _ (Builtin.SmallTypes.nextOf (.ref i2) >>= _) _ _ ⟨h3, gs, dr, t1, os⟩
      have ei : i = n2 := by omega
      refine wpAny_bind (D2.done ⟨h3, gs, dr, t1, os⟩ _ _ (by rw [← ei]; exact D2.over (D2.over (D2.over u2 e1 S.zf2) e2 S.sep1_2) e3 S.Tf2) fun q e hq he => ?_)
      replace hq : Heap.ExtBut i2 h3 q := hq
      exact fin q t1 e (hq _ _ S.zi2 (e3.extBut _ _ S.TOz.symm (e2.extBut _ _ S.zi1 hz1))) (fun c o d1 d2 d3 d4 x => hq _ _ d4 (e3.extBut _ _ d2 (e2.extBut _ _ d3 (e1.extBut _ _ d1 x)))) he
    · have ei : i = n1 := by omega
      refine wpAny_bind (D1.done ⟨h1, gs, dr, t0, os⟩ _ _ (by rw [← ei]; exact D1.over u1 e1 S.zf1) fun q e hq he => ?_)
      replace hq : Heap.ExtBut i1 h1 q := hq
      exact fin q t0 e (hq _ _ S.zi1 hz1) (fun c o d1 _ d3 _ x => hq _ _ d3 (e1.extBut _ _ d1 x)) he
/-- the same, drawn by another iterator -/
theorem zip_of {a1 a2 : Value} {Q : Value → Shared → Prop} (S : ZipSep2 z TI TO i1 i2 fp1 fp2) (D1 : Draws prog w A.in1 i1 fp1 n1 P1 St1) (D2 : Draws prog w A.in1 i2 fp2 n2 P2 St2) (hZ : Zp s.heap z TI TO)
    (hI : IsTupOf2 s.heap TI (.ref i1) (.ref i2)) (hO : IsTupOf2 s.heap TO a1 a2) (u1 : St1 i s.heap) (u2 : St2 i s.heap) (l1 : i < n1) (l2 : i < n2)
    (go : ∀ x y g tk, P1 i x → P2 i y → ZpAft z TI TO i1 i2 i St1 St2 s.heap g x y → Q (.ref s.heap.objs.size) { s with heap := g, toks := tk }) :
    wpAny (model prog w) A (Builtin.SmallTypes.nextOf (.ref z)) Q E s := by
  have ty : s.TypeIs (.ref z) "zip" := by obtain ⟨own, f, _, hz⟩ := hZ; exact ⟨_, hz, rfl⟩
  unfold Builtin.SmallTypes.nextOf
  exact wpAny_bind (wpAny_callSpecial?_slot (name := Str.ofString "__next__") ty F.slot_zip_next (wpAny_call_entry F.slot_zip_next ty F.entry_zip_next (zip_nextA S D1 D2 hZ hI hO u1 u2 l1 l2 fun x y g tk a b c => wpAny_pure (go x y g tk a b c)) (F.args_zip_next_1 _)))
theorem zip_ofEnd {a1 a2 : Value} {Q : Value → Shared → Prop} (S : ZipSep2 z TI TO i1 i2 fp1 fp2) (D1 : Draws prog w A.in1 i1 fp1 n1 P1 St1) (D2 : Draws prog w A.in1 i2 fp2 n2 P2 St2) (hZ : Zp s.heap z TI TO)
    (hI : IsTupOf2 s.heap TI (.ref i1) (.ref i2)) (hO : IsTupOf2 s.heap TO a1 a2) (u1 : St1 i s.heap) (u2 : St2 i s.heap) (l1 : i ≤ n1) (l2 : i ≤ n2) (le : i = n1 ∨ i = n2)
    (go : ∀ g tk e, keepZ z TO i1 i2 s.heap g → (∃ o, g.get? e = some o ∧ o.cls = .type "StopIteration") → E (.ref e) { s with heap := g, toks := tk }) :
    wpAny (model prog w) A (Builtin.SmallTypes.nextOf (.ref z)) Q E s := by
  have ty : s.TypeIs (.ref z) "zip" := by obtain ⟨own, f, _, hz⟩ := hZ; exact ⟨_, hz, rfl⟩
  unfold Builtin.SmallTypes.nextOf
  exact wpAny_bind (wpAny_callSpecial?_slot (name := Str.ofString "__next__") ty F.slot_zip_next (wpAny_call_entry F.slot_zip_next ty F.entry_zip_next (zip_endA S D1 D2 hZ hI hO u1 u2 l1 l2 le go) (F.args_zip_next_1 _)))
/-! ### enumerate over it -/
structure EzAft (e z TI TO i1 i2 : Addr) (i : Nat) (St1 St2 : Nat → Heap → Prop) (h g : Heap) (x y : Value) (tk : Nat) : Prop where
  ee : ∃ v, IsEnumOut g e z ((i : Int) + 1) v (h.objs.size + 1)
  zz : Zp g z TI TO
  oo : ∃ b1 b2, IsTupOf2 g TO b1 b2
  s1 : St1 (i + 1) g
  s2 : St2 (i + 1) g
  tt : IsTupOf2 g h.objs.size x y
  te : IsTupOf2 g (h.objs.size + 1) (.int i tk) (.ref h.objs.size)
  kk : ∀ c o, c ≠ e → c ≠ z → c ≠ TO → c ≠ i1 → c ≠ i2 → h.get? c = some o → g.get? c = some o
theorem ez_next {e : Addr} {old a1 a2 : Value} {Q : Value → Shared → Prop} (S : ZipSep2 z TI TO i1 i2 fp1 fp2) (D1 : Draws prog w A.in1 i1 fp1 n1 P1 St1) (D2 : Draws prog w A.in1 i2 fp2 n2 P2 St2) (ez : e ≠ z) (eI : e ≠ TO) (e1 : e ∉ fp1) (e2 : e ∉ fp2)
    (hE : IsEnum s.heap e z (i : Int) old) (hZ : Zp s.heap z TI TO) (hI : IsTupOf2 s.heap TI (.ref i1) (.ref i2)) (hO : IsTupOf2 s.heap TO a1 a2) (u1 : St1 i s.heap) (u2 : St2 i s.heap) (l1 : i < n1) (l2 : i < n2)
    (go : ∀ x y g tk tk2, P1 i x → P2 i y → EzAft e z TI TO i1 i2 i St1 St2 s.heap g x y tk → Q (.ref (s.heap.objs.size + 1)) { s with heap := g, toks := tk2 }) :
    wpAny (model prog w) A (Builtin.«enumerate.__next__» ⟨[.ref e], []⟩) (fun r u => ∃ v, r = .done (.ret v) ∧ Q v u) E s := by
  obtain ⟨h0, gs, dr, t0, os⟩ := s
  have m1 : e ≠ i1 := fun q => e1 (q ▸ S.mem1)
  have m2 : e ≠ i2 := fun q => e2 (q ▸ S.mem2)
  show wpAny _ _ (field (.ref e) 2 >>= _) _ _ ⟨h0, gs, dr, t0, os⟩
  refine wpAny_bind (wpAny_field hE rfl (x := .ref z) rfl (wpAny_bind (zip_of S D1 D2 hZ hI hO u1 u2 l1 l2 fun x y h1 t1 hx hy za => ?_)))
  have E1 : IsEnum h1 e z (i : Int) old := za.kk _ _ ez eI m1 m2 hE
  show wpAny _ _ (field (.ref e) 3 >>= _) _ _ ⟨h1, gs, dr, t1, os⟩
  refine wpAny_bind (wpAny_field E1 rfl (x := rawInt (i : Int)) rfl ?_)
  show wpAny _ _ (field (.ref e) 4 >>= _) _ _ ⟨h1, gs, dr, t1, os⟩
  refine wpAny_bind (wpAny_field E1 rfl (x := .none) rfl ?_)
  show wpAny _ _ (mkInt (i : Int) >>= _) _ _ ⟨h1, gs, dr, t1, os⟩
  refine wpAny_bind (wpAny_mkInt ?_)
  show wpAny _ _ (setField (.ref e) 3 (rawInt ((i : Int) + 1)) >>= _) _ _ ⟨h1, gs, dr, t1 + 1, os⟩
  refine wpAny_bind (wpAny_setField_rec E1 (by simp) fun h2 E2 x2 => ?_)
  replace x2 : Heap.SameBut e h1 h2 := x2
  replace E2 : IsEnum h2 e z ((i : Int) + 1) old := E2
  show wpAny _ _ (setField (.ref e) 4 .none >>= _) _ _ ⟨h2, gs, dr, t1 + 1, os⟩
  refine wpAny_bind (wpAny_setField_rec E2 (by simp) fun h3 E3 x3 => ?_)
  replace x3 : Heap.SameBut e h2 h3 := x3
  replace E3 : IsEnum h3 e z ((i : Int) + 1) old := E3
  show wpAny _ _ (newTuple [.int (i : Int) t1, .ref h0.objs.size] >>= _) _ _ ⟨h3, gs, dr, t1 + 1, os⟩
  refine wpAny_bind (wpAny_newTuple ?_)
  have n3 : h3.objs.size = h0.objs.size + 1 := by rw [x3.1, x2.1, za.nn]
  have E4 : IsEnum (h3.push { cls := .type "tuple", data := .seq #[.int (i : Int) t1, .ref h0.objs.size] }) e z ((i : Int) + 1) old := Heap.get?_push_of_some _ E3
  have T4 : IsTupOf2 (h3.push { cls := .type "tuple", data := .seq #[.int (i : Int) t1, .ref h0.objs.size] }) (h0.objs.size + 1) (.int (i : Int) t1) (.ref h0.objs.size) := by rw [← n3]; exact Heap.get?_push_size _ rfl
  have k4 : ∀ c o, c ≠ e → h1.get? c = some o → (h3.push { cls := .type "tuple", data := .seq #[.int (i : Int) t1, .ref h0.objs.size] }).get? c = some o := fun c o d x => Heap.get?_push_of_some _ (x3.extBut _ _ d (x2.extBut _ _ d x))
  show wpAny _ _ (Builtin.SmallTypes.ownedTupleIsFree (.ref e) >>= _) _ _ ⟨h3.push { cls := .type "tuple", data := .seq #[.int (i : Int) t1, .ref h0.objs.size] }, gs, dr, t1 + 1, os⟩
  rw [n3]
  generalize h3.push { cls := .type "tuple", data := .seq #[.int (i : Int) t1, .ref h0.objs.size] } = h4 at E4 T4 k4 ⊢
  have lt : e < h0.objs.size := Heap.lt_size hE
  refine wpAny_bind ?_
  unfold Builtin.SmallTypes.ownedTupleIsFree
  refine wpAny_bind (wpAny_field E4 rfl (x := .none) rfl (wpAny_pure ?_))
  simp only [if_true]
  refine wpAny_bind (wpAny_rule (wpAny_bind (wpAny_field E4 rfl (x := old) rfl ?_)))
  refine wpAny_bind (wpAny_setField_rec E4 (by simp) fun h5 E5 x5 => ?_)
  replace x5 : Heap.SameBut e h4 h5 := x5
  replace E5 : IsEnum h5 e z ((i : Int) + 1) (.ref h0.objs.size) := E5
  show wpAny _ _ (Builtin.SmallTypes.ownedTupleHandOut (.ref e) (.ref (h0.objs.size + 1)) >>= _) _ _ ⟨h5, gs, dr, t1 + 1, os⟩
  refine wpAny_bind ?_
  unfold Builtin.SmallTypes.ownedTupleHandOut
  refine wpAny_bind (wpAny_setField_rec E5 (by simp) fun h6 E6 x6 => ?_)
  replace x6 : Heap.SameBut e h5 h6 := x6
  replace E6 : IsEnumOut h6 e z ((i : Int) + 1) (.ref h0.objs.size) (h0.objs.size + 1) := E6
  refine wpAny_setField_rec E6 (by simp) fun h7 E7 x7 => ?_
  replace x7 : Heap.SameBut e h6 h7 := x7
  replace E7 : IsEnumOut h7 e z ((i : Int) + 1) (.ref h0.objs.size) (h0.objs.size + 1) := E7
  have up : ∀ c o, c ≠ e → h4.get? c = some o → h7.get? c = some o := fun c o d x => x7.extBut _ _ d (x6.extBut _ _ d (x5.extBut _ _ d x))
  have up1 : ∀ c o, c ≠ e → h1.get? c = some o → h7.get? c = some o := fun c o d x => up c o d (k4 c o d x)
  refine wpAny_bind (wpAny_letGo (wpAny_pure ⟨_, rfl, go x y h7 t1 (t1 + 1) hx hy ⟨⟨_, E7⟩, ?_, ?_, ?_, ?_, ?_, ?_, ?_⟩⟩))
  · obtain ⟨own, f, ho, hz⟩ := za.zz; exact ⟨own, f, ho, up1 _ _ ez.symm hz⟩
  · obtain ⟨b1, b2, hb⟩ := za.oo; exact ⟨b1, b2, up1 _ _ eI.symm hb⟩
  · exact D1.frame _ _ _ za.s1 fun b hb o q => up1 b o (fun r => e1 (r ▸ hb)) q
  · exact D2.frame _ _ _ za.s2 fun b hb o q => up1 b o (fun r => e2 (r ▸ hb)) q
  · exact up1 _ _ (Nat.ne_of_gt lt) za.tt
  · exact up _ _ (Nat.ne_of_gt (Nat.lt_succ_of_lt lt)) T4
  · exact fun c o d1 d2 d3 d4 d5 q => up1 c o d1 (za.kk c o d2 d3 d4 d5 q)
/-- all that stands between the turns -/
structure EzSt (e z TI TO i1 i2 : Addr) (St1 St2 : Nat → Heap → Prop) (i : Nat) (h : Heap) : Prop where
  ee : ∃ old, IsEnum h e z (i : Int) old
  zz : Zp h z TI TO
  ii : IsTupOf2 h TI (.ref i1) (.ref i2)
  oo : ∃ b1 b2, IsTupOf2 h TO b1 b2
  s1 : St1 i h
  s2 : St2 i h
theorem ez_goes {e : Addr} {elts : List Expr} {x1 : Nat} {pos : Pos} (S : ZipSep2 z TI TO i1 i2 fp1 fp2) (D1 : Draws prog w A.in1.in1 i1 fp1 n1 P1 St1) (D2 : Draws prog w A.in1.in1 i2 fp2 n2 P2 St2) (ez : e ≠ z) (eI : e ≠ TI) (eO : e ≠ TO) (e1 : e ∉ fp1) (e2 : e ∉ fp2) :
    GoesN prog w A (.Tuple elts x1 pos) e (e :: z :: TI :: TO :: (fp1 ++ fp2)) [e, z, TO, i1, i2] (min n1 n2)
      (fun i h v g => ∃ x y tk, v = .ref (h.objs.size + 1) ∧ P1 i x ∧ P2 i y ∧ IsTupOf2 g h.objs.size x y ∧ IsTupOf2 g (h.objs.size + 1) (.int (i : Int) tk) (.ref h.objs.size)) (EzSt e z TI TO i1 i2 St1 St2) where
  sub := fun c hc => by
    have hc' : c = e ∨ c = z ∨ c = TO ∨ c = i1 ∨ c = i2 := by simpa using hc
    rcases hc' with rfl | rfl | rfl | rfl | rfl
    · simp
    · simp
    · simp
    · simp [S.mem1]
    · simp [S.mem2]
  frame := fun i h h' st k => by
    obtain ⟨⟨old, he⟩, ⟨own, f, ho, hz⟩, hI, ⟨b1, b2, hO⟩, u1, u2⟩ := st
    exact ⟨⟨old, k e (by simp) _ he⟩, ⟨own, f, ho, k z (by simp) _ hz⟩, k TI (by simp) _ hI, ⟨b1, b2, k TO (by simp) _ hO⟩, D1.frame _ _ _ u1 fun b hb o q => k b (by simp [hb]) o q, D2.frame _ _ _ u2 fun b hb o q => k b (by simp [hb]) o q⟩
  goes := fun i s Q E hi st go => by
    obtain ⟨⟨old, he⟩, hZ, hI, ⟨b1, b2, hO⟩, u1, u2⟩ := st
    have ty : s.TypeIs (.ref e) "enumerate" := ⟨_, he, rfl⟩
    have m1 : e ≠ i1 := fun q => e1 (q ▸ S.mem1)
    have m2 : e ≠ i2 := fun q => e2 (q ▸ S.mem2)
    have body : wpAny (model prog w) A (pyNext (.ref e)) (fun r u => ∃ v, r = some v ∧ ∃ g tk, u = { s with heap := g, toks := tk } ∧ v = .ref (s.heap.objs.size + 1) ∧ ∃ x y tk1, P1 i x ∧ P2 i y ∧ EzAft e z TI TO i1 i2 i St1 St2 s.heap g x y tk1) E s := by
      unfold pyNext
      exact wpAny_bind (wpAny_attempt (wpAny_callSpecial?_slot (name := Str.ofString "__next__") ty F.slot_enumerate_next (wpAny_call_entry F.slot_enumerate_next ty F.entry_enumerate_next
        (ez_next (A := A.in1) S D1 D2 ez eO e1 e2 he hZ hI hO u1 u2 (by omega) (by omega) fun x y g tk tk2 hx hy ea => wpAny_pure ⟨_, rfl, g, tk2, rfl, rfl, x, y, tk, hx, hy, ea⟩) (F.args_enumerate_next_1 _))))
    refine wpAny_with_toks (n := s.toks) (Nat.le_refl _) (wpAny_mono body (fun r u hq => ?_) fun _ _ q _ => q)
    obtain ⟨v, rfl, g, tk, rfl, rfl, x, y, tk1, hx, hy, ea⟩ := hq
    intro htk
    obtain ⟨o, eo⟩ := ea.ee
    refine ⟨_, rfl, wpAny_letOwnedTupleGo_enum eo fun g2 he2 x2 => ?_⟩
    replace x2 : Heap.SameBut e g g2 := x2
    have up : ∀ c o, c ≠ e → g.get? c = some o → g2.get? c = some o := fun c o d q => x2.extBut _ _ d q
    have lt : e < s.heap.objs.size := Heap.lt_size he
    refine go _ g2 tk ⟨x, y, tk1, rfl, hx, hy, up _ _ (Nat.ne_of_gt lt) ea.tt, up _ _ (Nat.ne_of_gt (Nat.lt_succ_of_lt lt)) ea.te⟩ ⟨⟨o, ?_⟩, ?_, ?_, ?_, ?_, ?_⟩ (fun c o hc q => ?_) htk
    · have e5 : ((i + 1 : Nat) : Int) = (i : Int) + 1 := by omega
      rw [e5]; exact he2
    · obtain ⟨own, f, ho, hz⟩ := ea.zz; exact ⟨own, f, ho, up _ _ ez.symm hz⟩
    · exact up _ _ eI.symm (ea.kk _ _ eI.symm S.TIz S.TITO S.TIi1 S.TIi2 hI)
    · obtain ⟨c1, c2, hc⟩ := ea.oo; exact ⟨c1, c2, up _ _ eO.symm hc⟩
    · exact D1.frame _ _ _ ea.s1 fun b hb o q => up b o (fun r => e1 (r ▸ hb)) q
    · exact D2.frame _ _ _ ea.s2 fun b hb o q => up b o (fun r => e2 (r ▸ hb)) q
    · have n : ∀ {d}, d ∈ [e, z, TO, i1, i2] → c ≠ d := fun m r => hc (r ▸ m)
      exact up _ _ (n (by simp)) (ea.kk c o (n (by simp)) (n (by simp)) (n (by simp)) (n (by simp)) (n (by simp)) q)
  stops := fun s Q E st go => by
    obtain ⟨⟨old, he⟩, hZ, hI, ⟨b1, b2, hO⟩, u1, u2⟩ := st
    have ty : s.TypeIs (.ref e) "enumerate" := ⟨_, he, rfl⟩
    have body : wpAny (model prog w) A (pyNext (.ref e)) (fun r u => r = none ∧ ∃ g tk, u = { s with heap := g, toks := tk } ∧ keepZ z TO i1 i2 s.heap g) E s := by
      unfold pyNext
      refine wpAny_bind (wpAny_attempt (wpAny_callSpecial?_slot (name := Str.ofString "__next__") ty F.slot_enumerate_next (wpAny_call_entry F.slot_enumerate_next ty F.entry_enumerate_next ?_ (F.args_enumerate_next_1 _))))
      show wpAny _ _ (field (.ref e) 2 >>= _) _ _ s
      refine wpAny_bind (wpAny_field he rfl (x := .ref z) rfl (wpAny_bind (zip_ofEnd (A := A.in1) S D1 D2 hZ hI hO u1 u2 (Nat.min_le_left ..) (Nat.min_le_right ..) (by omega) fun g tk x kz hx => ?_)))
      obtain ⟨o, ho, hc⟩ := hx
      exact wpAny_bind (wpAny_isInstance (T := "StopIteration") (b := true) ⟨o, ho, hc⟩ isSubtype_stop (wpAny_pure ⟨rfl, g, tk, rfl, kz⟩))
    refine wpAny_with_toks (n := s.toks) (Nat.le_refl _) (wpAny_mono body (fun r u hq => ?_) fun _ _ q _ => q)
    obtain ⟨rfl, g, tk, rfl, kz⟩ := hq
    intro htk
    exact ⟨rfl, go g tk (fun c o hc q => kz c o (fun r => hc (by simp [r])) (fun r => hc (by simp [r])) (fun r => hc (by simp [r])) (fun r => hc (by simp [r])) q) htk⟩
  self := fun i s Q E st q => by
    obtain ⟨⟨old, he⟩, _⟩ := st
    exact wpAny_pyIter_enum he q
end
set_option maxHeartbeats 1000000 in
theorem new_enumZ {z TI TO : Addr} : Meets (Builtin.«enumerate.__new__» ⟨[.type "enumerate", .ref z], []⟩) (fun _ R s => IsZip s.heap z TI TO .none ∧
    R (.ok (.ret (.ref s.heap.objs.size)))
      { s with heap := s.heap.push { cls := .type "enumerate", data := .fields #[.none, .bool false, .ref z, rawInt 0, .none, .none] } }) :=
  .of_wp fun prog w A R s h => by
    obtain ⟨hp, gg, dd, tk, os⟩ := s
    obtain ⟨h1, h2⟩ := h
    have hsub := sub_enumerate
    have q1 : ∀ {A' : Around} {E : Value → Shared → Prop} {Q : Value → Shared → Prop}, Q (.ref z) ⟨hp, gg, dd, tk, os⟩ → wpAny (model prog w) A' (pyIter (.ref z)) Q E ⟨hp, gg, dd, tk, os⟩ := fun q => wpAny_pyIter_zip (s := ⟨hp, gg, dd, tk, os⟩) h1 q
    wp_walk using q1
    refine wpAny_stack_any fun st => wpAny_pure ?_
    split
    · rename_i c _ _ _ _ _
      cases (c == Value.type "enumerate") <;> (wp_walk using q1; exact ⟨_, rfl, h2⟩)
    · wp_walk using q1
      exact ⟨_, rfl, h2⟩
theorem enum_zip {prog : Program} {w : World} {A : Around} {E : Value → Shared → Prop} {s : Shared} {z TI TO : Addr} {Q : Value → Shared → Prop} (h1 : IsZip s.heap z TI TO .none)
    (go : ∀ g, IsEnum g s.heap.objs.size z 0 .none → (∀ b u, s.heap.get? b = some u → g.get? b = some u) → Q (.ref s.heap.objs.size) { s with heap := g }) :
    wpAny (model prog w) A (call (.type "enumerate") [.ref z]) Q E s := by
  have he : IsEnum (s.heap.push { cls := .type "enumerate", data := .fields #[.none, .bool false, .ref z, rawInt 0, .none, .none] }) s.heap.objs.size z 0 .none := Heap.get?_push_size _ rfl
  refine callType_new F.called_enumerate (by decide) (F.typeCall_enumerate_1 _) (F.newCall_enumerate_1 _) (fun obj => F.args_object_init_2 obj _) F.entry_enumerate_new new_enumZ ⟨h1, ?_⟩
  show _ ∧ _
  exact ⟨⟨_, he, rfl⟩, go _ he fun b u x => Heap.get?_push_of_some _ x⟩
/-! ### its turns in the abstract heap: two new tuples at each -/
def ItE (n : Nat) (L : Hp → Prop) (vs : Nat → List V) : It :=
  ⟨fun i H => i < n ∧ L H, fun i H v H' => ∃ T U, v = .ref U ∧ T ≠ U ∧ H T = none ∧ H U = none ∧ H' = upd (upd H T (.tup (vs i))) U (.tup [.int (i : Nat), .ref T]), fun i H => i = n ∧ L H⟩
section
variable {X : Cx} {pins : List (Addr × Obj)} {σ : St} {H : Hp} {s : Shared} {h' : Heap}
/-- records of ours have turned, two new things are laid -/
theorem turned2 {t' : Nat} {ch : List Addr} {T U : Addr} {o1 o2 : HO} (I : Inv X pins σ H s) (k : ∀ b o, b ∉ ch → s.heap.get? b = some o → h'.get? b = some o) (hf : ∀ b ∈ ch, FpOk X pins H b) (hT : s.heap.objs.size ≤ T) (hU : s.heap.objs.size ≤ U) (ne : T ≠ U)
    (n1 : ObjOk X.prog X.w (upd (upd H T o1) U o2) h' T o1) (n2 : ObjOk X.prog X.w (upd (upd H T o1) U o2) h' U o2) : Inv X pins σ (upd (upd H T o1) U o2) { s with heap := h', toks := t' } := by
  have fT : H T = none := I.hok.fresh hT
  have fU : H U = none := I.hok.fresh hU
  have at_ : ∀ {b u}, H b = some u → upd (upd H T o1) U o2 b = some u := fun {b u} e => by rw [upd_ne (ne_of_none e fU), upd_ne (ne_of_none e fT)]; exact e
  have off : ∀ b u, H b = some u → b ∉ ch := fun b u e m => by rw [(hf b m).1] at e; cases e
  refine I.step (g' := s.gens) (d' := s.drawn) (ch := ch) (fun b m => let f := hf b m; ⟨f.2.2.2.1, f.2.1, f.2.2.2.2.1, f.2.2.2.2.2⟩) (fun b o _ _ m e _ => k b o m e) (fun b o _ _ m e _ => ⟨o.slots, k b o m e⟩)
    (fun b o _ e n => ?_) (fun b o m e => ⟨o, k b o m e⟩) (fun b xs e => at_ e) (fun b o u e => at_ e) (fun b ps e => ⟨#[], ?_⟩) (fun m hm => ?_) (fun b u e => ?_) I.bare
  · have lt := Heap.lt_size e
    rw [upd_ne (Nat.ne_of_lt (Nat.lt_of_lt_of_le lt hU)), upd_ne (Nat.ne_of_lt (Nat.lt_of_lt_of_le lt hT))]; exact n
  · rw [at_ e]; simp
  · obtain ⟨o, es, ep, ho, r⟩ := hm
    exact ⟨o, es, ep, k _ o (fun m => (hf _ m).2.1 rfl) ho, r⟩
  · by_cases hb : b = U
    · subst hb; rw [upd_same] at e; cases e; exact n2
    · rw [upd_ne hb] at e
      by_cases hb2 : b = T
      · subst hb2; rw [upd_same] at e; cases e; exact n1
      · rw [upd_ne hb2] at e
        refine (I.hok b u e).stay (fun c v hc q => k c v ?_ q) (fun c q => at_ q) fun c xs q => at_ q
        rcases hc with m | m
        · rw [m]; exact off b u e
        · exact off c _ m
end
theorem turn_ez {P : Program} {w : World} {K : Frag} {elts : List Expr} {kk : Nat} {tpos : Pos} (q p : Sq) {e z TI TO i1 i2 : Addr} (D : Apart2 z TI TO i1 i2) (ne : e ≠ z ∧ e ≠ TI ∧ e ≠ TO ∧ e ≠ i1 ∧ e ≠ i2) :
    Turn P w K (.Tuple elts kk tpos) (ItE (min q.xs.length p.xs.length) (fun H => q.In K H ∧ p.In K H) (zVs q.xs p.xs)) [e, z, TI, TO, i1, i2] e (EzSt e z TI TO i1 i2 (fun i h => q.ItAt h i1 i) (fun i h => p.ItAt h i2 i)) := by
  have fpO : ∀ i h, EzSt e z TI TO i1 i2 (fun i h => q.ItAt h i1 i) (fun i h => p.ItAt h i2 i) i h → ∀ b ∈ [e, z, TI, TO, i1, i2], ∃ o, h.get? b = some o ∧ ∀ v, o.data ≠ .cell v := fun i h st b hb => by
    obtain ⟨⟨old, he⟩, ⟨own, f, ho, hz⟩, hI, ⟨b1, b2, hO⟩, u1, u2⟩ := st
    have e' : b = e ∨ b = z ∨ b = TI ∨ b = TO ∨ b = i1 ∨ b = i2 := by simpa using hb
    rcases e' with rfl | rfl | rfl | rfl | rfl | rfl
    · exact ⟨_, he, fun v z => nomatch z⟩
    · exact ⟨_, hz, fun v z => nomatch z⟩
    · exact ⟨_, hI, fun v z => nomatch z⟩
    · exact ⟨_, hO, fun v z => nomatch z⟩
    · exact u1.obj
    · exact u2.obj
  have main : ∀ (X : Cx), X.prog = P → X.w = w → X.K = K → X.A.handled = none → ∀ (pins : List (Addr × Obj)) (s : Shared) (σ : St) (H : Hp), Inv X pins σ H s → q.In K H ∧ p.In K H → (∀ b ∈ [e, z, TI, TO, i1, i2], FpOk X pins H b) →
      ∃ (its its2 : List Value), Vals q.xs its ∧ Vals p.xs its2 ∧ q.At s.heap its ∧ p.At s.heap its2 ∧ GoesN P w X.A (.Tuple elts kk tpos) e (e :: z :: TI :: TO :: ([i1, q.ad] ++ [i2, p.ad])) [e, z, TO, i1, i2] (min q.xs.length p.xs.length)
      (fun i h v g => ∃ x y tk, v = .ref (h.objs.size + 1) ∧ its[i]? = some x ∧ its2[i]? = some y ∧ IsTupOf2 g h.objs.size x y ∧ IsTupOf2 g (h.objs.size + 1) (.int (i : Int) tk) (.ref h.objs.size)) (EzSt e z TI TO i1 i2 (fun i h => q.ItAt h i1 i ∧ q.At h its) (fun i h => p.ItAt h i2 i ∧ p.At h its2)) := by
    intro X hP hw hK hh pins s σ H I hL hf
    subst hP hw hK
    obtain ⟨its, rv, ha, hlt⟩ := Sq.at_of I hL.1
    obtain ⟨its2, rv2, ha2, hlt2⟩ := Sq.at_of I hL.2
    have nq : ∀ b, b ∈ [e, z, TI, TO, i1, i2] → q.ad ≠ b := fun b hb => Sq.apart I hL.1 (hf b hb)
    have np : ∀ b, b ∈ [e, z, TI, TO, i1, i2] → p.ad ≠ b := fun b hb => Sq.apart I hL.2 (hf b hb)
    have D1 := Sq.draws (prog := X.prog) (w := X.w) (A := X.A.in1.in1) hh q i1 its (nq i1 (by simp))
    have D2 := Sq.draws (prog := X.prog) (w := X.w) (A := X.A.in1.in1) hh p i2 its2 (np i2 (by simp))
    have S : ZipSep2 z TI TO i1 i2 [i1, q.ad] [i2, p.ad] := by
      refine ⟨D.a1, D.a2, D.a3, D.a4, by simp, ?_, ?_, D.a5, by simp, ?_, ?_, ?_, ?_⟩
      · simp [D.a6, (nq z (by simp)).symm]
      · simp [D.a8, (nq TO (by simp)).symm]
      · simp [D.a7, (np z (by simp)).symm]
      · simp [D.a9, (np TO (by simp)).symm]
      · simp [D.a10, (np i1 (by simp)).symm]
      · simp [D.a10.symm, (nq i2 (by simp)).symm]
    have G := ez_goes (A := X.A) (elts := elts) (x1 := kk) (pos := tpos) S D1 D2 ne.1 ne.2.1 ne.2.2.1 (by simp [ne.2.2.2.1, (nq e (by simp)).symm]) (by simp [ne.2.2.2.2, (np e (by simp)).symm])
    rw [min_of rv rv2] at G
    exact ⟨its, its2, rv, rv2, ha, ha2, G⟩
  refine ⟨by simp, fpO, fun i h h' st k => ?_, ?_, ?_, fun A i s Q E st h => ?_⟩
  · obtain ⟨⟨old, he⟩, ⟨own, f, ho, hz⟩, hI, ⟨b1, b2, hO⟩, u1, u2⟩ := st
    exact ⟨⟨old, k e (by simp) _ he⟩, ⟨own, f, ho, k z (by simp) _ hz⟩, k TI (by simp) _ hI, ⟨b1, b2, k TO (by simp) _ hO⟩, u1.at fun o x => k i1 (by simp) o x, u2.at fun o x => k i2 (by simp) o x⟩
  · intro X hP hw hK hc i pins s σ H E I hf st hg
    obtain ⟨hi, hL⟩ := hg
    obtain ⟨its, its2, rv, rv2, ha, ha2, G⟩ := main X hP hw hK (I.ok.hd hc) pins s σ H I hL hf
    subst hP hw hK
    have st2 : EzSt e z TI TO i1 i2 (fun i h => q.ItAt h i1 i ∧ q.At h its) (fun i h => p.ItAt h i2 i ∧ p.At h its2) i s.heap := ⟨st.ee, st.zz, st.ii, st.oo, ⟨st.s1, ha⟩, ⟨st.s2, ha2⟩⟩
    refine G.goes i s _ E hi st2 ?_ |> fun q => wpAny_mono q (fun r s1 h1 => h1) fun _ _ x => x
    intro v h' tk hY st' hk htk
    obtain ⟨x, y, tk1, rfl, hx, hy, t1, t2⟩ := hY
    have rz : Vals (zVs q.xs p.xs i) [x, y] := .cons (getD_rel rv hx) (.cons (getD_rel rv2 hy) .nil)
    have re : Vals [V.int (i : Nat), V.ref s.heap.objs.size] [.int (i : Int) tk1, .ref s.heap.objs.size] := .cons ⟨tk1, rfl⟩ (.cons rfl .nil)
    have I1 := turned2 (t' := tk) (ch := [e, z, TO, i1, i2]) (T := s.heap.objs.size) (U := s.heap.objs.size + 1) (o1 := .tup (zVs q.xs p.xs i)) (o2 := .tup [.int (i : Nat), .ref s.heap.objs.size]) I hk (fun b hb => hf b (by simp at hb ⊢; rcases hb with h | h | h | h | h <;> simp [h])) (Nat.le_refl _) (Nat.le_succ _) (Nat.ne_of_lt (Nat.lt_succ_self _))
      ⟨small_line (by show 2 ≤ 1000; decide), _, rz, ⟨_, t1, rfl, _, rfl⟩⟩ ⟨small_line (by show 2 ≤ 1000; decide), _, re, ⟨_, t2, rfl, _, rfl⟩⟩
    refine ⟨.ref (s.heap.objs.size + 1), _, I1, rfl, ⟨s.heap.objs.size, s.heap.objs.size + 1, rfl, Nat.ne_of_lt (Nat.lt_succ_self _), I.hok.fresh (Nat.le_refl _), I.hok.fresh (Nat.le_succ _), rfl⟩, ⟨st'.ee, st'.zz, st'.ii, st'.oo, st'.s1.1, st'.s2.1⟩, fun b hb => ?_⟩
    have hb' : b < s.heap.objs.size := let ⟨o, ho, _⟩ := fpO i _ st b hb; Heap.lt_size ho
    rw [upd_ne (Nat.ne_of_lt (Nat.lt_succ_of_lt hb')), upd_ne (Nat.ne_of_lt hb')]
    exact (hf b hb).1
  · intro X hP hw hK hc i pins s σ H E I hf st hg
    obtain ⟨rfl, hL⟩ := hg
    obtain ⟨its, its2, rv, rv2, ha, ha2, G⟩ := main X hP hw hK (I.ok.hd hc) pins s σ H I hL hf
    subst hP hw hK
    refine G.stops s _ E ⟨st.ee, st.zz, st.ii, st.oo, ⟨st.s1, ha⟩, ⟨st.s2, ha2⟩⟩ ?_
    intro h' tk hk htk
    exact I.turnedL (t' := tk) (ch := [e, z, TO, i1, i2]) hk (fun b hb => hf b (by simp at hb ⊢; rcases hb with h | h | h | h | h <;> simp [h]))
  · obtain ⟨⟨old, he⟩, _⟩ := st
    exact wpAny_pyIter_enum he h
end DL
namespace DL
open PySem PySem.Spec PyProof.Rows L2
section
variable {X : Cx} {pa : Nat → Addr} {pos : Pos}
def iEz (K : Frag) (ta : TA) : TI := fun σ H R => ta σ H fun vs H1 => ∃ q p : Sq, vs = [.ref q.ad, .ref p.ad] ∧ q.In K H1 ∧ p.In K H1 ∧ R (ItE (min q.xs.length p.xs.length) (fun H => q.In K H ∧ p.In K H) (zVs q.xs p.xs)) H1
theorem pi_ez {e e2 : Expr} {ta : TA} {p1 p2 pos2 tpos : Pos} {elts : List Expr} {kk : Nat} (hg : Gl X "enumerate") (hm : X.mg "enumerate" = none) (hg2 : Gl X "zip") (hm2 : X.mg "zip" = none) (ha : PA X [e, e2] ta)
    (hs : starEach [e, e2] X.env = [(false, eval e X.env), (false, eval e2 X.env)] := by rfl) (hs2 : starEach [e2] X.env = [(false, eval e2 X.env)] := by rfl)
    (hs3 : starEach [Expr.Call (.Name "zip" p2) [e, e2] [] pos2] X.env = (false, eval (.Call (.Name "zip" p2) [e, e2] [] pos2) X.env) :: starEach [] X.env := by rfl) :
    PI X (.Tuple elts kk tpos) (.Call (.Name "enumerate" p1) [.Call (.Name "zip" p2) [e, e2] [] pos2] [] pos) (iEz X.K ta) := by
  constructor
  intro pins s σ H R I h
  refine Call_ (ld_blt I hg hm boot_enumerate (PyProof.Rows.callWith_type1 (args_cons (Call_ (ld_blt I hg2 hm2 boot_zip (PyProof.Rows.callWith_type1 (thn (ha.run pos2 pins s σ H _ I h) ?_) (by rw [hs, hs2]) (by rw [hs2]; rfl)))) hs3) hs3))
  rintro us s1 ⟨vs, H1, I1, r1, q, p, rfl, hq, hp, hR⟩
  obtain ⟨u, u2, rfl, ru, ru2⟩ := vals2 r1
  cases ru
  cases ru2
  obtain ⟨its, rv, hat, hlt⟩ := Sq.at_of I1 hq
  obtain ⟨its2, rv2, hat2, hlt2⟩ := Sq.at_of I1 hp
  refine zip_begins2 (q.begins its) (p.begins its2) hat hat2 fun g hz hTI hTO h1 h2 hsz hk => args_nil (enum_zip (s := { s1 with heap := g }) hz fun g2 he k2 => wpAny_pyIter_enum he ?_)
  replace he : IsEnum g2 g.objs.size (s1.heap.objs.size + 4) 0 .none := he
  rw [hsz] at he ⊢
  refine ⟨_, [s1.heap.objs.size + 5, s1.heap.objs.size + 4, s1.heap.objs.size + 2, s1.heap.objs.size + 3, s1.heap.objs.size, s1.heap.objs.size + 1], _, _, H1, rfl, I1.kept (t' := s1.toks) fun b o x => k2 _ _ (hk b o x), turn_ez q p (apart5 _) ?_,
    ⟨⟨_, he⟩, ⟨.none, false, .inl rfl, k2 _ _ hz⟩, k2 _ _ hTI, ⟨_, _, k2 _ _ hTO⟩, q.it0 (k2 _ _ h1), p.it0 (k2 _ _ h2)⟩, fun b hb => ?_, hR⟩
  · refine ⟨fun x => ?_, fun x => ?_, fun x => ?_, fun x => ?_, fun x => ?_⟩ <;> (have x' : (_ : Nat) = _ := x; omega)
  · have e' : b = s1.heap.objs.size + 5 ∨ b = s1.heap.objs.size + 4 ∨ b = s1.heap.objs.size + 2 ∨ b = s1.heap.objs.size + 3 ∨ b = s1.heap.objs.size ∨ b = s1.heap.objs.size + 1 := by simpa using hb
    exact fresh1 I1 (by rcases e' with rfl | rfl | rfl | rfl | rfl | rfl <;> first | exact Nat.le_refl _ | exact Nat.le_add_right _ _)
def mEz (ms : Mr (List RV)) : Mr (List PD) := fun ρ => match mArgs ms ρ with
  | some ([d, e], ρ1) => (match itemsOf d with
    | some ds => (match itemsOf e with
      | some es => some (enumD 0 (zipD ds es), ρ1)
      | none => none)
    | none => none)
  | _ => none
theorem drives_ez {K : Frag} {B F0 : Hp} {n : Nat} {L : Hp → Prop} {vs : Nat → List V} {items : List PD} (hn : items.length = n) (hL : ∀ G H, Le F0 G → Le G H → L H)
    (hi : ∀ i d, items[i]? = some d → ∃ es, d = .tuple [.int (i : Nat), .tuple es] ∧ HasL K F0 (vs i) es) : Drives K B pa (ItE n L vs) F0 items := by
  refine ⟨fun i F H σ ρ d hd E R => ?_, fun F H σ ρ E R => ⟨hn, hL F H E.le R.fh⟩⟩
  have hl : i < items.length := (List.getElem?_eq_some_iff.mp hd).1
  refine ⟨⟨by rw [← hn]; exact hl, hL F H E.le R.fh⟩, fun x H' ⟨T, U, e1, ne, nT, nU, e3⟩ => ?_⟩
  obtain ⟨es, rfl, h⟩ := hi i d hd
  subst e1 e3
  have R1 := R.new (o := .tup (vs i)) nT
  have nU1 : upd H T (.tup (vs i)) U = none := by rw [upd_ne ne.symm]; exact nU
  have hin : Has K (upd F T (.tup (vs i))) (.ref T) (.tuple es) := .tup (SqT.of upd_same) ((h.le E.le).le (Le.upd (R.fh.none nT)))
  have R2 := R1.new (o := .tup [.int (i : Nat), .ref T]) nU1
  refine ⟨_, (R.newExt nT).trans (R1.newExt nU1), R2, .tup (SqT.of upd_same) (.cons (.int _) (.cons (hin.le (Le.upd (R1.fh.none nU1))) .nil))⟩
theorem di_ez {e e2 : Expr} {ms : Mr (List RV)} {p1 p2 pos2 tpos : Pos} {elts : List Expr} {kk : Nat} (hm : X.mg "enumerate" = none) (hm2 : X.mg "zip" = none) (ha : DA X pa [e, e2] ms) (hg : Gl X "enumerate" := by rfl) (hg2 : Gl X "zip" := by rfl)
    (hs : starEach [e, e2] X.env = [(false, eval e X.env), (false, eval e2 X.env)] := by rfl) (hs2 : starEach [e2] X.env = [(false, eval e2 X.env)] := by rfl)
    (hs3 : starEach [Expr.Call (.Name "zip" p2) [e, e2] [] pos2] X.env = (false, eval (.Call (.Name "zip" p2) [e, e2] [] pos2) X.env) :: starEach [] X.env := by rfl) :
    DI X pa (.Tuple elts kk tpos) (.Call (.Name "enumerate" p1) [.Call (.Name "zip" p2) [e, e2] [] pos2] [] pos) (mEz ms) := DI.of (pi_ez hg hm hg2 hm2 ha hs hs2 hs3) fun {B F H σ ρ items ρ' R} Rp e p => by
  unfold mEz at e
  split at e
  · rename_i d d2 ρ1 h1
    split at e
    · rename_i ds h2
      split at e
      · rename_i es h3
        cases e
        refine mArgs_run Rp h1 fun F1 H1 vs E1 R1 hv => ?_
        obtain ⟨v, r, rfl, hv1, hr⟩ := hv.cons_inv
        obtain ⟨v2, r2, rfl, hv2, hr2⟩ := hr.cons_inv
        cases hr2
        obtain ⟨q, rfl, hq, hl⟩ := seq_of hv1 h2
        obtain ⟨q2, rfl, hq2, hl2⟩ := seq_of hv2 h3
        refine ⟨q, q2, rfl, hq.le R1.fh, hq2.le R1.fh, p F1 H1 _ E1 R1 fun B' lB => drives_ez (by rw [enumD_len]; unfold zipD; rw [List.length_zipWith, hl.length, hl2.length]) (fun G H' l1 l2 => ⟨hq.le (l1.trans l2), hq2.le (l1.trans l2)⟩) fun i d' hd => ?_⟩
        rw [enumD_get] at hd
        unfold zipD at hd
        rw [List.getElem?_zipWith] at hd
        split at hd
        · rename_i x y hx hy
          cases hd
          obtain ⟨u, hu, hu2⟩ := hl.get hx
          obtain ⟨u', hu', hu2'⟩ := hl2.get hy
          refine ⟨_, by rw [show (0 + i : Nat) = i by omega], ?_⟩
          unfold zVs
          rw [getD_some hu, getD_some hu']
          exact .cons hu2 (.cons hu2' .nil)
        · cases hd
      · cases e
    · cases e
  · cases e
end
end DL
/-! DlY: a tuple == (), whatever it holds. -/
namespace DL
open PySem PySem.Spec PyProof.Rows L2
section
variable {X : Cx} {pa : Nat → Addr} {pos : Pos} {a b : Expr} {ma mb : Mr RV}
def rEqE (K : Frag) : R2 := fun x y H Q => ∃ a c vs, x = .ref a ∧ y = .ref c ∧ SqT K H a vs ∧ SqT K H c [] ∧ Q (.bl vs.isEmpty) H
theorem op_eqE (hu : X.A.units + 64 < cLine) : OpR X (compareOp .Eq) (rEqE X.K) := by
  intro pins s σ H x y v u Q I rx ry h
  obtain ⟨a, c, vs, rfl, rfl, ha, hc, q⟩ := h
  cases rx
  cases ry
  obtain ⟨its, rv, p1, _⟩ := I.tuple ha
  obtain ⟨its2, rv2, p2, _⟩ := I.tuple hc
  cases rv2
  have e1 : ((List.range (min its.toArray.size 0)).all (fun _ => true) && its.toArray.size == 0) = vs.isEmpty := by
    cases rv <;> simp
  exact SeqAt.eq_tupleAt (e := fun _ => true) p1 p2 (by omega) (fun j h1 h2 => absurd h2 (by simp)) ⟨.bl _, H, I, by
    show RelV _ (Value.bool ((List.range (min its.toArray.size 0)).all (fun _ => true) && its.toArray.size == 0))
    rw [e1]; rfl, q⟩
def equE : PD → PD → Option RV
  | .tuple xs, .tuple [] => some (.dat (.bool xs.isEmpty))
  | _, _ => none
theorem sem_eqE : Sem2 X pa (rEqE X.K) equE := fun {B F H σ ρ x y d e out Q} R hx hy ho q => by
  unfold equE at ho
  split at ho
  · rename_i xs
    cases ho
    obtain ⟨a, vs, rfl, h1, h2, h3⟩ := hx.tup R.fh
    obtain ⟨c, ws, rfl, h4, h5, h6⟩ := hy.tup R.fh
    cases h6
    refine ⟨a, c, vs, rfl, rfl, h2, h5, ?_⟩
    have e : vs.isEmpty = xs.isEmpty := by cases h3 <;> rfl
    rw [e]
    exact fin R q (.bl _)
  · cases ho
theorem dt_eqE (hu : X.A.units + 64 < cLine) (ha : DE X pa a ma) (hb : DE X pa b mb) : DT X pa (.Compare a [.Eq] [b] pos) (mTruth (mBin equE ma mb)) := dt_cmp (op_eqE hu) sem_eqE (nomark _) ha hb
end
end DL
/-! DlZ: sorted(set(..)) of tuples of ints; str of an int. -/
namespace DL
open PySem PySem.Spec PyProof.Rows PySem.W L2
def rowsD : List PD → Option (List (List Int))
  | [] => some []
  | .tuple ds :: r => (match intsOf ds with
    | some ns => (match rowsD r with
      | some ls => some (ns :: ls)
      | none => none)
    | none => none)
  | _ => none
theorem rowsD_eq : ∀ {ds : List PD} {ls : List (List Int)}, rowsD ds = some ls → ds = ls.map fun ns => PyData.tuple (ns.map PyData.int)
  | [], _, h => by cases h; rfl
  | .tuple ds :: r, ls, h => by
    simp only [rowsD] at h
    split at h
    · rename_i ns h1
      split at h
      · rename_i ls' h2
        cases h
        rw [rowsD_eq h2, intsOf_eq h1]
        rfl
      · cases h
    · cases h
  | .none :: _, _, h => nomatch h
  | .bool _ :: _, _, h => nomatch h
  | .int _ :: _, _, h => nomatch h
  | .str _ :: _, _, h => nomatch h
  | .list _ :: _, _, h => nomatch h
  | .dict _ :: _, _, h => nomatch h
/-- the different ones of some rows -/
def dedR (ns : List (List Int)) : List (List Int) := ns.foldr (fun a l => if a ∈ l then l else a :: l) []
theorem mem_dedR {x : List Int} : ∀ {ns : List (List Int)}, x ∈ dedR ns ↔ x ∈ ns
  | [] => by simp [dedR]
  | a :: ns => by
    have ih := mem_dedR (x := x) (ns := ns)
    show x ∈ (if a ∈ dedR ns then dedR ns else a :: dedR ns) ↔ _
    split
    · rename_i h
      rw [ih, List.mem_cons]
      refine ⟨.inr, fun g => g.elim (fun e => ?_) id⟩
      subst e
      exact ih.mp h
    · rw [List.mem_cons, List.mem_cons, ih]
theorem nodup_dedR : ∀ ns : List (List Int), (dedR ns).Nodup
  | [] => by simp [dedR]
  | a :: ns => by
    show (if a ∈ dedR ns then dedR ns else a :: dedR ns).Nodup
    split
    · exact nodup_dedR ns
    · rename_i h
      exact List.nodup_cons.mpr ⟨h, nodup_dedR ns⟩
abbrev BT : Int := 1000000
def wideT (ls : List (List Int)) : Nat := match ls with
  | [] => 1
  | l :: _ => l.length
def okT (ls : List (List Int)) : Bool := decide (ls.length < 64) && decide (1 ≤ wideT ls) && ls.all fun l => decide (l.length = wideT ls) && l.all fun x => decide (0 ≤ x) && decide (x < BT)
def sortR (ls : List (List Int)) : List (List Int) := (dedR ls).mergeSort fun a b => decide (TS.code BT a ≤ TS.code BT b)
def sortedSetTF : List PD → Option RV
  | [.list ds] => (match rowsD ds with
    | some ls => if okT ls = true then some (.own ((sortR ls).map fun ns => PyData.tuple (ns.map PyData.int))) else none
    | none => none)
  | _ => none
theorem sortedSetTF_inv {ds : List PD} {out : RV} (h : sortedSetTF ds = some out) : ∃ ls : List (List Int), ds = [.list (ls.map fun ns => PyData.tuple (ns.map PyData.int))] ∧ okT ls = true ∧ out = .own ((sortR ls).map fun ns => PyData.tuple (ns.map PyData.int)) := by
  unfold sortedSetTF at h
  split at h
  · rename_i ds
    split at h
    · rename_i ls h1
      split at h
      · rename_i h2
        cases h
        exact ⟨ls, by rw [rowsD_eq h1], h2, rfl⟩
      · cases h
    · cases h
  · cases h
theorem code_inj {B : Int} : ∀ {a b : List Int}, a.length = b.length → TS.Bd B a → TS.Bd B b → TS.code B a = TS.code B b → a = b
  | [], [], _, _, _, _ => rfl
  | d :: r, e :: q, hl, ha, hb, h => by
    have hl' : r.length = q.length := by simpa using hl
    have h1 : ¬ d < e := fun c => by have := TS.code_lt hl' ha.tail hb.tail c; omega
    have h2 : ¬ e < d := fun c => by have := TS.code_lt hl'.symm hb.tail ha.tail c; omega
    have e1 : d = e := by omega
    subst e1
    simp only [TS.code, hl'] at h
    rw [code_inj hl' ha.tail hb.tail (by omega)]
theorem sortR_uniq {ms ls : List (List Int)} {d : Nat} (h0 : ∀ l ∈ ls, l.length = d ∧ TS.Bd BT l) (nd : ms.Nodup) (h1 : ms.Pairwise fun a b => TS.code BT a ≤ TS.code BT b) (h2 : ∀ k, k ∈ ms ↔ k ∈ ls) : ms = sortR ls := by
  have hs := List.pairwise_mergeSort (le := fun a b : List Int => decide (TS.code BT a ≤ TS.code BT b)) (fun a b c g1 g2 => by simp at *; omega) (fun a b => by simp; omega) (dedR ls)
  have p : ms.Perm (dedR ls) := (List.perm_ext_iff_of_nodup nd (nodup_dedR ls)).mpr fun k => by rw [h2 k, mem_dedR]
  refine List.Perm.eq_of_pairwise (le := fun a b => TS.code BT a ≤ TS.code BT b) (fun a b ha hb g1 g2 => ?_) h1 (hs.imp fun h => of_decide_eq_true h) (p.trans (List.mergeSort_perm ..).symm)
  have a1 := h0 a ((h2 a).mp ha)
  have b1 := h0 b (mem_dedR.mp ((List.mergeSort_perm ..).subset hb))
  exact code_inj (a1.1.trans b1.1.symm) a1.2 b1.2 (by omega)
theorem okT_of {ls : List (List Int)} (h : okT ls = true) : ls.length < 64 ∧ 1 ≤ wideT ls ∧ ∀ l ∈ ls, l.length = wideT ls ∧ TS.Bd BT l := by
  simp only [okT, Bool.and_eq_true, decide_eq_true_eq, List.all_eq_true] at h
  exact ⟨h.1.1, h.1.2, fun l hl => ⟨(h.2 l hl).1, fun x hx => (h.2 l hl).2 x hx⟩⟩
theorem rows_refs {K : Frag} {F : Hp} : ∀ {ls : List (List Int)} {vs : List V}, HasL K F vs (ls.map fun ns => PyData.tuple (ns.map PyData.int)) → ∃ ks : List (Addr × List Int), vs = ks.map (fun p => V.ref p.1) ∧ ks.map (·.2) = ls ∧ ∀ p ∈ ks, SqT K F p.1 (p.2.map V.int)
  | [], _, h => by cases h; exact ⟨[], rfl, rfl, fun _ h => nomatch h⟩
  | l :: ls, _, h => by
    cases h with
    | cons h1 h2 =>
      obtain ⟨ks, e1, e2, e3⟩ := rows_refs h2
      cases h1 with
      | tup hs ht =>
        rename_i a xs
        have : xs = l.map V.int := HasL.ints ht
        subst this
        exact ⟨(a, l) :: ks, by rw [e1]; rfl, by rw [List.map_cons, e2], fun p hp => by
          rcases List.mem_cons.mp hp with rfl | hp
          · exact hs
          · exact e3 p hp⟩
theorem refs_rows {K : Frag} {F : Hp} : ∀ {ks : List (Addr × List Int)}, (∀ p ∈ ks, SqT K F p.1 (p.2.map V.int)) → HasL K F (ks.map fun p => V.ref p.1) ((ks.map (·.2)).map fun ns => PyData.tuple (ns.map PyData.int))
  | [], _ => .nil
  | p :: ks, h => .cons (.tup (h p (List.mem_cons_self ..)) (HasL.of_ints p.2)) (refs_rows fun q hq => h q (List.mem_cons_of_mem _ hq))
section
variable {X : Cx} {pa : Nat → Addr} {pos p0 p1 p2 : Pos} {k : Nat} {a : Expr} {ms : Mr (List RV)}
theorem de_sortedSetT (hu : X.A.units + 64 < cLine) (hc : X.calm = true) (hm : X.mg "sorted" = none) (hm2 : X.mg "set" = none) (ha : DA X pa [a] ms) (hg : Gl X "sorted" := by rfl) (hg2 : Gl X "set" := by rfl)
    (he : starEach [a] X.env = (false, eval a X.env) :: starEach [] X.env := by rfl)
    (he2 : starEach [Expr.Call (.Name "set" p1) [a] [] p0] X.env = (false, eval (.Call (.Name "set" p1) [a] [] p0) X.env) :: starEach [] X.env := by rfl) : DE X pa (.Call (.Name "sorted" p2) [.Call (.Name "set" p1) [a] [] p0] [] pos) (mBlt sortedSetTF ms) :=
  DE.of (pe_callB (x := "sorted") (cr_sortedT hc) hg hm (by decide +kernel) (pa_cons (pe_callTy (x := "set") (cr_setOfT hc hu) hg2 hm2 PyProof.Rows.boot_set ha (by decide) (by decide) he rfl) pa_nil he2) (by decide) (by decide) he2 rfl) fun {B F H σ ρ r ρ' Q} R e p =>
    mBlt_run (f := sortedSetTF) (r := fun vs H Q => rSetOfT X.K X.prog X.w vs H fun x H1 => rSortedT X.K X.prog X.w [x] H1 Q) (fun {B F H σ ρ xs ds out Q} R hx ho q => by
      obtain ⟨ls, rfl, hok, rfl⟩ := sortedSetTF_inv ho
      obtain ⟨h64, hd, hls⟩ := okT_of hok
      obtain ⟨v, rfl, h⟩ := hx.one
      obtain ⟨a0, vs, rfl, ha0, hv⟩ := Top.lst h
      obtain ⟨ks, rfl, hks, hsq⟩ := rows_refs hv
      have len : ks.length < 64 := by rw [← List.length_map (f := (·.2)), hks]; exact h64
      refine ⟨a0, ks, rfl, SqL.of ha0, fun p hp => SqT.le R.fh (hsq p hp), len, fun b L hb sub sup => ⟨b, L, wideT ls, BT, rfl, upd_same, fun p hp => ?_, hd, fun p hp => ?_, fun L' c pm nd h64' pw hcn => ?_⟩⟩
      · exact SqT.le (Le.upd hb) (SqT.le R.fh (hsq p (sub p hp)))
      · exact hls p.2 (by rw [← hks]; exact List.mem_map.mpr ⟨p, sub p hp, rfl⟩)
      · have e2 : L'.map (·.2) = sortR ls := sortR_uniq hls nd (List.pairwise_map.mpr pw) fun l => by
          rw [← hks]
          constructor
          · intro hl
            obtain ⟨p, hp, rfl⟩ := List.mem_map.mp hl
            exact List.mem_map.mpr ⟨p, sub p (pm.subset hp), rfl⟩
          · intro hl
            obtain ⟨p, hp, rfl⟩ := List.mem_map.mp hl
            obtain ⟨p', hp', e⟩ := List.mem_map.mp (sup p hp)
            exact List.mem_map.mpr ⟨p', pm.symm.subset hp', e⟩
        rw [← e2] at q
        refine finL (R.alloc hb) q ?_ hcn
        exact refs_rows fun p hp => hsq p (sub p (pm.subset hp))) R e p
def strF : List PD → Option RV
  | [.int i] => if i.natAbs < 1000000000000000000 then some (.dat (.str (toString i))) else none
  | _ => none
theorem de_str1 {p0 : Pos} {e : Expr} {ms : Mr (List RV)} (hm : X.mg "str" = none) (ha : DA X pa [e] ms) (hg : Gl X "str" := by rfl) (he : starEach [e] X.env = (false, eval e X.env) :: starEach [] X.env := by rfl) : DE X pa (.Call (.Name "str" p0) [e] [] pos) (mBlt strF ms) :=
  de_callTy call_str_int (fun {B F H σ ρ xs ds out Q} R hx ho q => by
    unfold strF at ho
    split at ho
    · rename_i i
      split at ho
      · rename_i hi
        cases ho
        obtain ⟨v, rfl, h⟩ := hx.one
        refine ⟨i, by rw [h.int], ?_, fin R q (.str _)⟩
        by_cases h0 : i.natAbs = 0
        · rw [h0]; decide
        · exact Nat.lt_of_lt_of_le ((Nat.log2_lt (k := 60) h0).mpr (by omega)) (by decide)
      · cases ho
    · cases ho) hm ha PyProof.Rows.boot_str hg (by decide) (by decide) he rfl
end
end DL
/-! PuA: what a mirror answers, step by step. -/
namespace DL
open PySem L2
/-- m goes on, to what Q says -/
def W {α : Type} (m : Mr α) (ρ : Ev) (Q : α → Ev → Prop) : Prop := ∃ r ρ', m ρ = some (r, ρ') ∧ Q r ρ'
def Op {α : Type} (o : Option α) (Q : α → Prop) : Prop := ∃ r, o = some r ∧ Q r
def Op2 {α β : Type} (o : Option (α × β)) (Q : α → β → Prop) : Prop := ∃ a b, o = some (a, b) ∧ Q a b
/-- slots that are to be told plainly -/
def Nm (ρ : Ev) (P : Ev → Prop) : Prop := P ρ
def Br (b : Bool) (P Q : Prop) : Prop := (b = true → P) ∧ (b = false → Q)
/-- a def answers -/
def Fw (mf : FM) (xs : List Val) (Q : RV → List Val → Prop) : Prop := ∃ r ys, mf xs = some (r, ys) ∧ Q r ys
def Tr (r : RV) (Q : Bool → Prop) : Prop := ∃ b, r = .dat (.bool b) ∧ Q b
section
variable {α : Type} {ρ ρ' : Ev} {Q : α → Ev → Prop} {q : RV → Ev → Prop} {P1 P2 : Prop}
theorem W.mono {m : Mr α} {Q' : α → Ev → Prop} (h : W m ρ Q) (l : ∀ r ρ', Q r ρ' → Q' r ρ') : W m ρ Q' := let ⟨r, ρ1, e, z⟩ := h; ⟨r, ρ1, e, l _ _ z⟩
theorem Fw.mono {mf : FM} {xs : List Val} {Q Q' : RV → List Val → Prop} (h : Fw mf xs Q) (l : ∀ r ρ', Q r ρ' → Q' r ρ') : Fw mf xs Q' := let ⟨r, ρ1, e, z⟩ := h; ⟨r, ρ1, e, l _ _ z⟩
theorem op_of {o : Option α} {r : α} {Q : α → Prop} (h : o = some r) (z : Q r) : Op o Q := ⟨r, h, z⟩
theorem op2_of {α β : Type} {o : Option (α × β)} {a : α} {b : β} {Q : α → β → Prop} (h : o = some (a, b)) (z : Q a b) : Op2 o Q := ⟨a, b, h, z⟩
theorem w_norm {m : Mr α} {ρ' : Ev} (h : ρ = ρ') (z : W m ρ' Q) : W m ρ Q := by rw [h]; exact z
theorem nm_of {ρ' : Ev} {P : Ev → Prop} (h : ρ = ρ') (z : P ρ') : Nm ρ P := by rw [h]; exact z
theorem tr_of {b : Bool} {Q : Bool → Prop} (z : Q b) : Tr (.dat (.bool b)) Q := ⟨b, rfl, z⟩
theorem br_t {b : Bool} (h : b = true) (z : P1) : Br b P1 P2 := ⟨fun _ => z, fun e => absurd (h.symm.trans e) (by decide)⟩
theorem br_f {b : Bool} (h : b = false) (z : P2) : Br b P1 P2 := ⟨fun e => absurd (h.symm.trans e) (by decide), fun _ => z⟩
theorem br_tt (z : P1) : Br true P1 P2 := br_t rfl z
theorem br_ff (z : P2) : Br false P1 P2 := br_f rfl z
theorem br_yes {p : Prop} [Decidable p] (h : p) (z : P1) : Br (decide p) P1 P2 := br_t (decide_eq_true h) z
theorem br_no {p : Prop} [Decidable p] (h : ¬p) (z : P2) : Br (decide p) P1 P2 := br_f (decide_eq_false h) z
theorem br_dec {p : Prop} [Decidable p] (h : p → P1) (g : ¬p → P2) : Br (decide p) P1 P2 := ⟨fun e => h (of_decide_eq_true e), fun e => g (of_decide_eq_false e)⟩
theorem br_not {b : Bool} (h : Br b P2 P1) : Br (!b) P1 P2 := ⟨fun e => h.2 (by simpa using e), fun e => h.1 (by simpa using e)⟩
theorem br_bool {b : Bool} (h : b = true → P1) (g : b = false → P2) : Br b P1 P2 := ⟨h, g⟩
/-! ### leaves -/
theorem w_var {i : Nat} {d : PD} (h : ρ[i]? = some (some (Val.dat d))) (z : q (.dat d) ρ) : W (mVar i) ρ q := ⟨.dat d, ρ, by unfold mVar; rw [h], z⟩
theorem w_varO {i : Nat} {ds : List PD} (h : ρ[i]? = some (some (Val.own ds))) (z : q (.bor i) ρ) : W (mVar i) ρ q := ⟨.bor i, ρ, by unfold mVar; rw [h], z⟩
theorem w_varR {i : Nat} {ds : List PD} (h : ρ[i]? = some (some (Val.ref ds))) (z : q (.bor i) ρ) : W (mVar i) ρ q := ⟨.bor i, ρ, by unfold mVar; rw [h], z⟩
theorem w_varS {i : Nat} {ds : List PD} (h : ρ[i]? = some (some (Val.scr ds))) (z : q (.scr ds) ρ) : W (mVar i) ρ q := ⟨.scr ds, ρ, by unfold mVar; rw [h], z⟩
theorem w_c {d : PD} (z : q (.dat d) ρ) : W (mC d) ρ q := ⟨_, _, rfl, z⟩
theorem w_nil {q : List RV → Ev → Prop} (z : q [] ρ) : W mNil ρ q := ⟨_, _, rfl, z⟩
theorem w_cons {m : Mr RV} {ms : Mr (List RV)} {q : List RV → Ev → Prop} (h : W m ρ fun r ρ1 => W ms ρ1 fun rs ρ2 => q (r :: rs) ρ2) : W (mCons m ms) ρ q := by
  obtain ⟨r, ρ1, e1, rs, ρ2, e2, z⟩ := h
  exact ⟨_, ρ2, by simp only [mCons, e1, e2], z⟩
/-! ### expressions -/
theorem w_bin {f : PD → PD → Option RV} {a b : Mr RV} (h : W a ρ fun ra ρ1 => W b ρ1 fun rb ρ2 => Op (res ra ρ2) fun x => Op (res rb ρ2) fun y => Op (f x y) fun r => q r ρ2) : W (mBin f a b) ρ q := by
  obtain ⟨ra, ρ1, e1, rb, ρ2, e2, x, e3, y, e4, r, e5, z⟩ := h
  exact ⟨r, ρ2, by simp only [mBin, e1, e2, e3, e4, e5], z⟩
theorem w_un {f : PD → Option RV} {a : Mr RV} (h : W a ρ fun ra ρ1 => Op (res ra ρ1) fun x => Op (f x) fun r => q r ρ1) : W (mUn f a) ρ q := by
  obtain ⟨ra, ρ1, e1, x, e3, r, e5, z⟩ := h
  exact ⟨r, ρ1, by simp only [mUn, e1, e3, e5], z⟩
theorem w_blt {f : List PD → Option RV} {ms : Mr (List RV)} (h : W ms ρ fun rs ρ1 => Op (resL rs ρ1) fun ds => Op (f ds) fun r => q r ρ1) : W (mBlt f ms) ρ q := by
  obtain ⟨rs, ρ1, e1, ds, e3, r, e5, z⟩ := h
  exact ⟨r, ρ1, by simp only [mBlt, e1, e3, e5], z⟩
theorem w_truth {m : Mr RV} {q : Bool → Ev → Prop} (h : W m ρ fun r ρ1 => Tr r fun b => q b ρ1) : W (mTruth m) ρ q := by
  obtain ⟨r, ρ1, e1, b, rfl, z⟩ := h
  exact ⟨b, ρ1, by simp only [mTruth, e1], z⟩
theorem w_ofB {m : Mr Bool} (h : W m ρ fun b ρ1 => q (.dat (.bool b)) ρ1) : W (mOfB m) ρ q := by
  obtain ⟨b, ρ1, e1, z⟩ := h
  exact ⟨_, ρ1, by simp only [mOfB, e1], z⟩
theorem w_not {m : Mr Bool} {q : Bool → Ev → Prop} (h : W m ρ fun b ρ1 => q (!b) ρ1) : W (mNot m) ρ q := by
  obtain ⟨b, ρ1, e1, z⟩ := h
  exact ⟨!b, ρ1, by simp only [mNot, e1], z⟩
theorem w_and {m n : Mr Bool} {q : Bool → Ev → Prop} (h : W m ρ fun b ρ1 => Br b (W n ρ1 q) (q false ρ1)) : W (mAnd m n) ρ q := by
  obtain ⟨b, ρ1, e1, h1, h2⟩ := h
  cases b with
  | true => obtain ⟨c, ρ2, e2, z⟩ := h1 rfl; exact ⟨c, ρ2, by simp only [mAnd, e1, e2], z⟩
  | false => exact ⟨false, ρ1, by simp only [mAnd, e1], h2 rfl⟩
theorem w_or {m n : Mr Bool} {q : Bool → Ev → Prop} (h : W m ρ fun b ρ1 => Br b (q true ρ1) (W n ρ1 q)) : W (mOr m n) ρ q := by
  obtain ⟨b, ρ1, e1, h1, h2⟩ := h
  cases b with
  | false => obtain ⟨c, ρ2, e2, z⟩ := h2 rfl; exact ⟨c, ρ2, by simp only [mOr, e1, e2], z⟩
  | true => exact ⟨true, ρ1, by simp only [mOr, e1], h1 rfl⟩
theorem w_if {m : Mr Bool} {a b : Mr α} (h : W m ρ fun t ρ1 => Br t (W a ρ1 Q) (W b ρ1 Q)) : W (mIf m a b) ρ Q := by
  obtain ⟨t, ρ1, e1, h1, h2⟩ := h
  cases t with
  | true => obtain ⟨c, ρ2, e2, z⟩ := h1 rfl; exact ⟨c, ρ2, by simp only [mIf, e1, e2], z⟩
  | false => obtain ⟨c, ρ2, e2, z⟩ := h2 rfl; exact ⟨c, ρ2, by simp only [mIf, e1, e2], z⟩
theorem w_thawT {m : Mr Bool} {q : Bool → Ev → Prop} (h : W m (frzE ρ) fun b _ => q b ρ) : W (mThawT m) ρ q := by
  obtain ⟨b, ρ1, e1, z⟩ := h
  exact ⟨b, ρ, by simp only [mThawT, e1], z⟩
/-! ### statements -/
theorem w_next {q : Fl → Ev → Prop} (z : q .nx ρ) : W mNext ρ q := ⟨_, _, rfl, z⟩
/-- on behind a statement -/
def Go (fl : Fl) (P : Prop) (Q : Prop) : Prop := match fl with
  | .nx => P
  | _ => Q
theorem w_seq {a b : Ms} {q : Fl → Ev → Prop} (h : W a ρ fun fl ρ1 => Go fl (W b ρ1 q) (q fl ρ1)) : W (mSeq a b) ρ q := by
  obtain ⟨fl, ρ1, e1, h⟩ := h
  cases fl with
  | nx => obtain ⟨g, ρ2, e2, z⟩ := h; exact ⟨g, ρ2, by simp only [mSeq, e1, e2], z⟩
  | bk => exact ⟨_, ρ1, by simp only [mSeq, e1], h⟩
  | ct => exact ⟨_, ρ1, by simp only [mSeq, e1], h⟩
  | rt r => exact ⟨_, ρ1, by simp only [mSeq, e1], h⟩
theorem go_nx {P Q : Prop} (h : P) : Go .nx P Q := h
theorem go_rt {P Q : Prop} {r : RV} (h : Q) : Go (.rt r) P Q := h
theorem w_drop {m : Mr RV} {q : Fl → Ev → Prop} (h : W m ρ fun _ ρ1 => q .nx ρ1) : W (mDrop m) ρ q := by
  obtain ⟨r, ρ1, e1, z⟩ := h
  exact ⟨_, ρ1, by simp only [mDrop, e1], z⟩
def retO : RV → Ev → Option (RV × Ev)
  | .dat d, ρ1 => some (.dat d, ρ1)
  | .own ds, ρ1 => some (.own ds, ρ1)
  | .bor i, ρ1 => (match ρ1[i]? with
    | some (some (Val.dat d)) => some (.dat d, ρ1)
    | some (some (Val.own ds)) => some (.own ds, ρ1.set i none)
    | _ => none)
  | _, _ => none
theorem w_ret {m : Mr RV} {q : Fl → Ev → Prop} (h : W m ρ fun r ρ1 => Op2 (retO r ρ1) fun a b => q (.rt a) b) : W (mRet m) ρ q := by
  obtain ⟨r, ρ1, e1, r2, ρ2, e2, z⟩ := h
  refine ⟨_, ρ2, ?_, z⟩
  unfold mRet
  rw [e1]
  cases r with
  | dat d => cases e2; rfl
  | own d => cases e2; rfl
  | scr d => cases e2
  | bor i =>
    have e2 : (match ρ1[i]? with
      | some (some (Val.dat d)) => some (RV.dat d, ρ1)
      | some (some (Val.own ds)) => some (RV.own ds, ρ1.set i none)
      | _ => none) = some (r2, ρ2) := e2
    show (match ρ1[i]? with
      | some (some (Val.dat d)) => some (Fl.rt (.dat d), ρ1)
      | some (some (Val.own ds)) => some (Fl.rt (.own ds), ρ1.set i none)
      | _ => none) = _
    cases q : ρ1[i]? with
    | none => rw [q] at e2; cases e2
    | some o =>
      rw [q] at e2
      cases o with
      | none => cases e2
      | some x =>
        cases x with
        | dat d => cases e2; rfl
        | own d => cases e2; rfl
        | ref d => cases e2
        | scr d => cases e2
theorem w_ifS {m : Mr Bool} {a b : Ms} {q : Fl → Ev → Prop} (h : W m ρ fun t ρ1 => Br t (W a ρ1 q) (W b ρ1 q)) : W (mIfS m a b) ρ q := by
  obtain ⟨t, ρ1, e1, h1, h2⟩ := h
  cases t with
  | true => obtain ⟨c, ρ2, e2, z⟩ := h1 rfl; exact ⟨c, ρ2, by simp only [mIfS, e1, e2], z⟩
  | false => obtain ⟨c, ρ2, e2, z⟩ := h2 rfl; exact ⟨c, ρ2, by simp only [mIfS, e1, e2], z⟩
theorem w_set {i : Nat} {m : Mr RV} {q : Fl → Ev → Prop} (h : W m ρ fun r ρ1 => Op (put i r ρ1) fun ρ2 => q .nx ρ2) : W (mSet i m) ρ q := by
  obtain ⟨r, ρ1, e1, ρ2, e2, z⟩ := h
  exact ⟨_, ρ2, by simp only [mSet, e1, e2], z⟩
theorem w_asg {b : Bd PD} {m : Mr RV} {q : Fl → Ev → Prop} (h : W m ρ fun r ρ1 => Op2 (toDat r ρ1) fun d ρ2 => Op (b d ρ2) fun ρ3 => q .nx ρ3) : W (mAsg m b) ρ q := by
  obtain ⟨r, ρ1, e1, d, ρ2, e2, ρ3, e3, z⟩ := h
  exact ⟨_, ρ3, by simp only [mAsg, e1, e2, e3], z⟩
theorem w_par {is : List Nat} {ms : Mr (List RV)} {q : Fl → Ev → Prop} (h : W ms ρ fun rs ρ1 => Op (puts is rs ρ1) fun ρ2 => q .nx ρ2) : W (mPar is ms) ρ q := by
  obtain ⟨rs, ρ1, e1, ρ2, e2, z⟩ := h
  exact ⟨_, ρ2, by simp only [mPar, e1, e2], z⟩
theorem w_tup {ms : Mr (List RV)} (h : W ms ρ fun rs ρ1 => Op2 (toDatL (rs.map holdR) ρ1) fun ds ρ2 => ds.length ≤ 1000 ∧ q (.dat (.tuple ds)) ρ2) : W (mTup ms) ρ q := by
  obtain ⟨rs, ρ1, e1, ds, ρ2, e2, l, z⟩ := h
  exact ⟨_, ρ2, by simp only [mTup, e1, e2]; rw [if_pos l], z⟩
theorem w_lst {ms : Mr (List RV)} (h : W ms ρ fun rs ρ1 => Op2 (toDatL (rs.map holdR) ρ1) fun ds ρ2 => ds.length ≤ 1000 ∧ q (.own ds) ρ2) : W (mLst ms) ρ q := by
  obtain ⟨rs, ρ1, e1, ds, ρ2, e2, l, z⟩ := h
  exact ⟨_, ρ2, by simp only [mLst, e1, e2]; rw [if_pos l], z⟩
/-! ### script, parts, chains -/
theorem w_lenScr {i : Nat} {ds : List PD} (h : ρ[i]? = some (some (Val.scr ds))) (z : q (.dat (.int ds.length)) ρ) : W (mLenScr i) ρ q := ⟨_, ρ, by simp only [mLenScr, h], z⟩
theorem w_ixScr {i : Nat} {mb : Mr RV} {ds : List PD} (h : ρ[i]? = some (some (Val.scr ds))) (g : W mb ρ fun r ρ1 => ∃ k d, r = .dat (.int k) ∧ atI ds k = some d ∧ q (.dat d) ρ1) : W (mIxScr i mb) ρ q := by
  obtain ⟨r, ρ1, e1, k, d, rfl, e2, z⟩ := g
  exact ⟨_, ρ1, by simp only [mIxScr, h, e1, e2], z⟩
theorem w_partN {q : Option Int → Ev → Prop} (z : q none ρ) : W (mPart none) ρ q := ⟨_, _, rfl, z⟩
theorem w_partS {m : Mr RV} {q : Option Int → Ev → Prop} (h : W m ρ fun r ρ1 => ∃ i, r = .dat (.int i) ∧ q (some i) ρ1) : W (mPart (some m)) ρ q := by
  obtain ⟨r, ρ1, e1, i, rfl, z⟩ := h
  exact ⟨_, ρ1, by simp only [mPart, e1], z⟩
theorem w_slice {m : Mr RV} {lo hi : Option (Mr RV)} (h : W m ρ fun r ρ1 => W (mPart lo) ρ1 fun l ρ2 => W (mPart hi) ρ2 fun u ρ3 => Op (res r ρ3) fun d => Op (sliceD d l u) fun o => q o ρ3) : W (mSlice m lo hi) ρ q := by
  obtain ⟨r, ρ1, e1, l, ρ2, e2, u, ρ3, e3, d, e4, o, e5, z⟩ := h
  exact ⟨_, ρ3, by simp only [mSlice, e1, e2, e3, e4, e5], z⟩
theorem w_chain {f g : PD → PD → Option RV} {a b c : Mr RV} (h : W a ρ fun ra ρ1 => W b ρ1 fun rb ρ2 => Op (res ra ρ2) fun x => Op (res rb ρ2) fun y => Op (f x y) fun r => Tr r fun t =>
    Br t (W c ρ2 fun rc ρ3 => Op (res rb ρ3) fun y' => Op (res rc ρ3) fun z => Op (g y' z) fun r => q r ρ3) (q (.dat (.bool false)) ρ2)) : W (mChain f g a b c) ρ q := by
  obtain ⟨ra, ρ1, e1, rb, ρ2, e2, x, e3, y, e4, r, e5, t, rfl, h1, h2⟩ := h
  cases t with
  | true =>
    obtain ⟨rc, ρ3, e6, y', e7, z', e8, r, e9, z⟩ := h1 rfl
    exact ⟨r, ρ3, by simp only [mChain, e1, e2, e3, e4, e5, e6, e7, e8, e9], z⟩
  | false => exact ⟨_, ρ2, by simp only [mChain, e1, e2, e3, e4, e5], h2 rfl⟩
theorem w_andV {a b : Mr RV} (h : W a ρ fun r ρ1 => Tr r fun t => Br t (W b ρ1 q) (q (.dat (.bool false)) ρ1)) : W (mAndV a b) ρ q := by
  obtain ⟨r, ρ1, e1, t, rfl, h1, h2⟩ := h
  cases t with
  | true => obtain ⟨r, ρ2, e2, z⟩ := h1 rfl; exact ⟨r, ρ2, by simp only [mAndV, e1, e2], z⟩
  | false => exact ⟨_, ρ1, by simp only [mAndV, e1], h2 rfl⟩
theorem w_orV {a b : Mr RV} (h : W a ρ fun r ρ1 => Tr r fun t => Br t (q (.dat (.bool true)) ρ1) (W b ρ1 q)) : W (mOrV a b) ρ q := by
  obtain ⟨r, ρ1, e1, t, rfl, h1, h2⟩ := h
  cases t with
  | false => obtain ⟨r, ρ2, e2, z⟩ := h2 rfl; exact ⟨r, ρ2, by simp only [mOrV, e1, e2], z⟩
  | true => exact ⟨_, ρ1, by simp only [mOrV, e1], h1 rfl⟩
theorem w_notV {a : Mr RV} (h : W a ρ fun r ρ1 => Tr r fun t => q (.dat (.bool (!t))) ρ1) : W (mNotV a) ρ q := by
  obtain ⟨r, ρ1, e1, t, rfl, z⟩ := h
  exact ⟨_, ρ1, by simp only [mNotV, e1], z⟩
theorem w_mut {i : Nat} {f : List PD → List PD → Option (PD × List PD)} {ms : Mr (List RV)} (h0 : (slotM ρ[i]?).isSome = true) (h : W ms ρ fun rs ρ1 => Op2 (toDatL (rs.map holdR) ρ1) fun ds ρ2 => ∃ x cur, ρ2[i]? = some (some x) ∧ Val.mut x = some cur ∧ Op2 (f cur ds) fun o new => q (.dat o) (ρ2.set i (some (x.put new)))) : W (mMut i f ms) ρ q := by
  obtain ⟨rs, ρ1, e1, ds, ρ2, e2, x, cur, e3, e4, o, new, e5, z⟩ := h
  cases e0 : slotM ρ[i]? with
  | none => rw [e0] at h0; cases h0
  | some d0 => exact ⟨_, _, by simp only [mMut, e0, mArgs, e1, e2, e3, e4, e5], z⟩
/-! ### calls -/
/-- what a def may hand back -/
def Hand (mf : FM) : Prop := ∀ xs r ys, mf xs = some (r, ys) → (∃ d, r = .dat d) ∨ ∃ ds, r = .own ds
theorem hand_of (np n : Nat) (m : Ms) : Hand (mfOf np n m) := by
  intro xs r ys e
  unfold mfOf at e
  split at e
  · split at e
    · split at e
      · cases e; exact .inl ⟨_, rfl⟩
      · cases e
    · split at e
      · cases e; exact .inr ⟨_, rfl⟩
      · cases e
    · split at e
      · cases e; exact .inl ⟨_, rfl⟩
      · cases e
    · cases e
  · cases e
theorem w_call {mf : FM} {ms : Mr (List RV)} (h : W ms ρ fun rs ρ1 => Op2 (toVals (rs.map holdR) ρ1) fun xs ρ2 => Fw mf xs fun r _ => q r ρ2) (hr : Hand mf := by exact hand_of _ _ _) : W (mCall mf ms) ρ q := by
  obtain ⟨rs, ρ1, e1, xs, ρ2, e2, r, ys, e3, z⟩ := h
  refine ⟨r, ρ2, ?_, z⟩
  rcases hr _ _ _ e3 with ⟨d, rfl⟩ | ⟨d, rfl⟩ <;> simp only [mCall, e1, e2, e3]
theorem w_callP {mf : FM} {ms : Mr (List RV)} (h : W ms ρ fun rs ρ1 => ∃ r0 rs', rs = r0 :: rs' ∧ Op2 (toVals (rs'.map holdR) ρ1) fun xs ρ2 => Op (lend r0 ρ2) fun ds => Fw mf (.ref ds :: xs) fun r ys => ∃ es ys', ys = .ref es :: ys' ∧ Nm (back es r0 ρ2) (q r)) (hr : Hand mf := by exact hand_of _ _ _) : W (mCallP mf ms) ρ q := by
  obtain ⟨rs, ρ1, e1, r0, rs', rfl, xs, ρ2, e2, ds, e3, r, ys, e4, es, ys', rfl, z⟩ := h
  refine ⟨r, _, ?_, z⟩
  rcases hr _ _ _ e4 with ⟨d, rfl⟩ | ⟨d, rfl⟩ <;> simp only [mCallP, e1, e2, e3, e4]
theorem w_callN {mf : FM} {m : Mr RV} (h : W m ρ fun r ρ1 => ∃ ds, r = .own ds ∧ Fw mf [.ref ds] fun r _ => ∃ d, r = .dat d ∧ q r ρ1) : W (mCallN mf m) ρ q := by
  obtain ⟨r, ρ1, e1, ds, rfl, r, ys, e2, d, rfl, z⟩ := h
  exact ⟨_, ρ1, by simp only [mCallN, e1, e2], z⟩
theorem w_callK {mf : FM} {n m : Nat} {perm : List Nat} {ms mk : Mr (List RV)} (h : W ms ρ fun rs ρ1 => W mk ρ1 fun ks ρ2 => (rs.length = n ∧ ks.length = m) ∧ Op2 (toVals ((rs ++ ks).map holdR) ρ2) fun xs ρ3 => Fw mf (perm.filterMap fun i => xs[i]?) fun r _ => q r ρ3) (hr : Hand mf := by exact hand_of _ _ _) : W (mCallK mf n m perm ms mk) ρ q := by
  obtain ⟨rs, ρ1, e1, ks, ρ2, e2, hl, xs, ρ3, e3, r, ys, e4, z⟩ := h
  refine ⟨r, ρ3, ?_, z⟩
  rcases hr _ _ _ e4 with ⟨d, rfl⟩ | ⟨d, rfl⟩ <;> simp only [mCallK, e1, e2, if_pos hl, e3, e4]
/-- how a body ends -/
def End (xs : List Val) (Q : RV → List Val → Prop) (fl : Fl) (ρ : Ev) : Prop := match fl with
  | .rt (.dat d) => Op (outs xs ρ) fun ys => Q (.dat d) ys
  | .rt (.own ds) => Op (outs xs ρ) fun ys => Q (.own ds) ys
  | .nx => Op (outs xs ρ) fun ys => Q (.dat .none) ys
  | _ => False
theorem fw_body {np n : Nat} {m : Ms} {xs : List Val} {Q : RV → List Val → Prop} (hl : xs.length = np) (h : W m (vals0 xs ++ List.replicate (n - np) none) (End xs Q)) : Fw (mfOf np n m) xs Q := by
  obtain ⟨fl, ρ', e1, h⟩ := h
  match fl, h with
  | .nx, h => obtain ⟨ys, e2, z⟩ := h; exact ⟨_, ys, by simp only [mfOf, if_pos hl, e1, e2], z⟩
  | .rt (.dat d), h => obtain ⟨ys, e2, z⟩ := h; exact ⟨_, ys, by simp only [mfOf, if_pos hl, e1, e2], z⟩
  | .rt (.own d), h => obtain ⟨ys, e2, z⟩ := h; exact ⟨_, ys, by simp only [mfOf, if_pos hl, e1, e2], z⟩
/-! ### walks -/
theorem w_items {m : Mr RV} {q : List PD → Ev → Prop} (h : W m ρ fun r ρ1 => Op2 (toDat r ρ1) fun d ρ2 => Op (itemsOf d) fun ds => q ds ρ2) : W (mItems m) ρ q := by
  obtain ⟨r, ρ1, e1, d, ρ2, e2, ds, e3, z⟩ := h
  exact ⟨ds, ρ2, by simp only [mItems, e1, e2, e3], z⟩
theorem w_args {ms : Mr (List RV)} {q : List PD → Ev → Prop} (h : W ms ρ fun rs ρ1 => Op2 (toDatL (rs.map holdR) ρ1) q) : W (mArgs ms) ρ q := by
  obtain ⟨rs, ρ1, e1, d, ρ2, e2, z⟩ := h
  exact ⟨_, ρ2, by simp only [mArgs, e1, e2], z⟩
theorem w_enum {ms : Mr (List RV)} {q : List PD → Ev → Prop} (h : W (mArgs ms) ρ fun as ρ1 => ∃ d, as = [d] ∧ Op (itemsOf d) fun ds => q (enumD 0 ds) ρ1) : W (mEnum ms) ρ q := by
  obtain ⟨as, ρ1, e1, d, rfl, ds, e2, z⟩ := h
  exact ⟨_, ρ1, by simp only [mEnum, e1, e2], z⟩
theorem w_zip {ms : Mr (List RV)} {q : List PD → Ev → Prop} (h : W (mArgs ms) ρ fun as ρ1 => ∃ d e, as = [d, e] ∧ Op (itemsOf d) fun ds => Op (itemsOf e) fun es => q (zipD ds es) ρ1) : W (mZip ms) ρ q := by
  obtain ⟨as, ρ1, e1, d, e, rfl, ds, e2, es, e3, z⟩ := h
  exact ⟨_, ρ1, by simp only [mZip, e1, e2, e3], z⟩
theorem inRange_of {i : Int} (h1 : -4611686018427387904 ≤ i) (h2 : i < 4611686018427387904) : inRange i = true := by
  unfold inRange
  have e : (2 : Int) ^ 62 = 4611686018427387904 := by decide
  rw [e]
  simp [h1, h2]
def Bd62 (n : Int) : Prop := -4611686018427387904 ≤ n ∧ n < 4611686018427387904
theorem and_bd {n : Int} {P : Prop} (h1 : -4611686018427387904 ≤ n) (h2 : n < 4611686018427387904) (z : P) : Bd62 n ∧ P := ⟨⟨h1, h2⟩, z⟩
theorem w_range1 {ms : Mr (List RV)} {q : List PD → Ev → Prop} (h : W (mArgs ms) ρ fun as ρ1 => ∃ n, as = [.int n] ∧ Bd62 n ∧ q (rangeD 0 n.toNat) ρ1) : W (mRange1 ms) ρ q := by
  obtain ⟨as, ρ1, e1, n, rfl, ⟨h1, h2⟩, z⟩ := h
  exact ⟨_, ρ1, by simp only [mRange1, e1, if_pos (inRange_of h1 h2)], z⟩
theorem w_range2 {ms : Mr (List RV)} {q : List PD → Ev → Prop} (h : W (mArgs ms) ρ fun as ρ1 => ∃ a b, as = [.int a, .int b] ∧ Bd62 a ∧ Bd62 b ∧ q (rangeD a (b - a).toNat) ρ1) : W (mRange2 ms) ρ q := by
  obtain ⟨as, ρ1, e1, a, b, rfl, ⟨h2, h1⟩, ⟨h4, h3⟩, z⟩ := h
  exact ⟨_, ρ1, by simp only [mRange2, e1]; rw [if_pos ⟨inRange_of h2 h1, inRange_of h4 h3⟩], z⟩
/-- what a turn of a loop leaves -/
def Turn' (I : Ev → Prop) (Q : Fl → Ev → Prop) (fl : Fl) (ρ : Ev) : Prop := match fl with
  | .nx => I ρ
  | .ct => I ρ
  | .bk => Q .nx ρ
  | .rt r => Q (.rt r) ρ
theorem w_for_at {b : Bd PD} {body : Ms} {q : Fl → Ev → Prop} : ∀ {items : List PD} (I : Nat → Ev → Prop) {ρ : Ev}, I 0 ρ → (∀ i x ρ, items[i]? = some x → I i ρ → Op (b x ρ) fun ρ1 => W body ρ1 (Turn' (I (i + 1)) q)) → (∀ ρ, I items.length ρ → q .nx ρ) → W (mFor b body items) ρ q
  | [], I, ρ, h0, _, he => ⟨_, _, rfl, he ρ h0⟩
  | x :: xs, I, ρ, h0, hs, he => by
    obtain ⟨ρ1, e1, fl, ρ2, e2, h⟩ := hs 0 x ρ rfl h0
    have rest : ∀ ρ3, I 1 ρ3 → W (mFor b body xs) ρ3 q := fun ρ3 h3 => w_for_at (fun i => I (i + 1)) h3 (fun i y ρ hy hi => hs (i + 1) y ρ hy hi) fun ρ h => he ρ h
    match fl, h with
    | .nx, h => obtain ⟨r, ρ3, e3, z⟩ := rest ρ2 h; exact ⟨r, ρ3, by simp only [mFor, e1, e2, e3], z⟩
    | .ct, h => obtain ⟨r, ρ3, e3, z⟩ := rest ρ2 h; exact ⟨r, ρ3, by simp only [mFor, e1, e2, e3], z⟩
    | .bk, h => exact ⟨_, ρ2, by simp only [mFor, e1, e2], h⟩
    | .rt r, h => exact ⟨_, ρ2, by simp only [mFor, e1, e2], h⟩
theorem w_for {mi : Mr (List PD)} {b : Bd PD} {body : Ms} {q : Fl → Ev → Prop} (h : W mi ρ fun items ρ1 => W (mFor b body items) ρ1 q) : W (mForS mi b body) ρ q := by
  obtain ⟨items, ρ1, e1, r, ρ2, e2, z⟩ := h
  exact ⟨r, ρ2, by simp only [mForS, e1, e2], z⟩
/-- a comprehension: I says what the list and the slots are behind i items -/
theorem w_lc_at {vs : List Nat} {b : Bd PD} {mc : Mr Bool} {me : Mr RV} {q : List PD → Ev → Prop} : ∀ {items : List PD} (I : Nat → List PD → Ev → Prop) {acc : List PD} {ρ : Ev}, I 0 acc ρ →
    (∀ i x acc ρ, items[i]? = some x → I i acc ρ → Op (b x ρ) fun ρ1 => W mc ρ1 fun t ρ2 => Br t (W me ρ2 fun r ρ3 => Op2 (toDat r ρ3) fun d ρ4 => I (i + 1) (acc ++ [d]) (wipeE ρ4 vs)) (I (i + 1) acc (wipeE ρ2 vs))) →
    (∀ acc ρ, I items.length acc ρ → q acc ρ) → W (mLc vs b mc me items) ρ fun ds ρ' => q (acc ++ ds) ρ'
  | [], I, acc, ρ, h0, _, he => ⟨_, _, rfl, by simpa using he acc ρ h0⟩
  | x :: xs, I, acc, ρ, h0, hs, he => by
    obtain ⟨ρ1, e1, t, ρ2, e2, h1, h2⟩ := hs 0 x acc ρ rfl h0
    cases t with
    | true =>
      obtain ⟨r, ρ3, e3, d, ρ4, e4, h⟩ := h1 rfl
      obtain ⟨ds, ρ5, e5, z⟩ := w_lc_at (items := xs) (fun i => I (i + 1)) h (fun i y acc ρ hy hi => hs (i + 1) y acc ρ hy hi) fun acc ρ h => he acc ρ h
      exact ⟨d :: ds, ρ5, by simp only [mLc, e1, e2, e3, e4, e5], by simpa using z⟩
    | false =>
      obtain ⟨ds, ρ5, e5, z⟩ := w_lc_at (items := xs) (fun i => I (i + 1)) (h2 rfl) (fun i y acc ρ hy hi => hs (i + 1) y acc ρ hy hi) fun acc ρ h => he acc ρ h
      exact ⟨_, ρ5, by simp only [mLc, e1, e2, e5], z⟩
def Lk (n : Nat) : Prop := n ≤ 1000000
theorem and_lk {n : Nat} {P : Prop} (h : n ≤ 1000000) (z : P) : Lk n ∧ P := ⟨h, z⟩
theorem w_comp {vs : List Nat} {mi : Mr (List PD)} {b : Bd PD} {mc : Mr Bool} {me : Mr RV} (h : W mi ρ fun items ρ1 => Lk items.length ∧ Nm (wipeE ρ1 vs) fun ρ0 => W (mLc vs b mc me items) ρ0 fun ds ρ2 => Nm (backE ρ1 ρ2 vs) (q (.own ds))) : W (mComp vs mi b mc me) ρ q := by
  obtain ⟨items, ρ1, e1, hl, ds, ρ2, e2, z⟩ := h
  exact ⟨_, _, by
    have e2' : mLc vs b mc me items (wipeE ρ1 vs) = some (ds, ρ2) := e2
    have hl' : items.length ≤ 1000000 := hl
    simp only [mComp, e1, if_pos hl', e2'], z⟩
/-- .. of what changes no slot: item by item -/
theorem w_lc_map {vs : List Nat} {b : Bd PD} {mc : Mr Bool} {me : Mr RV} {q : List PD → Ev → Prop} {items : List PD} {ρ : Ev} (g : PD → Option PD)
    (hs : ∀ x, x ∈ items → Op (b x ρ) fun ρ1 => W mc ρ1 fun t ρ2 => Br t (W me ρ2 fun r ρ3 => Op2 (toDat r ρ3) fun d ρ4 => g x = some d ∧ wipeE ρ4 vs = ρ) (g x = none ∧ wipeE ρ2 vs = ρ))
    (z : q (items.filterMap g) ρ) : W (mLc vs b mc me items) ρ q := by
  have key := w_lc_at (vs := vs) (b := b) (mc := mc) (me := me) (q := q) (items := items) (fun i acc ρ' => ρ' = ρ ∧ acc = (items.take i).filterMap g) (acc := []) (ρ := ρ) ⟨rfl, by simp⟩ (fun i x acc ρ' hx ⟨e1, e2⟩ => ?_) fun acc ρ' ⟨e1, e2⟩ => by rw [e1, e2, List.take_length]; exact z
  · simpa using key
  · subst e1 e2
    obtain ⟨ρ1, e1, t, ρ2, e2, h1, h2⟩ := hs x (List.mem_of_getElem? hx)
    have tk : items.take (i + 1) = items.take i ++ [x] := by rw [List.take_add_one, hx]; rfl
    refine ⟨ρ1, e1, t, ρ2, e2, fun ht => ?_, fun ht => ?_⟩
    · obtain ⟨r, ρ3, e3, d, ρ4, e4, g1, g2⟩ := h1 ht
      exact ⟨r, ρ3, e3, d, ρ4, e4, g2, by rw [tk, List.filterMap_append]; simp [g1]⟩
    · obtain ⟨g1, g2⟩ := h2 ht
      exact ⟨g2, by rw [tk, List.filterMap_append]; simp [g1]⟩
theorem w_yes {q : Bool → Ev → Prop} (z : q true ρ) : W mYes ρ q := ⟨_, _, rfl, z⟩
end
end DL
/-! PuB: operations on typed data. -/
namespace DL
open PySem L2
section
variable {Q : RV → Prop} {i j : Int}
theorem op_mod (h : 0 < j) (z : Q (.dat (.int (i % j)))) : Op (modD (.int i) (.int j)) Q := op_of (by simp only [modD, intD, if_pos h]) z
theorem op_fdiv (h : 0 < j ∧ j < 1073741824) (z : Q (.dat (.int (i / j)))) : Op (fdivD (.int i) (.int j)) Q := op_of (by simp only [fdivD, intD, if_pos h]) z
theorem op_mulI (h : (-18446744073709551616 < i ∧ i < 18446744073709551616) ∨ (-18446744073709551616 < j ∧ j < 18446744073709551616)) (z : Q (.dat (.int (i * j)))) : Op (mulD (.int i) (.int j)) Q := op_of (by simp only [mulD, if_pos h]) z
theorem op_pow (h : 0 ≤ j ∧ j ≤ 1000 ∧ i.natAbs < 18446744073709551616) (z : Q (.dat (.int (i ^ j.toNat)))) : Op (powD (.int i) (.int j)) Q := op_of (by simp only [powD, intD, if_pos h]) z
theorem op_divmod (h : 0 < j ∧ j < 1073741824) (z : Q (.dat (.tuple [.int (i / j), .int (i % j)]))) : Op (divmodF [.int i, .int j]) Q := op_of (by simp only [divmodF, if_pos h]) z
theorem op_addL {xs ys : List PD} (h : xs.length + ys.length ≤ 1000000) (z : Q (.own (xs ++ ys))) : Op (addD (.list xs) (.list ys)) Q := op_of (if_pos (show xs.length + ys.length ≤ big from h)) z
theorem op_addT {xs ys : List PD} (h : xs.length + ys.length ≤ 1000000) (z : Q (.dat (.tuple (xs ++ ys)))) : Op (addD (.tuple xs) (.tuple ys)) Q := op_of (if_pos (show xs.length + ys.length ≤ big from h)) z
theorem op_lt (z : Q (.dat (.bool (decide (i < j))))) : Op (ltD (.int i) (.int j)) Q := op_of rfl z
theorem op_le (z : Q (.dat (.bool (decide (i ≤ j))))) : Op (leD (.int i) (.int j)) Q := op_of rfl z
theorem op_gt (z : Q (.dat (.bool (decide (j < i))))) : Op (gtD (.int i) (.int j)) Q := op_of rfl z
theorem op_ge (z : Q (.dat (.bool (decide (j ≤ i))))) : Op (geD (.int i) (.int j)) Q := op_of rfl z
theorem op_addI (z : Q (.dat (.int (i + j)))) : Op (addD (.int i) (.int j)) Q := op_of rfl z
theorem op_subI (z : Q (.dat (.int (i - j)))) : Op (subD (.int i) (.int j)) Q := op_of rfl z
theorem op_max2 (z : Q (.dat (.int (max i j)))) : Op (max2F [.int i, .int j]) Q := op_of (by
  show some (RV.dat (.int (if j > i then j else i))) = _
  have e : (if j > i then j else i) = max i j := by split <;> omega
  rw [e]) z
theorem op_min2 (z : Q (.dat (.int (min i j)))) : Op (min2F [.int i, .int j]) Q := op_of (by
  show some (RV.dat (.int (if j < i then j else i))) = _
  have e : (if j < i then j else i) = min i j := by split <;> omega
  rw [e]) z
theorem op_abs (z : Q (.dat (.int (i.natAbs : Int)))) : Op (absF [.int i]) Q := op_of (by
  show some (RV.dat (.int (if i < 0 then -i else i))) = _
  have e : (if i < 0 then -i else i) = (i.natAbs : Int) := by split <;> omega
  rw [e]) z
theorem op_int (z : Q (.dat (.int i))) : Op (intF [.int i]) Q := op_of rfl z
theorem end_dat {xs : List Val} {Q : RV → List Val → Prop} {d : PD} {ρ : Ev} (h : Op (outs xs ρ) fun ys => Q (.dat d) ys) : End xs Q (.rt (.dat d)) ρ := h
theorem end_own {xs : List Val} {Q : RV → List Val → Prop} {d : List PD} {ρ : Ev} (h : Op (outs xs ρ) fun ys => Q (.own d) ys) : End xs Q (.rt (.own d)) ρ := h
theorem end_nx {xs : List Val} {Q : RV → List Val → Prop} {ρ : Ev} (h : Op (outs xs ρ) fun ys => Q (.dat .none) ys) : End xs Q .nx ρ := h
theorem turn_nx {I : Ev → Prop} {Q : Fl → Ev → Prop} {ρ : Ev} (h : I ρ) : Turn' I Q .nx ρ := h
theorem turn_rt {I : Ev → Prop} {Q : Fl → Ev → Prop} {r : RV} {ρ : Ev} (h : Q (.rt r) ρ) : Turn' I Q (.rt r) ρ := h
/-! ### subscripts -/
theorem ixN_nat {n k : Nat} (h : k < n) : ixN n (k : Int) = some k := by
  unfold ixN
  rw [if_pos (by omega), if_pos (by omega)]
  rfl
theorem atI_nat {α : Type} {xs : List α} {k : Nat} {x : α} (h : xs[k]? = some x) : atI xs (k : Int) = some x := by
  unfold atI
  rw [ixN_nat (List.getElem?_eq_some_iff.mp h).1]
  exact h
theorem atI_int {α : Type} {xs : List α} {i : Int} {x : α} (h0 : 0 ≤ i) (h : xs[i.toNat]? = some x) : atI xs i = some x := by
  have e : ((i.toNat : Nat) : Int) = i := Int.toNat_of_nonneg h0
  rw [← e]
  exact atI_nat h
theorem atI_last {α : Type} {xs : List α} {x : α} (h : xs.getLast? = some x) : atI xs (-1) = some x := by
  unfold atI ixN
  cases xs with
  | nil => cases h
  | cons y ys =>
    rw [if_neg (by omega), if_pos (by simp; omega)]
    rw [List.getLast?_eq_getElem?] at h
    have e : ((-1 : Int) + ((y :: ys).length : Nat)).toNat = (y :: ys).length - 1 := by simp; omega
    show (y :: ys)[((-1 : Int) + ((y :: ys).length : Nat)).toNat]? = some x
    rw [e]
    exact h
theorem op_ixL {xs : List PD} {d : PD} (h : atI xs i = some d) (z : Q (.dat d)) : Op (ixD (.list xs) (.int i)) Q := op_of (by simp only [ixD, h]) z
theorem op_ixT {xs : List PD} {d : PD} (h : atI xs i = some d) (z : Q (.dat d)) : Op (ixD (.tuple xs) (.int i)) Q := op_of (by simp only [ixD, h]) z
/-! ### equality -/
theorem shaped_int (i : Int) : SeqAt.shaped (.int i) = true := by simp [SeqAt.shaped, PyData.canLay0, PyData.depth]
theorem shaped_bool (i : Bool) : SeqAt.shaped (.bool i) = true := by simp [SeqAt.shaped, PyData.canLay0, PyData.depth]
theorem op_eq {f : PD → PD → Bool} {x y : PD} (h1 : SeqAt.shaped x = true) (h2 : SeqAt.shaped y = true) (z : Q (.dat (.bool (f x y)))) : Op (eqD f x y) Q := op_of (if_pos (by simp [eqOk, h1, h2])) z
theorem op_eqS {f : PD → PD → Bool} {x y : Str} (z : Q (.dat (.bool (f (.str x) (.str y))))) : Op (eqD f (.str x) (.str y)) Q := op_of (if_pos (by simp [eqOk, strD])) z
theorem op_eqNL {f : PD → PD → Bool} {xs ys : List PD} (h : xs.length ≠ ys.length) (z : Q (.dat (.bool (f (.list xs) (.list ys))))) : Op (eqD f (.list xs) (.list ys)) Q := op_of (if_pos (by simp [eqOk, nlD, h])) z
theorem op_eqI (z : Q (.dat (.bool (decide (i = j))))) : Op (equD (.int i) (.int j)) Q := op_eq (shaped_int i) (shaped_int j) (by
  have e : PyData.eqv (.int i) (.int j) = decide (i = j) := by simp only [PyData.eqv]; rfl
  rw [e]; exact z)
theorem op_neI (z : Q (.dat (.bool (!decide (i = j))))) : Op (neqD (.int i) (.int j)) Q := op_eq (shaped_int i) (shaped_int j) (by
  have e : PyData.eqv (.int i) (.int j) = decide (i = j) := by simp only [PyData.eqv]; rfl
  show Q (.dat (.bool (!PyData.eqv (.int i) (.int j))))
  rw [e]; exact z)
end
end DL
/-! PuC: data that is small enough to be compared and shown. -/
namespace DL
open PySem L2
mutual
def nice : PD → Bool
  | .none | .bool _ => true
  | .int i => decide (i.natAbs < 1000000000000)
  | .str x => PyData.strOk x
  | .dict _ => false
  | .list xs | .tuple xs => niceL xs
def niceL : List PD → Bool
  | [] => true
  | x :: xs => nice x && niceL xs
end
theorem niceL_mem : ∀ {xs : List PD}, niceL xs = true ↔ ∀ x ∈ xs, nice x = true
  | [] => by simp [niceL]
  | x :: xs => by simp [niceL, niceL_mem (xs := xs)]
mutual
theorem nice_lay : ∀ d : PD, nice d = true → d.canLay0 = true
  | .none, _ => by simp [PyData.canLay0]
  | .bool _, _ => by simp [PyData.canLay0]
  | .int _, _ => by simp [PyData.canLay0]
  | .str x, h => by simp only [PyData.canLay0]; simpa [nice] using h
  | .dict _, h => by simp [nice] at h
  | .list xs, h => by simp only [PyData.canLay0]; exact niceL_lay xs (by simpa [nice] using h)
  | .tuple xs, h => by simp only [PyData.canLay0]; exact niceL_lay xs (by simpa [nice] using h)
theorem niceL_lay : ∀ ds : List PD, niceL ds = true → PyData.canLayAll0 ds = true
  | [], _ => by simp [PyData.canLayAll0]
  | x :: xs, h => by
    have h : nice x = true ∧ niceL xs = true := by simpa [niceL] using h
    simp [PyData.canLayAll0, nice_lay x h.1, niceL_lay xs h.2]
end
mutual
theorem nice_short : ∀ d : PD, nice d = true → d.intsShort 13 = true
  | .none, _ => by simp [PyData.intsShort]
  | .bool _, _ => by simp [PyData.intsShort]
  | .int i, h => by
    simp only [PyData.intsShort, decide_eq_true_eq]
    exact PyData.shown_int_le (by simpa [nice] using h)
  | .str _, h => by simp [PyData.intsShort]
  | .dict _, h => by simp [nice] at h
  | .list xs, h => by simp only [PyData.intsShort]; exact niceL_short xs (by simpa [nice] using h)
  | .tuple xs, h => by simp only [PyData.intsShort]; exact niceL_short xs (by simpa [nice] using h)
theorem niceL_short : ∀ ds : List PD, niceL ds = true → PyData.intsShortAll 13 ds = true
  | [], _ => by simp [PyData.intsShortAll]
  | x :: xs, h => by
    have h : nice x = true ∧ niceL xs = true := by simpa [niceL] using h
    simp [PyData.intsShortAll, nice_short x h.1, niceL_short xs h.2]
end
mutual
theorem nice_showable : ∀ d : PD, nice d = true → d.showable = true
  | .none, _ => by simp [PyData.showable]
  | .bool _, _ => by simp [PyData.showable]
  | .int i, h => by
    simp only [PyData.showable, decide_eq_true_eq]
    have h : i.natAbs < 1000000000000 := by simpa [nice] using h
    by_cases z : i.natAbs = 0
    · rw [z]; decide
    · have : i.natAbs.log2 < 40 := (Nat.log2_lt z).mpr (Nat.lt_trans h (by decide))
      omega
  | .str _, h => by simp [PyData.showable]
  | .dict _, h => by simp [nice] at h
  | .list xs, h => by simp only [PyData.showable]; exact niceL_showable xs (by simpa [nice] using h)
  | .tuple xs, h => by simp only [PyData.showable]; exact niceL_showable xs (by simpa [nice] using h)
theorem niceL_showable : ∀ ds : List PD, niceL ds = true → PyData.showableAll ds = true
  | [], _ => by simp [PyData.showableAll]
  | x :: xs, h => by
    have h : nice x = true ∧ niceL xs = true := by simpa [niceL] using h
    simp [PyData.showableAll, nice_showable x h.1, niceL_showable xs h.2]
end
mutual
theorem nice_nodict : ∀ d : PD, nice d = true → d.hasDict = false
  | .none, _ => by simp [PyData.hasDict]
  | .bool _, _ => by simp [PyData.hasDict]
  | .int i, h => by simp [PyData.hasDict]
  | .str _, h => by simp [PyData.hasDict]
  | .dict _, h => by simp [nice] at h
  | .list xs, h => by simp only [PyData.hasDict]; exact niceL_nodict xs (by simpa [nice] using h)
  | .tuple xs, h => by simp only [PyData.hasDict]; exact niceL_nodict xs (by simpa [nice] using h)
theorem niceL_nodict : ∀ ds : List PD, niceL ds = true → PyData.hasDictAll ds = false
  | [], _ => by simp [PyData.hasDictAll]
  | x :: xs, h => by
    have h : nice x = true ∧ niceL xs = true := by simpa [niceL] using h
    simp [PyData.hasDictAll, nice_nodict x h.1, niceL_nodict xs h.2]
end
mutual
theorem eqv_refl : ∀ d : PD, d.hasDict = false → PyData.eqv d d = true
  | .none, _ => by simp [PyData.eqv]
  | .bool _, _ => by simp [PyData.eqv]
  | .int i, h => by simp [PyData.eqv]
  | .str _, h => by simp [PyData.eqv]
  | .dict _, h => by simp [PyData.hasDict] at h
  | .list xs, h => by simp only [PyData.eqv]; exact eqvAll_refl xs (by simpa [PyData.hasDict] using h)
  | .tuple xs, h => by simp only [PyData.eqv]; exact eqvAll_refl xs (by simpa [PyData.hasDict] using h)
theorem eqvAll_refl : ∀ ds : List PD, PyData.hasDictAll ds = false → PyData.eqvAll ds ds = true
  | [], _ => by simp [PyData.eqvAll]
  | x :: xs, h => by
    have h : x.hasDict = false ∧ PyData.hasDictAll xs = false := by simpa [PyData.hasDictAll] using h
    simp [PyData.eqvAll, eqv_refl x h.1, eqvAll_refl xs h.2]
end
/-- depth, weight, small ints -/
structure Gd (k w : Nat) (d : PD) : Prop where
  dp : d.depth ≤ k
  wt : d.weight ≤ w
  ok : nice d = true
theorem Gd.mono {k w k' w' : Nat} {d : PD} (h : Gd k w d) (a : k ≤ k') (b : w ≤ w') : Gd k' w' d := ⟨Nat.le_trans h.dp a, Nat.le_trans h.wt b, h.ok⟩
theorem gd_none : Gd 0 0 .none := ⟨by simp [PyData.depth], by simp [PyData.weight], by simp [nice]⟩
theorem gd_bool (b : Bool) : Gd 0 0 (.bool b) := ⟨by simp [PyData.depth], by simp [PyData.weight], by simp [nice]⟩
theorem gd_int {i : Int} (h : i.natAbs < 1000000000000) : Gd 0 40 (.int i) := ⟨by simp [PyData.depth], by
  simp only [PyData.weight]
  split
  · omega
  · rename_i z
    have z : i.natAbs ≠ 0 := by simpa using z
    have : i.natAbs.log2 < 40 := (Nat.log2_lt z).mpr (Nat.lt_trans h (by decide))
    omega, by simpa [nice] using h⟩
theorem gd_int20 {i : Int} (h : i.natAbs < 1048576) : Gd 0 20 (.int i) := ⟨by simp [PyData.depth], by
  simp only [PyData.weight]
  split
  · omega
  · rename_i z
    have z : i.natAbs ≠ 0 := by simpa using z
    have : i.natAbs.log2 < 20 := (Nat.log2_lt z).mpr (Nat.lt_of_lt_of_le h (by decide))
    omega, by simp only [nice, decide_eq_true_eq]; omega⟩
theorem depthAll_le {k : Nat} : ∀ {ds : List PD}, (∀ d ∈ ds, d.depth ≤ k) → PyData.depthAll ds ≤ k
  | [], _ => by simp [PyData.depthAll]
  | d :: ds, h => by
    simp only [PyData.depthAll]
    exact Nat.max_le.mpr ⟨h d (List.mem_cons_self ..), depthAll_le fun e he => h e (List.mem_cons_of_mem _ he)⟩
theorem weightAll_le {w : Nat} : ∀ {ds : List PD}, (∀ d ∈ ds, d.weight ≤ w) → PyData.weightAll ds ≤ ds.length * (w + 1)
  | [], _ => by simp [PyData.weightAll]
  | d :: ds, h => by
    have h1 := h d (List.mem_cons_self ..)
    have h2 := weightAll_le (ds := ds) fun e he => h e (List.mem_cons_of_mem _ he)
    simp only [PyData.weightAll, List.length_cons, Nat.add_mul]
    omega
theorem gd_list {k w n : Nat} {ds : List PD} (h : ∀ d ∈ ds, Gd k w d) (hn : ds.length ≤ n) : Gd (k + 1) (n * (w + 1)) (.list ds) := ⟨by
  have := depthAll_le fun d hd => (h d hd).dp
  simp only [PyData.depth]
  omega, by
  have h1 := weightAll_le fun d hd => (h d hd).wt
  have h2 : ds.length * (w + 1) ≤ n * (w + 1) := Nat.mul_le_mul_right _ hn
  simp only [PyData.weight]
  omega, by simp only [nice]; exact niceL_mem.mpr fun d hd => (h d hd).ok⟩
theorem gd_tuple {k w n : Nat} {ds : List PD} (h : ∀ d ∈ ds, Gd k w d) (hn : ds.length ≤ n) : Gd (k + 1) (n * (w + 1)) (.tuple ds) := ⟨by
  have := depthAll_le fun d hd => (h d hd).dp
  simp only [PyData.depth]
  omega, by
  have h1 := weightAll_le fun d hd => (h d hd).wt
  have h2 : ds.length * (w + 1) ≤ n * (w + 1) := Nat.mul_le_mul_right _ hn
  simp only [PyData.weight]
  omega, by simp only [nice]; exact niceL_mem.mpr fun d hd => (h d hd).ok⟩
theorem Gd.shaped {k w : Nat} {d : PD} (h : Gd k w d) (hk : k ≤ 64 := by decide) : SeqAt.shaped d = true := by
  have := h.dp
  simp only [SeqAt.shaped, nice_lay d h.ok, Bool.true_and, decide_eq_true_eq]
  omega
theorem Gd.repr {k w : Nat} {d : PD} (h : Gd k w d) (hk : k ≤ 60 := by decide) (hw : w ≤ 1048576 := by decide) : reprOk d = true := by
  have h1 := h.dp
  have h2 := h.wt
  have h3 : d.shown.length ≤ sizeLine := PyData.shown_fits (B := 13) (by decide) (by decide) (PyData.leavesShort_of_canLay0 13 d (nice_lay d h.ok) (nice_short d h.ok)) (by
    have e : (2 : Nat) ^ 20 = 1048576 := by decide
    omega)
  simp only [reprOk, nice_showable d h.ok, Bool.true_and, Bool.and_true, Bool.and_eq_true, decide_eq_true_eq]
  exact ⟨by omega, h3⟩
theorem op_repr {Q : RV → Prop} {d : PD} (h : reprOk d = true) (z : Q (.dat (.str d.shown))) : Op (reprF [d]) Q := op_of (if_pos h) z
/-- rows of ints -/
abbrev numL (r : List Int) : List PD := r.map PyData.int
abbrev rowD (r : List Int) : PD := .tuple (numL r)
theorem eqvAll_ints : ∀ r s : List Int, PyData.eqvAll (numL r) (numL s) = decide (r = s)
  | [], [] => by simp [PyData.eqvAll]
  | [], _ :: _ => by simp [PyData.eqvAll]
  | _ :: _, [] => by simp [PyData.eqvAll]
  | a :: r, b :: s => by
    show (PyData.eqv (.int a) (.int b) && PyData.eqvAll (numL r) (numL s)) = _
    rw [eqvAll_ints r s]
    simp only [PyData.eqv]
    by_cases h : a = b <;> by_cases h2 : r = s <;> simp [h, h2]
theorem eqv_row (r s : List Int) : PyData.eqv (rowD r) (rowD s) = decide (r = s) := by
  simp only [PyData.eqv]
  exact eqvAll_ints r s
theorem eqv_ints (r s : List Int) : PyData.eqv (.list (numL r)) (.list (numL s)) = decide (r = s) := by
  simp only [PyData.eqv]
  exact eqvAll_ints r s
theorem gd_ints {n : Nat} {r : List Int} (h : ∀ x ∈ r, x.natAbs < 1048576) (hn : r.length ≤ n) : Gd 1 (n * 21) (rowD r) := by
  refine gd_tuple (k := 0) (w := 20) (fun d hd => ?_) (by simpa using hn)
  obtain ⟨x, hx, rfl⟩ := List.mem_map.mp hd
  exact gd_int20 (h x hx)
theorem eqv_nil (xs : List PD) : PyData.eqv (.list xs) (.list []) = xs.isEmpty := by
  cases xs <;> simp [PyData.eqv, PyData.eqvAll]
end DL
namespace DL
open PySem L2
theorem w_lc_each {vs : List Nat} {b : Bd PD} {me : Mr RV} {q : List PD → Ev → Prop} {items : List PD} {ρ : Ev} (f : PD → PD)
    (hs : ∀ x, x ∈ items → Op (b x ρ) fun ρ1 => W me ρ1 fun r ρ3 => Op2 (toDat r ρ3) fun d ρ4 => d = f x ∧ wipeE ρ4 vs = ρ) (z : q (items.map f) ρ) : W (mLc vs b mYes me items) ρ q := by
  refine w_lc_map (fun x => some (f x)) (fun x hx => ?_) (by rw [List.filterMap_eq_map']; exact z)
  obtain ⟨ρ1, e1, r, ρ3, e3, d, ρ4, e4, rfl, h⟩ := hs x hx
  exact ⟨ρ1, e1, true, ρ1, rfl, fun _ => ⟨r, ρ3, e3, _, ρ4, e4, rfl, h⟩, fun h => nomatch h⟩
/-- .. with a state: I says what the slots are behind i items, R what came -/
theorem w_lc_inv {vs : List Nat} {b : Bd PD} {me : Mr RV} {q : List PD → Ev → Prop} {items : List PD} {ρ : Ev} (I : Nat → List PD → Ev → Prop) (h0 : I 0 [] ρ)
    (hs : ∀ i x acc ρ, items[i]? = some x → I i acc ρ → Op (b x ρ) fun ρ1 => W me ρ1 fun r ρ3 => Op2 (toDat r ρ3) fun d ρ4 => I (i + 1) (acc ++ [d]) (wipeE ρ4 vs))
    (he : ∀ acc ρ, I items.length acc ρ → q acc ρ) : W (mLc vs b mYes me items) ρ q := by
  have key := w_lc_at (vs := vs) (b := b) (mc := mYes) (me := me) (q := q) (items := items) I (acc := []) (ρ := ρ) h0 (fun i x acc ρ hx hi => ?_) he
  · simpa using key
  · obtain ⟨ρ1, e1, r, ρ3, e3, d, ρ4, e4, h⟩ := hs i x acc ρ hx hi
    exact ⟨ρ1, e1, true, ρ1, rfl, fun _ => ⟨r, ρ3, e3, d, ρ4, e4, h⟩, fun h => nomatch h⟩
theorem boolsOf_map {α : Type} (p : α → Bool) : ∀ l : List α, boolsOf (l.map fun x => PyData.bool (p x)) = some (l.map p)
  | [] => rfl
  | x :: l => by simp only [List.map_cons, boolsOf, boolsOf_map p l]
theorem op_all {α : Type} {Q : RV → Prop} {l : List α} {p : α → Bool} (z : Q (.dat (.bool (l.all p)))) : Op (allF [.list (l.map fun x => PyData.bool (p x))]) Q := op_of (by
  simp only [allF, boolsOf_map]
  rw [List.all_map]; rfl) z
theorem op_ixLn {Q : RV → Prop} {xs : List PD} {i : Int} (d : PD) (h0 : 0 ≤ i) (h : xs[i.toNat]? = some d) (z : Q (.dat d)) : Op (ixD (.list xs) (.int i)) Q := op_ixL (atI_int h0 h) z
theorem op_ixTn {Q : RV → Prop} {xs : List PD} {i : Int} (d : PD) (h0 : 0 ≤ i) (h : xs[i.toNat]? = some d) (z : Q (.dat d)) : Op (ixD (.tuple xs) (.int i)) Q := op_ixT (atI_int h0 h) z
/-- the i-th of a row -/
def gI (r : List Int) (i : Int) : Int := r.getD i.toNat 0
theorem numL_get {r : List Int} {i : Int} (h0 : 0 ≤ i) (h1 : i < r.length) : (numL r)[i.toNat]? = some (.int (gI r i)) := by
  have h2 : i.toNat < r.length := by omega
  rw [List.getElem?_map, List.getElem?_eq_getElem h2]
  show some (PyData.int r[i.toNat]) = _
  unfold gI
  rw [List.getD_eq_getElem?_getD, List.getElem?_eq_getElem h2]
  rfl
theorem op_ixR {Q : RV → Prop} {r : List Int} {i : Int} (h : 0 ≤ i ∧ i < r.length) (z : Q (.dat (.int (gI r i)))) : Op (ixD (rowD r) (.int i)) Q := op_ixTn _ h.1 (numL_get h.1 h.2) z
theorem op_ixRL {Q : RV → Prop} {r : List Int} {i : Int} (h : 0 ≤ i ∧ i < r.length) (z : Q (.dat (.int (gI r i)))) : Op (ixD (.list (numL r)) (.int i)) Q := op_ixLn _ h.1 (numL_get h.1 h.2) z
theorem op_lenR {Q : RV → Prop} {r : List Int} (z : Q (.dat (.int (r.length : Int)))) : Op (lenF [rowD r]) Q := op_of (by simp only [lenF, List.length_map]) z
theorem op_lenRL {Q : RV → Prop} {r : List Int} (z : Q (.dat (.int (r.length : Int)))) : Op (lenF [.list (numL r)]) Q := op_of (by simp only [lenF, List.length_map]) z
theorem gI_mem {r : List Int} {i : Int} (h0 : 0 ≤ i) (h1 : i < r.length) : gI r i ∈ r := by
  have h2 : i.toNat < r.length := by omega
  unfold gI
  rw [List.getD_eq_getElem?_getD, List.getElem?_eq_getElem h2]
  exact List.getElem_mem h2
/-- for every value but an int: false -/
def isI : PD → Bool
  | .int _ => true
  | _ => false
def isW (d : PD) (a b : Int) : Bool := match d with
  | .int i => decide (a ≤ i) && decide (i ≤ b)
  | _ => false
end DL
namespace DL
open PySem L2
theorem op_resN {ρ : Ev} {Q : List PD → Prop} (z : Q []) : Op (resL [] ρ) Q := ⟨_, rfl, z⟩
theorem op_resC {r : RV} {rs : List RV} {ρ : Ev} {Q : List PD → Prop} (z : Op (res r ρ) fun d => Op (resL rs ρ) fun ds => Q (d :: ds)) : Op (resL (r :: rs) ρ) Q := by
  obtain ⟨d, e1, ds, e2, z⟩ := z
  exact ⟨_, by simp only [resL, e1, e2], z⟩
theorem op2_tdN {ρ : Ev} {Q : List PD → Ev → Prop} (z : Q [] ρ) : Op2 (toDatL (List.map holdR []) ρ) Q := ⟨_, _, rfl, z⟩
theorem op2_tdC {r : RV} {rs : List RV} {ρ : Ev} {Q : List PD → Ev → Prop} (z : Op2 (toDat (holdR r) ρ) fun d ρ1 => Op2 (toDatL (rs.map holdR) ρ1) fun ds ρ2 => Q (d :: ds) ρ2) : Op2 (toDatL (List.map holdR (r :: rs)) ρ) Q := by
  obtain ⟨d, ρ1, e1, ds, ρ2, e2, z⟩ := z
  exact ⟨_, ρ2, by simp only [List.map_cons, toDatL, e1, e2], z⟩
theorem op2_tvN {ρ : Ev} {Q : List Val → Ev → Prop} (z : Q [] ρ) : Op2 (toVals (List.map holdR []) ρ) Q := ⟨_, _, rfl, z⟩
theorem op2_tvC {r : RV} {rs : List RV} {ρ : Ev} {Q : List Val → Ev → Prop} (z : Op2 (toVal (holdR r) ρ) fun d ρ1 => Op2 (toVals (rs.map holdR) ρ1) fun ds ρ2 => Q (d :: ds) ρ2) : Op2 (toVals (List.map holdR (r :: rs)) ρ) Q := by
  obtain ⟨d, ρ1, e1, ds, ρ2, e2, z⟩ := z
  exact ⟨_, ρ2, by simp only [List.map_cons, toVals, e1, e2], z⟩
end DL
namespace DL
open PySem L2
theorem gFl {m : Mr Fl} {ρ : Ev} {Q : Fl → Ev → Prop} (h : W m ρ Q) : W m ρ Q := h
theorem gRV {m : Mr RV} {ρ : Ev} {Q : RV → Ev → Prop} (h : W m ρ Q) : W m ρ Q := h
theorem gRL {m : Mr (List RV)} {ρ : Ev} {Q : List RV → Ev → Prop} (h : W m ρ Q) : W m ρ Q := h
theorem gBo {m : Mr Bool} {ρ : Ev} {Q : Bool → Ev → Prop} (h : W m ρ Q) : W m ρ Q := h
theorem gPL {m : Mr (List PD)} {ρ : Ev} {Q : List PD → Ev → Prop} (h : W m ρ Q) : W m ρ Q := h
theorem gOI {m : Mr (Option Int)} {ρ : Ev} {Q : Option Int → Ev → Prop} (h : W m ρ Q) : W m ρ Q := h
theorem gOp {α : Type} {o : Option α} {Q : α → Prop} (h : Op o Q) : Op o Q := h
theorem gO2 {α β : Type} {o : Option (α × β)} {Q : α → β → Prop} (h : Op2 o Q) : Op2 o Q := h
theorem gBr {b : Bool} {P Q : Prop} (h : Br b P Q) : Br b P Q := h
end DL
namespace DL
open PySem L2
theorem gd_shapedL {k w : Nat} {ds : List PD} (h : ∀ d ∈ ds, Gd k w d) (hk : k ≤ 60) : SeqAt.shaped (.list ds) = true := (gd_list h (Nat.le_refl _)).shaped (by omega)
theorem op_neNil {Q : RV → Prop} {xs : List PD} (h : SeqAt.shaped (.list xs) = true) (z : Q (.dat (.bool (!xs.isEmpty)))) : Op (neqD (.list xs) (.list [])) Q := op_eq h (gd_shapedL (k := 0) (w := 0) (fun d hd => nomatch hd) (by decide)) (by
  show Q (.dat (.bool (!PyData.eqv (.list xs) (.list []))))
  rw [eqv_nil]; exact z)
theorem op_append {Q : PD → List PD → Prop} {cur : List PD} {d : PD} (h : cur.length < 1000000) (z : Q .none (cur ++ [d])) : Op2 (appendF cur [d]) Q := op2_of (if_pos (show cur.length < big from h)) z
theorem op_extend {Q : PD → List PD → Prop} {cur ds : List PD} (h : cur.length + ds.length ≤ 1000000) (z : Q .none (cur ++ ds)) : Op2 (extendF cur [.list ds]) Q := op2_of (if_pos (show cur.length + ds.length ≤ big from h)) z
end DL
namespace DL
theorem gEx {α : Type} {p : α → Prop} (h : Exists p) : Exists p := h
theorem gAn {a b : Prop} (h : a ∧ b) : a ∧ b := h
end DL
namespace DL
open PySem L2
theorem op_neSS {Q : RV → Prop} {x : Str} (z : Q (.dat (.bool false))) : Op (neqD (.str x) (.str x)) Q := op_eqS (by
  have e : (!PyData.eqv (.str x) (.str x)) = false := by simp [PyData.eqv]
  show Q (.dat (.bool (!PyData.eqv (.str x) (.str x))))
  rw [e]; exact z)
theorem op_eqSS {Q : RV → Prop} {x : Str} (z : Q (.dat (.bool true))) : Op (equD (.str x) (.str x)) Q := op_eqS (by
  have e : (PyData.eqv (.str x) (.str x)) = true := by simp [PyData.eqv]
  rw [e]; exact z)
end DL
namespace DL
open PySem L2
theorem op_eqB {Q : RV → Prop} {x y : Bool} (z : Q (.dat (.bool (x == y)))) : Op (equD (.bool x) (.bool y)) Q := op_eq (shaped_bool x) (shaped_bool y) (by
  have e : PyData.eqv (.bool x) (.bool y) = (x == y) := by simp [PyData.eqv]
  rw [e]; exact z)
theorem op_neB {Q : RV → Prop} {x y : Bool} (z : Q (.dat (.bool (!(x == y))))) : Op (neqD (.bool x) (.bool y)) Q := op_eq (shaped_bool x) (shaped_bool y) (by
  have e : PyData.eqv (.bool x) (.bool y) = (x == y) := by simp [PyData.eqv]
  show Q (.dat (.bool (!PyData.eqv (.bool x) (.bool y))))
  rw [e]; exact z)
theorem op_isB {Q : RV → Prop} {x y : Bool} (z : Q (.dat (.bool (x == y)))) : Op (isBD id (.bool x) (.bool y)) Q := op_of (by
  show some (RV.dat (.bool (decide (x = y)))) = _
  cases x <;> cases y <;> rfl) z
theorem op_notB {Q : RV → Prop} {x y : Bool} (z : Q (.dat (.bool (!(x == y))))) : Op (isBD not (.bool x) (.bool y)) Q := op_of (by
  show some (RV.dat (.bool (!decide (x = y)))) = _
  cases x <;> cases y <;> rfl) z
end DL
/-! PuD: more of typed data. -/
namespace DL
open PySem L2
theorem repD_int (n : Nat) (a : Int) : repD n [.int a] = numL (List.replicate n a) := by
  unfold repD
  induction n with
  | zero => rfl
  | succ n ih => rw [List.replicate_succ, List.flatten_cons, ih, List.replicate_succ]; rfl
theorem rangeD_get {a : Int} {n i : Nat} {x : PD} (h : (rangeD a n)[i]? = some x) : i < n ∧ x = .int (a + i) := by
  unfold rangeD at h
  rw [List.getElem?_map] at h
  by_cases hi : i < n
  · rw [List.getElem?_range hi] at h
    cases h
    exact ⟨hi, rfl⟩
  · rw [List.getElem?_eq_none (by simpa using hi)] at h
    cases h
theorem rangeD_mem {a : Int} {n : Nat} {x : PD} (h : x ∈ rangeD a n) : ∃ i : Int, x = .int i ∧ a ≤ i ∧ i < a + n := by
  obtain ⟨j, hj⟩ := List.mem_iff_getElem?.mp h
  obtain ⟨h1, rfl⟩ := rangeD_get hj
  exact ⟨_, rfl, by omega, by omega⟩
theorem rangeD_len (a : Int) (n : Nat) : (rangeD a n).length = n := by unfold rangeD; simp
theorem numL_at {r : List Int} {i : Nat} {x : PD} (h : (numL r)[i]? = some x) : ∃ v, r[i]? = some v ∧ x = .int v := by
  rw [List.getElem?_map] at h
  cases q : r[i]? with
  | none => rw [q] at h; cases h
  | some v => rw [q] at h; cases h; exact ⟨v, rfl, rfl⟩
theorem numL_mem {r : List Int} {x : PD} (h : x ∈ numL r) : ∃ v, v ∈ r ∧ x = .int v := by
  obtain ⟨v, h1, rfl⟩ := List.mem_map.mp h
  exact ⟨v, h1, rfl⟩
theorem op_sub {i : Nat} {m : Mr RV} {d : PD} {ρ : Ev} {Q : Ev → Prop} (h0 : ∃ x, ρ[i]? = some (some x)) (h : W m ρ fun r ρ1 => ∃ k x ds j, r = .dat (.int k) ∧ ρ1[i]? = some (some x) ∧ Val.mut x = some ds ∧ ixN ds.length k = some j ∧ Q (ρ1.set i (some (x.put (ds.set j d))))) : Op (bSub i m d ρ) Q := by
  obtain ⟨x0, e0⟩ := h0
  obtain ⟨r, ρ1, e1, k, x, ds, j, rfl, e2, e3, e4, z⟩ := h
  exact ⟨_, by simp only [bSub, e0, e1, e2, e3, e4], z⟩
theorem numL_set (r : List Int) (j : Nat) (v : Int) : (numL r).set j (.int v) = numL (r.set j v) := by
  unfold numL
  rw [List.map_set]
theorem ixN_int {n : Nat} {k : Int} (h0 : 0 ≤ k) (h1 : k < n) : ixN n k = some k.toNat := by
  have e : ((k.toNat : Nat) : Int) = k := Int.toNat_of_nonneg h0
  have := ixN_nat (n := n) (k := k.toNat) (by omega)
  rwa [e] at this
def Ixb (k : Int) (n : Nat) : Prop := 0 ≤ k ∧ k < n
theorem and_ix {k : Int} {n : Nat} {P : Prop} (h : 0 ≤ k ∧ k < n) (z : P) : Ixb k n ∧ P := ⟨h, z⟩
/-- found[k] = v, of ints -/
theorem op_subR {i : Nat} {m : Mr RV} {r : List Int} {v : Int} {ρ : Ev} {Q : Ev → Prop} (h0 : ρ[i]? = some (some (Val.own (numL r)))) (h : W m ρ fun s ρ1 => ∃ k, s = .dat (.int k) ∧ ρ1[i]? = some (some (Val.own (numL r))) ∧ Ixb k r.length ∧ Nm (ρ1.set i (some (Val.own (numL (r.set k.toNat v))))) Q) : Op (bSub i m (.int v) ρ) Q := by
  refine op_sub ⟨_, h0⟩ ?_
  obtain ⟨s, ρ1, e1, k, rfl, e2, h1, z⟩ := h
  refine ⟨_, ρ1, e1, k, _, _, k.toNat, rfl, e2, rfl, ixN_int h1.1 (by simpa using h1.2), ?_⟩
  rw [numL_set]
  exact z
theorem op_bTup {n : Nat} {bs : Bd (List PD)} {ds : List PD} {ρ : Ev} {Q : Ev → Prop} (h : ds.length = n) (z : Op (bs ds ρ) Q) : Op (bTup n bs (.tuple ds) ρ) Q := by
  obtain ⟨r, e, z⟩ := z
  exact ⟨r, by simp only [bTup, if_pos h, e], z⟩
theorem op_bCons {b : Bd PD} {bs : Bd (List PD)} {d : PD} {ds : List PD} {ρ : Ev} {Q : Ev → Prop} (z : Op (b d ρ) fun ρ1 => Op (bs ds ρ1) Q) : Op (bCons b bs (d :: ds) ρ) Q := by
  obtain ⟨r, e, s, e2, z⟩ := z
  exact ⟨s, by simp only [bCons, e, e2], z⟩
theorem op_bNil {ρ : Ev} {Q : Ev → Prop} (z : Q ρ) : Op (bNil [] ρ) Q := ⟨ρ, rfl, z⟩
theorem op_bName {i : Nat} {d : PD} {ρ : Ev} {Q : Ev → Prop} (z : Nm (ρ.set i (some (.dat d))) Q) : Op (bName i d ρ) Q := ⟨_, rfl, z⟩
theorem sum_set {r : List Int} {k : Nat} {v : Int} (h : k < r.length) : (r.set k v).sum = r.sum - r[k] + v := by
  induction r generalizing k with
  | nil => simp at h
  | cons x r ih =>
    cases k with
    | zero => simp; omega
    | succ k =>
      have h' : k < r.length := by simpa using h
      simp only [List.set_cons_succ, List.sum_cons, ih h', List.getElem_cons_succ]
      omega
theorem gI_eq {r : List Int} {i : Int} (h0 : 0 ≤ i) (h1 : i < r.length) : gI r i = r[i.toNat]'(by omega) := by
  have h2 : i.toNat < r.length := by omega
  unfold gI
  rw [List.getD_eq_getElem?_getD, List.getElem?_eq_getElem h2]
  rfl
theorem w_mid {α : Type} {m : Mr α} {ρ : Ev} {Q : α → Ev → Prop} (M : α → Ev → Prop) (h : W m ρ M) (g : ∀ r ρ', M r ρ' → Q r ρ') : W m ρ Q := h.mono g
/-- a statement that goes on, then the rest -/
theorem w_then {a b : Ms} {ρ : Ev} {q : Fl → Ev → Prop} (M : Ev → Prop) (h : W a ρ fun fl ρ' => fl = .nx ∧ M ρ') (g : ∀ ρ', M ρ' → W b ρ' q) : W (mSeq a b) ρ q :=
  w_seq (h.mono fun fl ρ' ⟨e, z⟩ => by subst e; exact g ρ' z)
def toI : PD → Int
  | .int i => i
  | _ => 0
theorem toI_numL (r : List Int) : (numL r).map toI = r := by
  unfold numL
  rw [List.map_map]
  exact List.map_id _
end DL
namespace DL
open PySem L2
theorem rangeD_get0 {n i : Nat} {x : PD} (h : (rangeD 0 n)[i]? = some x) : i < n ∧ x = .int (i : Int) := by
  obtain ⟨h1, rfl⟩ := rangeD_get h
  exact ⟨h1, by rw [Int.zero_add]⟩
theorem rangeD_mem0 {n : Nat} {x : PD} (h : x ∈ rangeD 0 n) : ∃ i : Int, x = .int i ∧ 0 ≤ i ∧ i < n := by
  obtain ⟨i, h1, h2, h3⟩ := rangeD_mem h
  exact ⟨i, h1, h2, by omega⟩
end DL
namespace DL
theorem perm_sum {r s : List Int} (h : r.Perm s) : r.sum = s.sum := by
  induction h with
  | nil => rfl
  | cons x _ ih => simp [ih]
  | swap x y l => simp only [List.sum_cons]; omega
  | trans _ _ a b => exact a.trans b
end DL
namespace DL
open PySem L2
end DL
namespace DL
open PySem L2
theorem op_minR {Q : RV → Prop} {r : List Int} {M : Int} (h : minL r = some M) (z : Q (.dat (.int M))) : Op (minF [rowD r]) Q := op_of (by
  simp only [minF, numsF, itemsOf, intsOf_map, h]) z
theorem op_sumR {Q : RV → Prop} {r : List Int} (z : Q (.dat (.int r.sum))) : Op (sumF [rowD r]) Q := op_of (by
  simp only [sumF, numsF, itemsOf, intsOf_map]) z
theorem op_sumRL {Q : RV → Prop} {r : List Int} (z : Q (.dat (.int r.sum))) : Op (sumF [.list (numL r)]) Q := op_of (by
  simp only [sumF, numsF, itemsOf, intsOf_map]) z
theorem minL_ex {r : List Int} (h : 0 < r.length) : ∃ M, minL r = some M ∧ M ∈ r ∧ ∀ y ∈ r, M ≤ y := by
  cases r with
  | nil => simp at h
  | cons n ns => exact ⟨_, rfl, (foldl_min ns n).1, (foldl_min ns n).2⟩
end DL
/-! PuE: rows in order, the sums of their greatest. -/
namespace DL
open PySem L2
def sortI (r : List Int) : List Int := r.mergeSort fun a b => decide (a ≤ b)
def shapeL (r : List Int) : List Int := (sortI r).reverse
theorem sortI_perm (r : List Int) : (sortI r).Perm r := List.mergeSort_perm ..
theorem shapeL_perm (r : List Int) : (shapeL r).Perm r := (List.reverse_perm _).trans (sortI_perm r)
theorem shapeL_len (r : List Int) : (shapeL r).length = r.length := (shapeL_perm r).length_eq
theorem sortI_sorted (r : List Int) : (sortI r).Pairwise (· ≤ ·) := by
  have h := List.pairwise_mergeSort (le := fun a b : Int => decide (a ≤ b)) (fun a b c h1 h2 => by simp at *; omega) (fun a b => by simp; omega) r
  exact h.imp fun h => of_decide_eq_true h
theorem shapeL_sorted (r : List Int) : (shapeL r).Pairwise (fun a b => b ≤ a) := List.pairwise_reverse.mpr (sortI_sorted r)
/-- what stands above t, summed -/
def over (t : Int) (r : List Int) : Int := (r.map fun x => max (x - t) 0).sum
def topK (r : List Int) (k : Nat) : Int := ((shapeL r).take k).sum
/-- s is evener than r -/
def Evr (s r : List Int) : Prop := ∀ k, k ≤ r.length → topK s k ≤ topK r k
theorem Evr.refl (r : List Int) : Evr r r := fun _ _ => Int.le_refl _
theorem Evr.trans {a b c : List Int} (hl : b.length = c.length) (h1 : Evr a b) (h2 : Evr b c) : Evr a c := fun k hk => Int.le_trans (h1 k (by omega)) (h2 k hk)
end DL
namespace DL
open PySem L2 PySem.W
theorem sortedL_numL (r : List Int) : sortedL (numL r) = numL (sortI r) := by
  have e : (fun a b : Int => decide (a ≤ b)) = dataLe false (fun b : Int => PyData.int b) := (dataLe_int id).symm
  have h := sort_maps (r := fun a b : Int => decide (a ≤ b)) (s := dataLe false id) PyData.int (l := r) fun a _ b _ => congrFun (congrFun e a) b
  exact h.symm
theorem sortOk_numL {r : List Int} (h : r.length ≤ 1000000) : sortOk (numL r) = true := by
  have h1 : allAlikeB (numL r) = true := List.all_eq_true.mpr fun d hd => List.all_eq_true.mpr fun e he => by
    obtain ⟨v, _, rfl⟩ := numL_mem hd
    obtain ⟨u, _, rfl⟩ := numL_mem he
    simp [alike]
  have h2 : sortableB (numL r) = true := by
    unfold sortableB
    rw [Bool.or_eq_true]
    refine .inr (List.all_eq_true.mpr fun d hd => ?_)
    obtain ⟨v, _, rfl⟩ := numL_mem hd
    rfl
  have h3 : ((numL r).all fun d => decide (d.depth ≤ 60)) = true := List.all_eq_true.mpr fun d hd => by
    obtain ⟨v, _, rfl⟩ := numL_mem hd
    simp [PyData.depth]
  unfold sortOk
  rw [h1, h2, h3]
  simpa [big] using h
theorem op_sortedR {Q : RV → Prop} {r : List Int} (h : r.length ≤ 1000000) (z : Q (.own (numL (sortI r)))) : Op (sortedF [rowD r]) Q := op_of (by
  simp only [sortedF, itemsOf, if_pos (sortOk_numL h), sortedL_numL]) z
theorem op_sortedRL {Q : RV → Prop} {r : List Int} (h : r.length ≤ 1000000) (z : Q (.own (numL (sortI r)))) : Op (sortedF [.list (numL r)]) Q := op_of (by
  simp only [sortedF, itemsOf, if_pos (sortOk_numL h), sortedL_numL]) z
end DL
/-! PuF: data that is built up, small; operations of DlO to DlQ. -/
namespace DL
open PySem L2
/-- items, together -/
structure GL (k w : Nat) (ds : List PD) : Prop where
  dp : PyData.depthAll ds ≤ k
  wt : PyData.weightAll ds ≤ w
  ok : niceL ds = true
theorem gl_nil : GL 0 0 [] := ⟨by simp [PyData.depthAll], by simp [PyData.weightAll], by simp [niceL]⟩
theorem gl_cons {k w k' w' : Nat} {d : PD} {ds : List PD} (h : Gd k w d) (g : GL k' w' ds) : GL (max k k') (w + w' + 1) (d :: ds) := ⟨by
  have := h.dp; have := g.dp
  simp only [PyData.depthAll]; omega, by
  have := h.wt; have := g.wt
  simp only [PyData.weightAll]; omega, by simp [niceL, h.ok, g.ok]⟩
theorem depthAll_app : ∀ (a b : List PD), PyData.depthAll (a ++ b) = max (PyData.depthAll a) (PyData.depthAll b)
  | [], b => by simp [PyData.depthAll]
  | x :: a, b => by simp only [List.cons_append, PyData.depthAll, depthAll_app a b]; omega
theorem weightAll_app : ∀ (a b : List PD), PyData.weightAll (a ++ b) = PyData.weightAll a + PyData.weightAll b
  | [], b => by simp [PyData.weightAll]
  | x :: a, b => by simp only [List.cons_append, PyData.weightAll, weightAll_app a b]; omega
theorem gl_all {k w n : Nat} {ds : List PD} (h : ∀ d ∈ ds, Gd k w d) (hn : ds.length ≤ n) : GL k (n * (w + 1)) ds := ⟨depthAll_le fun d hd => (h d hd).dp, by
  have h1 := weightAll_le fun d hd => (h d hd).wt
  have h2 : ds.length * (w + 1) ≤ n * (w + 1) := Nat.mul_le_mul_right _ hn
  omega, niceL_mem.mpr fun d hd => (h d hd).ok⟩
theorem gd_l {k w : Nat} {ds : List PD} (h : GL k w ds) : Gd (k + 1) w (.list ds) := ⟨by have := h.dp; simp only [PyData.depth]; omega, by simp only [PyData.weight]; exact h.wt, by simp only [nice]; exact h.ok⟩
theorem gd_t {k w : Nat} {ds : List PD} (h : GL k w ds) : Gd (k + 1) w (.tuple ds) := ⟨by have := h.dp; simp only [PyData.depth]; omega, by simp only [PyData.weight]; exact h.wt, by simp only [nice]; exact h.ok⟩
theorem gd_str {x : Str} (h : PyData.strOk x = true := by decide +kernel) : Gd 0 x.cps.size (.str x) := ⟨by simp [PyData.depth], by simp [PyData.weight], by simpa [nice] using h⟩
theorem gl_ints {n : Nat} {r : List Int} (h : ∀ x ∈ r, x.natAbs < 1048576) (hn : r.length ≤ n) : GL 0 (n * 21) (numL r) := gl_all (k := 0) (w := 20) (fun d hd => by
  obtain ⟨x, hx, rfl⟩ := List.mem_map.mp hd
  exact gd_int20 (h x hx)) (by simpa using hn)
theorem op_reprG {Q : RV → Prop} {k w : Nat} {d : PD} (h : Gd k w d) (hk : k ≤ 60) (hw : w ≤ 1048576) (z : Q (.dat (.str d.shown))) : Op (reprF [d]) Q := op_repr (h.repr hk hw) z
section
variable {Q : RV → Prop} {i j : Int}
theorem op_mul2I (h : (-18446744073709551616 < i ∧ i < 18446744073709551616) ∨ (-18446744073709551616 < j ∧ j < 18446744073709551616)) (z : Q (.dat (.int (i * j)))) : Op (mulD2 (.int i) (.int j)) Q := op_of (by simp only [mulD2, if_pos h]) z
theorem op_mul2L {xs : List PD} (h : xs.length ≤ 1000 ∧ -1000 ≤ j ∧ j ≤ 1000) (z : Q (.own (repD j.toNat xs))) : Op (mulD2 (.list xs) (.int j)) Q := op_of (by simp only [mulD2, if_pos h]) z
theorem op_rev2R {r : List Int} (z : Q (.own (numL r.reverse))) : Op (revD2 (.list (numL r))) Q := op_of (by
  show some (RV.own (numL r).reverse) = _
  unfold numL
  rw [List.map_reverse]) z
theorem op_rev2T {r : List Int} (z : Q (.dat (rowD r.reverse))) : Op (revD2 (rowD r)) Q := op_of (by
  show some (RV.dat (.tuple (numL r).reverse)) = some (RV.dat (.tuple (numL r.reverse)))
  unfold numL
  rw [List.map_reverse]) z
theorem op_listR {r : List Int} (z : Q (.own (numL r))) : Op (listF [rowD r]) Q := op_of rfl z
end
/-- slices, bounds not below 0 -/
theorem sIx_pos {n d : Nat} {v : Int} (h : 0 ≤ v) : HT.sIx n d (some v) = min v.toNat n := by
  show (if v < 0 then (v + (n : Int)).toNat else min v.toNat n) = _
  rw [if_neg (by omega)]
theorem cut_to {xs : List PD} {v : Int} (h : 0 ≤ v) : cutD xs none (some v) = xs.take v.toNat := by
  unfold cutD
  rw [sIx_pos h, HT.sIx_none]
  simp only [List.drop_zero, Nat.sub_zero]
  by_cases e : v.toNat ≤ xs.length
  · rw [Nat.min_eq_left e]
  · rw [Nat.min_eq_right (by omega), List.take_of_length_le (Nat.le_refl _), List.take_of_length_le (by omega)]
theorem cut_from {xs : List PD} {v : Int} (h : 0 ≤ v) : cutD xs (some v) none = xs.drop v.toNat := by
  unfold cutD
  rw [sIx_pos h, HT.sIx_none]
  by_cases e : v.toNat ≤ xs.length
  · rw [Nat.min_eq_left e]
    exact List.take_of_length_le (by rw [List.length_drop]; omega)
  · rw [Nat.min_eq_right (by omega), List.drop_of_length_le (Nat.le_refl _), List.drop_of_length_le (by omega)]
    simp
theorem numL_take (r : List Int) (n : Nat) : (numL r).take n = numL (r.take n) := by simp [numL, List.map_take]
theorem numL_drop (r : List Int) (n : Nat) : (numL r).drop n = numL (r.drop n) := by simp [numL, List.map_drop]
section
variable {Q : RV → Prop} {r : List Int} {v : Int}
theorem op_takeRL (h : 0 ≤ v) (z : Q (.own (numL (r.take v.toNat)))) : Op (sliceD (.list (numL r)) none (some v)) Q := op_of (by
  show some (RV.own (cutD (numL r) none (some v))) = _
  rw [cut_to h, numL_take]) z
theorem op_takeR (h : 0 ≤ v) (z : Q (.dat (rowD (r.take v.toNat)))) : Op (sliceD (rowD r) none (some v)) Q := op_of (by
  show some (RV.dat (.tuple (cutD (numL r) none (some v)))) = _
  rw [cut_to h, numL_take]) z
theorem op_dropRL (h : 0 ≤ v) (z : Q (.own (numL (r.drop v.toNat)))) : Op (sliceD (.list (numL r)) (some v) none) Q := op_of (by
  show some (RV.own (cutD (numL r) (some v) none)) = _
  rw [cut_from h, numL_drop]) z
theorem op_dropR (h : 0 ≤ v) (z : Q (.dat (rowD (r.drop v.toNat)))) : Op (sliceD (rowD r) (some v) none) Q := op_of (by
  show some (RV.dat (.tuple (cutD (numL r) (some v) none))) = _
  rw [cut_from h, numL_drop]) z
end
end DL
namespace DL
theorem gFw {mf : FM} {xs : List Val} {Q : RV → List Val → Prop} (h : Fw mf xs Q) : Fw mf xs Q := h
end DL
namespace DL
open PySem L2
section
variable {ρ : Ev} {q : RV → Ev → Prop}
def Rgb (n : Int) : Prop := -1000000 ≤ n ∧ n ≤ 1000000
theorem and_rg {n : Int} {P : Prop} (h1 : -1000000 ≤ n) (h2 : n ≤ 1000000) (z : P) : Rgb n ∧ P := ⟨⟨h1, h2⟩, z⟩
theorem rgOk_of {i j : Int} (h : Rgb i) (g : Rgb j) : rgOk i j = true := by
  unfold rgOk
  simp [h.1, h.2, g.1, g.2]
theorem w_rg1 {o : List PD → RV} {m : Mr RV} (h : W m ρ fun r ρ1 => ∃ n, r = .dat (.int n) ∧ Rgb n ∧ q (o (rangeD 0 n.toNat)) ρ1) : W (mRg1 o m) ρ q := by
  obtain ⟨r, ρ1, e1, n, rfl, h1, z⟩ := h
  exact ⟨_, ρ1, by simp only [mRg1, e1, if_pos (rgOk_of (i := 0) ⟨by decide, by decide⟩ h1)], z⟩
theorem w_rg2 {o : List PD → RV} {ma mb : Mr RV} (h : W ma ρ fun r ρ1 => ∃ i, r = .dat (.int i) ∧ W mb ρ1 fun s ρ2 => ∃ j, s = .dat (.int j) ∧ Rgb i ∧ Rgb j ∧ q (o (rangeD i (j - i).toNat)) ρ2) : W (mRg2 o ma mb) ρ q := by
  obtain ⟨r, ρ1, e1, i, rfl, s, ρ2, e2, j, rfl, h1, h2, z⟩ := h
  exact ⟨_, ρ2, by simp only [mRg2, e1, e2, if_pos (rgOk_of h1 h2)], z⟩
theorem w_read {f : List PD → List PD → Option PD} {mo : Mr RV} {ms : Mr (List RV)} (h : W mo ρ fun ro ρ1 => ∃ l, res ro ρ1 = some (.list l) ∧ W (mArgs ms) ρ1 fun ds ρ2 => ∃ cur, res (holdR ro) ρ2 = some (.list cur) ∧ Op (f cur ds) fun o => q (.dat o) ρ2) : W (mRead f mo ms) ρ q := by
  obtain ⟨ro, ρ1, e1, l, e2, ds, ρ2, e3, cur, e4, o, e5, z⟩ := h
  exact ⟨_, ρ2, by simp only [mRead, e1, e2, e3, e4, e5], z⟩
theorem w_slScr {i : Nat} {lo hi : Option (Mr RV)} {ds : List PD} (h0 : ρ[i]? = some (some (Val.scr ds))) (h : W (mPart lo) ρ fun l ρ2 => W (mPart hi) ρ2 fun u ρ3 => q (.own (cutD ds l u)) ρ3) : W (mSlScr i lo hi) ρ q := by
  obtain ⟨l, ρ2, e2, u, ρ3, e3, z⟩ := h
  exact ⟨_, ρ3, by simp only [mSlScr, h0, e2, e3], z⟩
end
theorem op_index {Q : PD → Prop} {r : List Int} {i : Int} (h : i ∈ r) (z : Q (.int (r.idxOf i))) : Op (indexF (numL r) [.int i]) Q := ⟨_, by simp only [indexF, intsOf_map, if_pos h], z⟩
end DL
namespace DL
theorem fwN {mf : FM} {xs ys : List Val} {perm : List Nat} {Q : RV → List Val → Prop} (h : (perm.filterMap fun i => xs[i]?) = ys) (z : Fw mf ys Q) : Fw mf (perm.filterMap fun i => xs[i]?) Q := by rw [h]; exact z
end DL
namespace DL
open PySem L2
theorem repD_two (a : PD) : repD (Int.toNat 2) [a] = [a, a] := rfl
theorem op_dbl {Q : RV → Prop} {a : PD} (z : Q (.own [a, a])) : Op (mulD2 (.list [a]) (.int 2)) Q := op_mul2L ⟨by simp, by decide, by decide⟩ (by rw [repD_two]; exact z)
theorem bne_self {b : Bool} : (!(b == b)) = false := by simp
end DL
/-! PuG: typed comprehensions; which row is evener, in plain numbers. -/
namespace DL
open PySem L2
/-! comprehensions over what is typed -/
section
variable {α : Type} {vs : List Nat} {b : Bd PD} {mc : Mr Bool} {me : Mr RV} {q : List PD → Ev → Prop} {items : List PD} {ρ : Ev}
theorem w_lc_t {enc : α → PD} {l : List α} (g : α → PD) (he : items = l.map enc) (hs : ∀ x, x ∈ l → Op (b (enc x) ρ) fun ρ1 => W me ρ1 fun r ρ3 => Op2 (toDat r ρ3) fun d ρ4 => d = g x ∧ wipeE ρ4 vs = ρ) (z : q (l.map g) ρ) : W (mLc vs b mYes me items) ρ q := by
  subst he
  have key : ∀ (l : List α) (acc : List PD), (∀ x, x ∈ l → Op (b (enc x) ρ) fun ρ1 => W me ρ1 fun r ρ3 => Op2 (toDat r ρ3) fun d ρ4 => d = g x ∧ wipeE ρ4 vs = ρ) → mLc vs b mYes me (l.map enc) ρ = some (l.map g, ρ) := by
    intro l
    induction l with
    | nil => intro _ _; rfl
    | cons x l ih =>
      intro acc h
      obtain ⟨ρ1, e1, r, ρ3, e3, d, ρ4, e4, rfl, e5⟩ := h x (List.mem_cons_self ..)
      have e6 := ih acc fun y hy => h y (List.mem_cons_of_mem _ hy)
      simp only [List.map_cons, mLc, e1, mYes, e3, e4, e5, e6]
  exact ⟨_, _, key l [] hs, z⟩
/-- .. with a test -/
theorem w_lc_tf {enc : α → PD} {l : List α} (p : α → Bool) (g : α → PD) (he : items = l.map enc) (hs : ∀ x, x ∈ l → Op (b (enc x) ρ) fun ρ1 => W mc ρ1 fun t ρ2 => t = p x ∧ ((p x = true → W me ρ2 fun r ρ3 => Op2 (toDat r ρ3) fun d ρ4 => d = g x ∧ wipeE ρ4 vs = ρ) ∧ (p x = false → wipeE ρ2 vs = ρ))) (z : q ((l.filter p).map g) ρ) : W (mLc vs b mc me items) ρ q := by
  subst he
  have key : ∀ (l : List α), (∀ x, x ∈ l → Op (b (enc x) ρ) fun ρ1 => W mc ρ1 fun t ρ2 => t = p x ∧ ((p x = true → W me ρ2 fun r ρ3 => Op2 (toDat r ρ3) fun d ρ4 => d = g x ∧ wipeE ρ4 vs = ρ) ∧ (p x = false → wipeE ρ2 vs = ρ))) → mLc vs b mc me (l.map enc) ρ = some ((l.filter p).map g, ρ) := by
    intro l
    induction l with
    | nil => intro _; rfl
    | cons x l ih =>
      intro h
      obtain ⟨ρ1, e1, t, ρ2, e2, rfl, h1, h2⟩ := h x (List.mem_cons_self ..)
      have e6 := ih fun y hy => h y (List.mem_cons_of_mem _ hy)
      cases hp : p x with
      | true =>
        obtain ⟨r, ρ3, e3, d, ρ4, e4, rfl, e5⟩ := h1 hp
        rw [hp] at e2
        simp only [List.map_cons, mLc, e1, e2, e3, e4, e5, e6, List.filter_cons, hp, if_true]
      | false =>
        rw [hp] at e2
        simp only [List.map_cons, mLc, e1, e2, h2 hp, e6, List.filter_cons, hp]
        rfl
  exact ⟨_, _, key l hs, z⟩
end
theorem zipD_nums (a b : List Int) : zipD (numL a) (numL b) = (a.zip b).map fun p => PyData.tuple [.int p.1, .int p.2] := by
  unfold zipD numL
  rw [List.zipWith_map, List.map_zip_eq_zipWith]
  rfl
theorem map_nums {α : Type} (l : List α) (f : α → Int) : (l.map fun x => PyData.int (f x)) = numL (l.map f) := by simp [numL]
theorem zip_maps {α β γ : Type} (f : α → β) (g : α → γ) : ∀ l : List α, (l.map f).zip (l.map g) = l.map fun x => (f x, g x)
  | [] => rfl
  | x :: l => by simp [zip_maps f g l]
theorem enumD_eq : ∀ (n : Nat) (ds : List PD), enumD n ds = (ds.zipIdx n).map fun p => PyData.tuple [.int (p.2 : Nat), p.1]
  | _, [] => rfl
  | n, d :: ds => by
    show PyData.tuple [.int (n : Nat), d] :: enumD (n + 1) ds = _
    rw [enumD_eq (n + 1) ds, List.zipIdx_cons, List.map_cons]
/-! shapes -/
theorem shapeL_uniq {t r : List Int} (p : t.Perm r) (s : t.Pairwise fun a b => b ≤ a) : t = shapeL r :=
  List.Perm.eq_of_pairwise (le := fun a b => b ≤ a) (fun a b _ _ h1 h2 => by omega) s (shapeL_sorted r) (p.trans (shapeL_perm r).symm)
theorem topK_all (r : List Int) : topK r r.length = r.sum := by
  unfold topK
  rw [List.take_of_length_le (by rw [shapeL_len]; exact Nat.le_refl _)]
  exact perm_sum (shapeL_perm r)
/-- the heads -/
def headsL (r : List Int) : List Int := (List.range r.length).map fun k => topK r (k + 1)
theorem headsL_len (r : List Int) : (headsL r).length = r.length := by simp [headsL]
def evB (s r : List Int) : Bool := (List.range r.length).all fun k => decide (topK s (k + 1) ≤ topK r (k + 1))
end DL
namespace DL
open PySem L2
theorem numL_app (r s : List Int) : numL (r ++ s) = numL r ++ numL s := by simp [numL]
end DL
namespace DL
open PySem L2
section
variable {α : Type} {vs : List Nat} {b : Bd PD} {mc : Mr Bool} {me : Mr RV} {q : List PD → Ev → Prop} {items : List PD} {ρ : Ev}
/-- ints that come of what is typed -/
theorem w_lc_i {enc : α → PD} {l : List α} (f : α → Int) (he : items = l.map enc) (hs : ∀ x, x ∈ l → Op (b (enc x) ρ) fun ρ1 => W me ρ1 fun r ρ3 => Op2 (toDat r ρ3) fun d ρ4 => d = .int (f x) ∧ wipeE ρ4 vs = ρ) (z : q (numL (l.map f)) ρ) : W (mLc vs b mYes me items) ρ q :=
  w_lc_t (fun x => .int (f x)) he hs (by rw [map_nums]; exact z)
end
theorem isW_t {i a b : Int} (h : a ≤ i ∧ i ≤ b) : isW (.int i) a b = true := by simp [isW, h]
theorem topK_succ {r : List Int} {i : Nat} {v : Int} (h : (shapeL r)[i]? = some v) : topK r (i + 1) = topK r i + v := by
  unfold topK
  rw [List.take_add_one, h]
  simp
theorem op_numT {Q : RV → Prop} {r : List Int} (z : Q (.dat (rowD r))) : Op (tupleF [.list (numL r)]) Q := op_of rfl z
end DL
namespace DL
open PySem L2
end DL
namespace DL
open PySem L2
end DL
namespace DL
open PySem L2
end DL
namespace DL
open PySem L2
section
variable {Q : RV → Prop} {xs : List PD} {v : Int}
theorem op_takePL (h : 0 ≤ v) (z : Q (.own (xs.take v.toNat))) : Op (sliceD (.list xs) none (some v)) Q := op_of (by
  show some (RV.own (cutD xs none (some v))) = _
  rw [cut_to h]) z
theorem op_dropPL (h : 0 ≤ v) (z : Q (.own (xs.drop v.toNat))) : Op (sliceD (.list xs) (some v) none) Q := op_of (by
  show some (RV.own (cutD xs (some v) none)) = _
  rw [cut_from h]) z
theorem op_takePT (h : 0 ≤ v) (z : Q (.dat (.tuple (xs.take v.toNat)))) : Op (sliceD (.tuple xs) none (some v)) Q := op_of (by
  show some (RV.dat (.tuple (cutD xs none (some v)))) = _
  rw [cut_to h]) z
theorem op_dropPT (h : 0 ≤ v) (z : Q (.dat (.tuple (xs.drop v.toNat)))) : Op (sliceD (.tuple xs) (some v) none) Q := op_of (by
  show some (RV.dat (.tuple (cutD xs (some v) none))) = _
  rw [cut_from h]) z
end
end DL
/-! PuH: weakly below: sums above, rows filled up, prices bent up. -/
namespace DL
open PySem L2
inductive P2 (R : Int → Int → Prop) : List Int → List Int → Prop
  | nil : P2 R [] []
  | cons {a b : Int} {r s : List Int} (h : R a b) (t : P2 R r s) : P2 R (a :: r) (b :: s)
theorem P2.length_eq {R : Int → Int → Prop} {r s : List Int} (h : P2 R r s) : r.length = s.length := by
  induction h with
  | nil => rfl
  | cons _ _ ih => simp [ih]
/-- bent up, never falling, from 0 to N -/
structure Cvx (f : Int → Int) (N : Nat) : Prop where
  up : ∀ x : Int, 0 ≤ x → x < N → f x ≤ f (x + 1)
  cv : ∀ x : Int, 0 ≤ x → x + 2 ≤ N → 2 * f (x + 1) ≤ f x + f (x + 2)
end DL
/-! PuI: first places, sums above, bends of prices. -/
namespace DL
open PySem L2
/-- first place where the near row has more -/
def firstL (r s : List Int) : Option Nat := ((List.range r.length).filter fun k : Nat => decide (gI s k < gI r k)).head?
theorem op_eqSx {Q : RV → Prop} {x y : Str} (h : PyData.eqv (.str x) (.str y) = false) (z : Q (.dat (.bool false))) : Op (equD (.str x) (.str y)) Q := op_eqS (by rw [h]; exact z)
theorem op_neSx {Q : RV → Prop} {x y : Str} (h : PyData.eqv (.str x) (.str y) = false) (z : Q (.dat (.bool true))) : Op (neqD (.str x) (.str y)) Q := op_eqS (by rw [h]; exact z)
end DL
/-! PuJ: weakly over: tails, sums below, rows cut down; all by turning rows about. -/
namespace DL
open PySem L2
end DL
/-! PuK: any values that are small enough to be shown, {} among them. -/
namespace DL
open PySem L2
mutual
def fit : PD → Bool
  | .none | .bool _ => true
  | .int i => decide (i.natAbs < 1000000000000000000000000000000000000000000000000000000000000)
  | .str x => PyData.strOk x
  | .dict kvs => kvs.isEmpty
  | .list xs | .tuple xs => fitL xs
def fitL : List PD → Bool
  | [] => true
  | x :: xs => fit x && fitL xs
end
theorem fitL_mem : ∀ {xs : List PD}, fitL xs = true ↔ ∀ x ∈ xs, fit x = true
  | [] => by simp [fitL]
  | x :: xs => by simp [fitL, fitL_mem (xs := xs)]
mutual
theorem fit_leaves : ∀ d : PD, fit d = true → d.leavesShort 61 = true
  | .none, _ => rfl
  | .bool _, _ => rfl
  | .int i, h => by
    have h : i.natAbs < 10 ^ 60 := by simpa [fit] using h
    have e := int_text_length_le10 (k := 60) (by decide) h
    simp only [PyData.leavesShort, decide_eq_true_eq]
    show (Str.ofString (toString i)).length ≤ 61
    rw [ofString_length]; exact e
  | .str x, h => by
    have h0 : x.cps.all (· < 0x110000) = true := by simpa only [fit, PyData.strOk] using h
    simp only [PyData.leavesShort, List.all_eq_true, decide_eq_true_eq]
    intro c hc
    have h2 : c < 0x110000 := by
      have := (Array.all_eq_true_iff_forall_mem.mp h0) c (Array.mem_toList_iff.mp hc)
      simpa using this
    have e : (16 : Nat) ^ 8 = 4294967296 := by decide
    omega
  | .dict kvs, h => by
    have e : kvs = [] := by simpa [fit] using h
    subst e
    simp [PyData.leavesShort, PyData.leavesShortKv]
  | .list xs, h => by simp only [PyData.leavesShort]; exact fitL_leaves xs (by simpa [fit] using h)
  | .tuple xs, h => by simp only [PyData.leavesShort]; exact fitL_leaves xs (by simpa [fit] using h)
theorem fitL_leaves : ∀ ds : List PD, fitL ds = true → PyData.leavesShortAll 61 ds = true
  | [], _ => rfl
  | x :: xs, h => by
    have h : fit x = true ∧ fitL xs = true := by simpa [fitL] using h
    simp [PyData.leavesShortAll, fit_leaves x h.1, fitL_leaves xs h.2]
end
mutual
theorem fit_showable : ∀ d : PD, fit d = true → d.showable = true
  | .none, _ => rfl
  | .bool _, _ => rfl
  | .int i, h => by
    have h : i.natAbs < 10 ^ 60 := by simpa [fit] using h
    simp only [PyData.showable, decide_eq_true_eq]
    by_cases z : i.natAbs = 0
    · rw [z]; decide
    · have : i.natAbs.log2 < 200 := (Nat.log2_lt z).mpr (Nat.lt_trans h (by decide))
      omega
  | .str x, h => rfl
  | .dict kvs, h => by
    have e : kvs = [] := by simpa [fit] using h
    subst e
    simp [PyData.showable, PyData.showableKv]
  | .list xs, h => by simp only [PyData.showable]; exact fitL_showable xs (by simpa [fit] using h)
  | .tuple xs, h => by simp only [PyData.showable]; exact fitL_showable xs (by simpa [fit] using h)
theorem fitL_showable : ∀ ds : List PD, fitL ds = true → PyData.showableAll ds = true
  | [], _ => rfl
  | x :: xs, h => by
    have h : fit x = true ∧ fitL xs = true := by simpa [fitL] using h
    simp [PyData.showableAll, fit_showable x h.1, fitL_showable xs h.2]
end
mutual
theorem nice_fit : ∀ d : PD, nice d = true → fit d = true
  | .none, _ => rfl
  | .bool _, _ => rfl
  | .int i, h => by
    have h : i.natAbs < 1000000000000 := by simpa [nice] using h
    simp only [fit, decide_eq_true_eq]
    omega
  | .str _, h => by simpa [fit, nice] using h
  | .dict _, h => by simp [nice] at h
  | .list xs, h => by simp only [fit]; exact niceL_fit xs (by simpa [nice] using h)
  | .tuple xs, h => by simp only [fit]; exact niceL_fit xs (by simpa [nice] using h)
theorem niceL_fit : ∀ ds : List PD, niceL ds = true → fitL ds = true
  | [], _ => rfl
  | x :: xs, h => by
    have h : nice x = true ∧ niceL xs = true := by simpa [niceL] using h
    simp [fitL, nice_fit x h.1, niceL_fit xs h.2]
end
/-- depth, weight, leaves that are short -/
structure Vl (k w : Nat) (d : PD) : Prop where
  dp : d.depth ≤ k
  wt : d.weight ≤ w
  ok : fit d = true
structure VL (k w : Nat) (ds : List PD) : Prop where
  dp : PyData.depthAll ds ≤ k
  wt : PyData.weightAll ds ≤ w
  ok : fitL ds = true
theorem Vl.mono {k w k' w' : Nat} {d : PD} (h : Vl k w d) (a : k ≤ k') (b : w ≤ w') : Vl k' w' d := ⟨Nat.le_trans h.dp a, Nat.le_trans h.wt b, h.ok⟩
theorem VL.mono {k w k' w' : Nat} {d : List PD} (h : VL k w d) (a : k ≤ k') (b : w ≤ w') : VL k' w' d := ⟨Nat.le_trans h.dp a, Nat.le_trans h.wt b, h.ok⟩
theorem Gd.vl {k w : Nat} {d : PD} (h : Gd k w d) : Vl k w d := ⟨h.dp, h.wt, nice_fit d h.ok⟩
theorem GL.vl {k w : Nat} {d : List PD} (h : GL k w d) : VL k w d := ⟨h.dp, h.wt, niceL_fit d h.ok⟩
theorem vl_dict0 : Vl 1 0 (.dict []) := ⟨by simp [PyData.depth, PyData.depthKv], by simp [PyData.weight, PyData.weightKv], rfl⟩
theorem vL_nil : VL 0 0 [] := gl_nil.vl
theorem vL_cons {k w k' w' : Nat} {d : PD} {ds : List PD} (h : Vl k w d) (g : VL k' w' ds) : VL (max k k') (w + w' + 1) (d :: ds) := ⟨by
  have := h.dp; have := g.dp
  simp only [PyData.depthAll]; omega, by
  have := h.wt; have := g.wt
  simp only [PyData.weightAll]; omega, by simp [fitL, h.ok, g.ok]⟩
theorem vL_append {k w k' w' : Nat} {ds es : List PD} (h : VL k w ds) (g : VL k' w' es) : VL (max k k') (w + w') (ds ++ es) := ⟨by
  have := h.dp; have := g.dp
  rw [depthAll_app]; omega, by
  have := h.wt; have := g.wt
  rw [weightAll_app]; omega, fitL_mem.mpr fun d hd => by
    rcases List.mem_append.mp hd with h1 | h1
    · exact fitL_mem.mp h.ok d h1
    · exact fitL_mem.mp g.ok d h1⟩
theorem vl_l {k w : Nat} {ds : List PD} (h : VL k w ds) : Vl (k + 1) w (.list ds) := ⟨by have := h.dp; simp only [PyData.depth]; omega, by simp only [PyData.weight]; exact h.wt, by simp only [fit]; exact h.ok⟩
theorem vl_t {k w : Nat} {ds : List PD} (h : VL k w ds) : Vl (k + 1) w (.tuple ds) := ⟨by have := h.dp; simp only [PyData.depth]; omega, by simp only [PyData.weight]; exact h.wt, by simp only [fit]; exact h.ok⟩
theorem Vl.items {k w : Nat} {d : PD} {ds : List PD} (h : Vl k w d) (e : d = .list ds ∨ d = .tuple ds) : ∃ j, j + 1 = max k 1 ∧ VL j w ds := by
  have h1 := h.dp
  have h2 := h.wt
  have h3 := h.ok
  rcases e with rfl | rfl
  all_goals
    simp only [PyData.depth, PyData.weight, fit] at h1 h2 h3
    exact ⟨max k 1 - 1, by omega, by omega, h2, h3⟩
theorem depthAll_mem : ∀ {ds : List PD} {d : PD}, d ∈ ds → d.depth ≤ PyData.depthAll ds
  | x :: xs, d, h => by
    simp only [PyData.depthAll]
    rcases List.mem_cons.mp h with rfl | h
    · omega
    · have := depthAll_mem h; omega
theorem weightAll_mem : ∀ {ds : List PD} {d : PD}, d ∈ ds → d.weight + 1 ≤ PyData.weightAll ds
  | x :: xs, d, h => by
    simp only [PyData.weightAll]
    rcases List.mem_cons.mp h with rfl | h
    · omega
    · have := weightAll_mem h; omega
theorem weightAll_len : ∀ ds : List PD, ds.length ≤ PyData.weightAll ds
  | [] => by simp
  | x :: xs => by
    have := weightAll_len xs
    simp only [PyData.weightAll, List.length_cons]; omega
theorem VL.mem {k w : Nat} {ds : List PD} {d : PD} (h : VL k w ds) (m : d ∈ ds) : Vl k w d := ⟨Nat.le_trans (depthAll_mem m) h.dp, by have := weightAll_mem m; have := h.wt; omega, fitL_mem.mp h.ok d m⟩
theorem VL.len {k w : Nat} {ds : List PD} (h : VL k w ds) : ds.length ≤ w := Nat.le_trans (weightAll_len ds) h.wt
theorem VL.sub {k w : Nat} {ds es : List PD} (h : VL k w ds) (s : es.Sublist ds) : VL k w es := by
  refine ⟨?_, ?_, fitL_mem.mpr fun d hd => fitL_mem.mp h.ok d (s.subset hd)⟩
  · exact depthAll_le fun d hd => Nat.le_trans (depthAll_mem (s.subset hd)) h.dp
  · have key : ∀ {as bs : List PD}, as.Sublist bs → PyData.weightAll as ≤ PyData.weightAll bs := fun {as bs} s => by
      induction s with
      | slnil => exact Nat.le_refl _
      | cons a _ ih => simp only [PyData.weightAll]; omega
      | cons_cons a _ ih => simp only [PyData.weightAll]; omega
    exact Nat.le_trans (key s) h.wt
theorem VL.take {k w : Nat} {ds : List PD} (h : VL k w ds) (n : Nat) : VL k w (ds.take n) := h.sub (List.take_sublist n ds)
theorem VL.drop {k w : Nat} {ds : List PD} (h : VL k w ds) (n : Nat) : VL k w (ds.drop n) := h.sub (List.drop_sublist n ds)
theorem weightAll_perm {ds es : List PD} (p : ds.Perm es) : PyData.weightAll ds = PyData.weightAll es := by
  induction p with
  | nil => rfl
  | cons x _ ih => simp only [PyData.weightAll, ih]
  | swap x y l => simp only [PyData.weightAll]; omega
  | trans _ _ a b => exact a.trans b
theorem VL.perm {k w : Nat} {ds es : List PD} (h : VL k w ds) (p : es.Perm ds) : VL k w es := ⟨depthAll_le fun d hd => Nat.le_trans (depthAll_mem (p.subset hd)) h.dp, by rw [weightAll_perm p]; exact h.wt, fitL_mem.mpr fun d hd => fitL_mem.mp h.ok d (p.subset hd)⟩
theorem VL.reverse {k w : Nat} {ds : List PD} (h : VL k w ds) : VL k w ds.reverse := h.perm (List.reverse_perm ds)
theorem Vl.repr {k w : Nat} {d : PD} (h : Vl k w d) (hk : k ≤ 60) (hw : w ≤ 262144) : reprOk d = true := by
  have h1 := h.dp
  have h2 := h.wt
  have h3 := PyData.shown_le 61 (by decide) d (fit_leaves d h.ok)
  have e : sizeLine = 16777216 := by decide
  simp only [reprOk, fit_showable d h.ok, Bool.true_and, Bool.and_true, Bool.and_eq_true, decide_eq_true_eq]
  exact ⟨by omega, by omega⟩
theorem op_reprV {Q : RV → Prop} {k w : Nat} {d : PD} (h : Vl k w d) (hk : k ≤ 60) (hw : w ≤ 262144) (z : Q (.dat (.str d.shown))) : Op (reprF [d]) Q := op_repr (h.repr hk hw) z
end DL
/-! PuL: prices bent up or down alone; what is looked at of any value. -/
namespace DL
open PySem L2
theorem op_neNilA {Q : RV → Prop} {xs : List PD} (z : Q (.dat (.bool (!xs.isEmpty)))) : Op (neqD (.list xs) (.list [])) Q := by
  cases xs with
  | nil => exact op_neNil (gd_shapedL (k := 0) (w := 0) (fun d hd => nomatch hd) (by decide)) z
  | cons x xs =>
    refine op_eqNL (by simp) ?_
    show Q (.dat (.bool (!PyData.eqv (.list (x :: xs)) (.list []))))
    rw [eqv_nl (by simp)]
    exact z
theorem isW_inv {d : PD} {a b : Int} (h : isW d a b = true) : ∃ i, d = .int i ∧ a ≤ i ∧ i ≤ b := by
  cases d with
  | int i => refine ⟨i, rfl, ?_⟩; simpa [isW] using h
  | _ => simp [isW] at h
end DL
/-! PuM: what may raise, step by step. -/
namespace DL
open PySem L2
section
variable {ρ ρ' : Ev} {q : FlX → Ev → Prop}
theorem w_pl {m : Ms} (h : W m ρ fun f ρ1 => q (.fl f) ρ1) : W (mPl m) ρ q := by
  obtain ⟨f, ρ1, e, z⟩ := h
  exact ⟨.fl f, ρ1, by simp only [mPl, e], z⟩
/-- on behind a statement that may raise -/
def GoX (fl : FlX) (P : Prop) (Q : Prop) : Prop := match fl with
  | .fl .nx => P
  | _ => Q
theorem w_seqX {a b : Mx} (h : W a ρ fun fl ρ1 => GoX fl (W b ρ1 q) (q fl ρ1)) : W (mSeqX a b) ρ q := by
  obtain ⟨fl, ρ1, e1, h⟩ := h
  cases fl with
  | ex c => exact ⟨_, ρ1, by simp only [mSeqX, e1], h⟩
  | fl f =>
    cases f with
    | nx => obtain ⟨g, ρ2, e2, z⟩ := h; exact ⟨g, ρ2, by simp only [mSeqX, e1, e2], z⟩
    | bk => exact ⟨_, ρ1, by simp only [mSeqX, e1], h⟩
    | ct => exact ⟨_, ρ1, by simp only [mSeqX, e1], h⟩
    | rt r => exact ⟨_, ρ1, by simp only [mSeqX, e1], h⟩
theorem gox_nx {P Q : Prop} (h : P) : GoX (.fl .nx) P Q := h
theorem gox_rt {P Q : Prop} {r : RV} (h : Q) : GoX (.fl (.rt r)) P Q := h
theorem gox_ex {P Q : Prop} {c : Str} (h : Q) : GoX (.ex c) P Q := h
theorem w_ifX {m : Mr Bool} {a b : Mx} (h : W m ρ fun t ρ1 => Br t (W a ρ1 q) (W b ρ1 q)) : W (mIfX m a b) ρ q := by
  obtain ⟨t, ρ1, e1, h1, h2⟩ := h
  cases t with
  | true => obtain ⟨c, ρ2, e2, z⟩ := h1 rfl; exact ⟨c, ρ2, by simp only [mIfX, e1, e2], z⟩
  | false => obtain ⟨c, ρ2, e2, z⟩ := h2 rfl; exact ⟨c, ρ2, by simp only [mIfX, e1, e2], z⟩
theorem w_raise {c : Str} (z : q (.ex c) ρ) : W (mRaise c) ρ q := ⟨_, _, rfl, z⟩
def TurnX (I : Ev → Prop) (Q : FlX → Ev → Prop) (fl : FlX) (ρ : Ev) : Prop := match fl with
  | .fl .nx => I ρ
  | .fl .ct => I ρ
  | .fl .bk => Q (.fl .nx) ρ
  | .fl (.rt r) => Q (.fl (.rt r)) ρ
  | .ex c => Q (.ex c) ρ
theorem turnx_nx {I : Ev → Prop} {Q : FlX → Ev → Prop} {ρ : Ev} (h : I ρ) : TurnX I Q (.fl .nx) ρ := h
theorem turnx_ex {I : Ev → Prop} {Q : FlX → Ev → Prop} {c : Str} {ρ : Ev} (h : Q (.ex c) ρ) : TurnX I Q (.ex c) ρ := h
theorem w_forX {mi : Mr (List PD)} {b : Bd PD} {body : Mx} (h : W mi ρ fun items ρ1 => W (mForX b body items) ρ1 q) : W (mForSX mi b body) ρ q := by
  obtain ⟨items, ρ1, e1, r, ρ2, e2, z⟩ := h
  exact ⟨r, ρ2, by simp only [mForSX, e1, e2], z⟩
end
/-- a def that may raise answers -/
def Fe (ef : EM) (xs : List Val) (Q : Oc → List Val → Prop) : Prop := ∃ o ys, ef xs = some (o, ys) ∧ Q o ys
def EndX (xs : List Val) (Q : Oc → List Val → Prop) (fl : FlX) (ρ : Ev) : Prop := match fl with
  | .fl (.rt (.dat d)) => Op (outs xs ρ) fun ys => Q (.val (.dat d)) ys
  | .fl (.rt (.own ds)) => Op (outs xs ρ) fun ys => Q (.val (.own ds)) ys
  | .fl .nx => Op (outs xs ρ) fun ys => Q (.val (.dat .none)) ys
  | .ex c => Op (outs xs ρ) fun ys => Q (.exc c) ys
  | _ => False
theorem endx_dat {xs : List Val} {Q : Oc → List Val → Prop} {d : PD} {ρ : Ev} (h : Op (outs xs ρ) fun ys => Q (.val (.dat d)) ys) : EndX xs Q (.fl (.rt (.dat d))) ρ := h
theorem endx_own {xs : List Val} {Q : Oc → List Val → Prop} {d : List PD} {ρ : Ev} (h : Op (outs xs ρ) fun ys => Q (.val (.own d)) ys) : EndX xs Q (.fl (.rt (.own d))) ρ := h
theorem endx_nx {xs : List Val} {Q : Oc → List Val → Prop} {ρ : Ev} (h : Op (outs xs ρ) fun ys => Q (.val (.dat .none)) ys) : EndX xs Q (.fl .nx) ρ := h
theorem endx_ex {xs : List Val} {Q : Oc → List Val → Prop} {c : Str} {ρ : Ev} (h : Op (outs xs ρ) fun ys => Q (.exc c) ys) : EndX xs Q (.ex c) ρ := h
section
variable {ρ ρ' : Ev}
theorem w_callE {ef : EM} {ms : Mr (List RV)} {q : Oc → Ev → Prop} (h : W ms ρ fun rs ρ1 => Op2 (toVals (rs.map holdR) ρ1) fun xs ρ2 => Fe ef xs fun o _ => o.plain = true ∧ q o ρ2) : W (mCallE ef ms) ρ q := by
  obtain ⟨rs, ρ1, e1, xs, ρ2, e2, o, ys, e3, hp, z⟩ := h
  exact ⟨o, ρ2, by simp only [mCallE, e1, e2, e3, if_pos hp], z⟩
/-- the outcome of a statement's call -/
def SetO2 (i : Nat) (q : FlX → Ev → Prop) (o : Oc) (ρ : Ev) : Prop := match o with
  | .val r => Op (put i r ρ) fun ρ2 => q (.fl .nx) ρ2
  | .exc c => q (.ex c) ρ
theorem w_setX {i : Nat} {mo : Mo} {q : FlX → Ev → Prop} (h : W mo ρ fun o ρ1 => SetO2 i q o ρ1) : W (mSetX i mo) ρ q := by
  obtain ⟨o, ρ1, e1, z⟩ := h
  cases o with
  | val r => obtain ⟨ρ2, e2, z⟩ := z; exact ⟨_, ρ2, by simp only [mSetX, e1, e2], z⟩
  | exc c => exact ⟨_, ρ1, by simp only [mSetX, e1], z⟩
def Lst2O (d : PD) (q : Oc → Ev → Prop) (o : Oc) (ρ : Ev) : Prop := match o with
  | .val (.dat d2) => q (.val (.own [d, d2])) ρ
  | .val (.own d2) => q (.val (.own [d, .list d2])) ρ
  | .exc c => q (.exc c) ρ
  | _ => False
theorem w_lst2X {m : Mr RV} {mo : Mo} {q : Oc → Ev → Prop} (h : W m ρ fun r ρ1 => ∃ d, r = .dat d ∧ W mo ρ1 fun o ρ2 => Lst2O d q o ρ2) : W (mLst2X m mo) ρ q := by
  obtain ⟨r, ρ1, e1, d, rfl, o, ρ2, e2, z⟩ := h
  match o, z with
  | .val (.dat d2), z => exact ⟨_, ρ2, by simp only [mLst2X, e1, e2], z⟩
  | .val (.own d2), z => exact ⟨_, ρ2, by simp only [mLst2X, e1, e2], z⟩
  | .exc c, z => exact ⟨_, ρ2, by simp only [mLst2X, e1, e2], z⟩
def TryO (c : Str) (hd : Ms) (q : Fl → Ev → Prop) (fl : FlX) (ρ : Ev) : Prop := match fl with
  | .fl f => q f ρ
  | .ex c' => c' = c ∧ W hd ρ q
theorem w_try {c : Str} {body : Mx} {hd : Ms} {q : Fl → Ev → Prop} (h : W body ρ (TryO c hd q)) : W (mTry c body hd) ρ q := by
  obtain ⟨fl, ρ1, e1, z⟩ := h
  cases fl with
  | fl f => exact ⟨f, ρ1, by simp only [mTry, e1], z⟩
  | ex c' =>
    obtain ⟨e, f, ρ2, e2, z⟩ := z
    exact ⟨f, ρ2, by simp only [mTry, e1, if_pos e, e2], z⟩
theorem tryo_fl {c : Str} {hd : Ms} {q : Fl → Ev → Prop} {f : Fl} (h : q f ρ) : TryO c hd q (.fl f) ρ := h
theorem tryo_ex {c : Str} {hd : Ms} {q : Fl → Ev → Prop} (h : W hd ρ q) : TryO c hd q (.ex c) ρ := ⟨rfl, h⟩
theorem w_told {i j : Nat} {w : Str} {b : Bool} {q : Fl → Ev → Prop} (h : i < ρ.length ∧ i ≠ j) (z : q .nx ((ρ.set i none).set j (some (.own [.str w, .bool b])))) : W (mTold i j w b) ρ q := ⟨_, _, if_pos h, z⟩
end
section
variable {ρ : Ev}
theorem seto_v {i : Nat} {q : FlX → Ev → Prop} {r : RV} (h : Op (put i r ρ) fun ρ2 => q (.fl .nx) ρ2) : SetO2 i q (.val r) ρ := h
theorem seto_x {i : Nat} {q : FlX → Ev → Prop} {c : Str} (h : q (.ex c) ρ) : SetO2 i q (.exc c) ρ := h
theorem lst2_d {d e : PD} {q : Oc → Ev → Prop} (h : q (.val (.own [d, e])) ρ) : Lst2O d q (.val (.dat e)) ρ := h
theorem lst2_o {d : PD} {es : List PD} {q : Oc → Ev → Prop} (h : q (.val (.own [d, .list es])) ρ) : Lst2O d q (.val (.own es)) ρ := h
theorem lst2_x {d : PD} {c : Str} {q : Oc → Ev → Prop} (h : q (.exc c) ρ) : Lst2O d q (.exc c) ρ := h
end
end DL
/-! PuN: differences of all couples, lines of shares, fractions. -/
namespace DL
open PySem L2
/-! ### differences of all couples -/
def dif1 (x : Int) (r : List Int) : Int := (r.map fun y => (((x - y).natAbs : Nat) : Int)).sum
def full (r : List Int) : Int := (r.map fun x => dif1 x r).sum
end DL
namespace DL
open PySem L2
theorem op_bTup2 {n : Nat} {bs : Bd (List PD)} {ds : List PD} {ρ : Ev} {Q : Ev → Prop} (h : ds.length = n) (z : Op (bs ds ρ) Q) : Op (bTup2 n bs (.tuple ds) ρ) Q := by
  obtain ⟨r, e, z⟩ := z
  exact ⟨r, by simp only [bTup2, if_pos h, e], z⟩
theorem op_bTup2L {n : Nat} {bs : Bd (List PD)} {ds : List PD} {ρ : Ev} {Q : Ev → Prop} (h : ds.length = n) (z : Op (bs ds ρ) Q) : Op (bTup2 n bs (.list ds) ρ) Q := by
  obtain ⟨r, e, z⟩ := z
  exact ⟨r, by simp only [bTup2, if_pos h, e], z⟩
end DL
namespace DL
open PySem L2
/-- the middle sums times k! (n - k)! -/
def qL : List Int → Nat → Int
  | [], 0 => 1
  | [], _ + 1 => 0
  | _ :: r, 0 => ((r.length : Int) + 1) * qL r 0
  | x :: r, k + 1 => ((r.length : Int) - k) * qL r (k + 1) + ((k : Int) + 1) * x * qL r k
/-- what stands ahead of place k, one place back -/
def qB (r : List Int) : Nat → Int
  | 0 => 0
  | k + 1 => qL r k
structure Four (r : List Int) (k : Nat) : Prop where
  bd : qL r k * qL r (k + 2) ≤ qL r (k + 1) * qL r (k + 1)
  ac : qB r k * qL r (k + 1) ≤ qL r k * qL r k
end DL
namespace DL
open PySem L2
end DL
namespace DL
open PySem L2
end DL
/-! PuS: large ints: *, repr. -/
namespace DL
open PySem L2
section
variable {Q : RV → Prop} {i j : Int}
theorem op_mul3I (h : (-18446744073709551616 < i ∧ i < 18446744073709551616) ∨ (-18446744073709551616 < j ∧ j < 18446744073709551616)) (z : Q (.dat (.int (i * j)))) : Op (mulD3 (.int i) (.int j)) Q := op_of (by simp only [mulD3, if_pos (Or.inl h)]) z
end
theorem op_divmod2 {Q : RV → Prop} {i j : Int} (h : 0 < j ∧ j.natAbs < bigN) (z : Q (.dat (.tuple [.int (i / j), .int (i % j)]))) : Op (divmodF2 [.int i, .int j]) Q := op_of (by simp only [divmodF2, if_pos h]) z
theorem bigN_ge : 1267650600228229401496703205376 ≤ bigN := by decide +kernel
theorem op_divmod3 {Q : RV → Prop} {i j : Int} (h : 0 < j ∧ j < 1267650600228229401496703205376) (z : Q (.dat (.tuple [.int (i / j), .int (i % j)]))) : Op (divmodF2 [.int i, .int j]) Q := op_divmod2 ⟨h.1, Nat.lt_of_lt_of_le (by omega) bigN_ge⟩ z
structure Bg (k n : Nat) (d : PD) : Prop where
  dp : d.depth ≤ k
  bk : d.bulk ≤ n
  sh : d.showable = true
  lv : d.leavesShort 401 = true
structure BG (k n : Nat) (ds : List PD) : Prop where
  dp : PyData.depthAll ds ≤ k
  bk : PyData.bulkAll ds ≤ n
  sh : PyData.showableAll ds = true
  lv : PyData.leavesShortAll 401 ds = true
theorem Bg.mono {k n k' n' : Nat} {d : PD} (h : Bg k n d) (a : k ≤ k') (b : n ≤ n') : Bg k' n' d := ⟨Nat.le_trans h.dp a, Nat.le_trans h.bk b, h.sh, h.lv⟩
theorem BG.mono {k n k' n' : Nat} {d : List PD} (h : BG k n d) (a : k ≤ k') (b : n ≤ n') : BG k' n' d := ⟨Nat.le_trans h.dp a, Nat.le_trans h.bk b, h.sh, h.lv⟩
theorem Bg.repr {k n : Nat} {d : PD} (h : Bg k n d) (hk : k ≤ 60) (hn : n ≤ 10000) : reprOk d = true := by
  have h1 := h.dp
  have h2 := h.bk
  have h3 := PyData.shown_le_bulk 401 (by decide) d h.lv
  have e : sizeLine = 16777216 := by decide
  simp only [reprOk, h.sh, Bool.true_and, Bool.and_true, Bool.and_eq_true, decide_eq_true_eq]
  exact ⟨by omega, by omega⟩
/-- lists of ints, alike or not -/
theorem shaped_nums (r : List Int) : SeqAt.shaped (.list (numL r)) = true := by
  have h1 : ∀ r : List Int, PyData.canLayAll0 (numL r) = true := fun r => by
    induction r with
    | nil => rfl
    | cons x r ih => simp only [List.map_cons, PyData.canLayAll0, PyData.canLay0, Bool.true_and]; exact ih
  have h3 : PyData.depthAll (numL r) ≤ 0 := depthAll_le fun d hd => by
    obtain ⟨v, _, rfl⟩ := numL_mem hd
    simp [PyData.depth]
  have h4 : (PyData.list (numL r)).depth ≤ 1 := by
    simp only [PyData.depth]
    omega
  simp only [SeqAt.shaped, PyData.canLay0, h1 r, Bool.true_and, decide_eq_true_eq]
  omega
end DL
/-! PuT: middle, power and full sums; Newton's identities. -/
namespace DL
open PySem L2
/-- 1, -1, 1, .. -/
def sgn : Nat → Int
  | 0 => 1
  | n + 1 => - sgn n
/-- the sum of f 0, .., f (n - 1) -/
def sN (f : Nat → Int) : Nat → Int
  | 0 => 0
  | n + 1 => sN f n + f n
end DL
/-! PuU: sums out of sums. -/
namespace DL
open PySem L2
def mA (m : List Int) (k : Nat) : Int := m.getD k 0
def hN (m f : List Int) (s : Nat) : Int := sN (fun i => sgn i * mA m (i + 1) * mA f (s - i)) (s + 1)
end DL
/-! PuV: how large the sums get. -/
namespace DL
open PySem L2
end DL
/-! PuW: the falling order of a row's sides; one told gift. -/
namespace DL
open PySem L2
theorem gI_nat (r : List Int) (k : Nat) : gI r (k : Int) = r.getD k 0 := by unfold gI; rw [Int.toNat_natCast]
theorem gI_get {r : List Int} {k : Nat} (h : k < r.length) : gI r (k : Int) = r[k] := by rw [gI_nat, List.getD_eq_getElem?_getD, List.getElem?_eq_getElem h]; rfl
theorem shape_anti {r : List Int} {i j : Nat} (h : i ≤ j) (hj : j < r.length) : gI (shapeL r) j ≤ gI (shapeL r) i := by
  have hj2 : j < (shapeL r).length := by rw [shapeL_len]; exact hj
  rw [gI_get hj2, gI_get (Nat.lt_of_le_of_lt h hj2)]
  by_cases e : i = j
  · subst e; exact Int.le_refl _
  · exact List.pairwise_iff_getElem.mp (shapeL_sorted r) i j _ hj2 (by omega)
theorem gI_setN {l : List Int} {a k : Nat} {v : Int} (ha : a < l.length) : gI (l.set a v) k = if k = a then v else gI l k := by
  rw [gI_nat, gI_nat, List.getD_eq_getElem?_getD, List.getD_eq_getElem?_getD]
  by_cases e : k = a
  · subst e; rw [List.getElem?_set_self ha, if_pos rfl]; rfl
  · rw [List.getElem?_set_ne (fun h => e h.symm), if_neg e]
end DL
namespace DL
open PySem L2 PySem.W
def ordL (s : List Int) : List Int := (fallL s).map fun i : Nat => (i : Int)
theorem fallD_num (s : List Int) : fallD s = numL (ordL s) := by simp [fallD, ordL, numL]
theorem ordL_len (s : List Int) : (ordL s).length = s.length := by simp [ordL, fallL_len]
theorem rowAt_of {i : Nat} {ρ : Ev} {ns : List Int} (h : ρ[i]? = some (some (Val.dat (rowD ns)))) (hl : ns.length ≤ 1000) : rowAt i ρ = some ns := by
  unfold rowAt
  rw [h]
  simp only [intsOf_map, if_pos hl]
theorem w_fallR {i : Nat} {m : Mr RV} {ρ : Ev} {q : RV → Ev → Prop} (h : W m ρ fun r ρ1 => ∃ ns, ρ1[i]? = some (some (Val.dat (rowD ns))) ∧ ns.length ≤ 1000 ∧ r = .dat (.int ns.length) ∧ q (.own (numL (ordL ns))) ρ1) : W (mFallR i m) ρ q := by
  obtain ⟨r, ρ1, e1, ns, e2, hl, rfl, z⟩ := h
  refine ⟨_, ρ1, ?_, z⟩
  simp only [mFallR, e1, rowAt_of e2 hl, ← fallD_num]
  exact if_pos trivial
theorem w_ez {ms : Mr (List RV)} {ρ : Ev} {q : List PD → Ev → Prop} (h : W (mArgs ms) ρ fun as ρ1 => ∃ d e, as = [d, e] ∧ Op (itemsOf d) fun ds => Op (itemsOf e) fun es => q (enumD 0 (zipD ds es)) ρ1) : W (mEz ms) ρ q := by
  obtain ⟨as, ρ1, e1, d, e, rfl, ds, e2, es, e3, z⟩ := h
  exact ⟨_, ρ1, by simp only [mEz, e1, e2, e3], z⟩
/-- enumerate(zip(..)) of rows as long -/
theorem ez_rows {r s : List Int} (hl : s.length = r.length) : enumD 0 (zipD (numL r) (numL s)) = (List.range r.length).map fun k : Nat => PyData.tuple [.int (k : Int), .tuple [.int (gI r k), .int (gI s k)]] := by
  rw [zipD_nums, enumD_eq]
  refine List.ext_getElem (by simp [hl]) fun k h1 h2 => ?_
  have h3 : k < r.length := by simpa using h2
  simp [gI_get h3, gI_get (show k < s.length by omega)]
end DL
namespace HD
open PySem PySem.Spec PyProof.Rows L2 DL
section
variable {P : Program} {w : World} {K : Frag} {mg : Str → Option Value} {base : Heap}
def b__law_draw : Ms := mSeq (mIfS (mTruth (mBin gtD (mBin ixD (mVar 0) (mC (.int 0))) (mC (.int 0)))) (mSeq (mAsg (mBlt divmodF (mCons (mBin ixD (mVar 0) (mC (.int 0))) (mCons (mVar 1) (mNil)))) (bTup2 2 (bCons (bSub 0 (mC (.int 0))) (bCons (bName 2) (bNil))))) <| mRet (mVar 2)) (mNext)) <| mSeq (mAsg (mBin modD (mBlt intF (mCons (mBin addD (mBin mulD2 (mBin ixD (mVar 0) (mC (.int 1))) (mC (.int 40692))) (mC (.int 12227))) (mNil))) (mC (.int 2147483587))) (bSub 0 (mC (.int 1)))) <| mRet (mBin modD (mBlt intF (mCons (mBin fdivD (mBin modD (mBlt intF (mCons (mBin mulD2 (mBin ixD (mVar 0) (mC (.int 1))) (mBin ixD (mVar 0) (mC (.int 1)))) (mNil))) (mC (.int 2147483549))) (mC (.int 17))) (mNil))) (mVar 1))
def m__law_draw : FM := mfOf 2 3 b__law_draw
theorem fb__law_draw {x0 x1 : Val} {Q : RV → List Val → Prop} (h : W b__law_draw [some x0, some x1, none] (End [x0, x1] Q)) : Fw m__law_draw [x0, x1] Q := fw_body rfl h
theorem sc__law_draw : FnScope ["pot", "many", "digit"] ["pot", "many"] (defScope (top 30)) := ⟨rfl, rfl, rfl, by decide +kernel, rfl, by decide +kernel, by decide +kernel⟩
theorem pl__law_draw : Plain "_law_draw" (top 30) ["pot", "many"] := fun _ _ _ _ _ _ us hl => match us, hl with | [_, _], _ => rfl
theorem ok__law_draw (c : Facts fa fn xf K mg base) : Fn P w K mg base 1 "_law_draw" (top 30) ["pot", "many"] m__law_draw := by
  refine Fn.of c 18 18 sc__law_draw pl__law_draw fun f cdv A fr s H E pa hgu hr tx => ?_
  have hu4 := room_units' hr
  have hu5 := room_units hr
  have hN := (sc__law_draw).nd
  exact dss_cons (ds_if (dt_gt (de_ix (de_var 0) (de_int)) (de_int)) (dss_cons (ds_asg (de_divmod (c.free 34) (da_cons (de_ix (de_var 0) (de_int)) (da_cons (de_var 1) (da_nil)))) (dg_tup2 rfl (dgs_cons (dg_sub 0 (de_int)) (dgs_cons (dg_name 2 hN) (dgs_nil))))) <| dss_one (ds_ret (de_var 2))) (dss_nil)) <| dss_cons (ds_asg (de_mod (de_int1 (c.free 36) (da_cons (de_add (de_mul2 (de_ix (de_var 0) (de_int)) (de_int)) (de_int)) (da_nil))) (de_int)) (dg_sub 0 (de_int))) <| dss_one (ds_ret (de_mod (de_int1 (c.free 36) (da_cons (de_fdiv (de_mod (de_int1 (c.free 36) (da_cons (de_mul2 (de_ix (de_var 0) (de_int)) (de_ix (de_var 0) (de_int))) (da_nil))) (de_int)) (de_int)) (da_nil))) (de_var 1)))
def b__law_row : Ms := mSeq (mPar [4, 5] (mCons (mBin mulD2 (mLst (mCons (mC (.int 0)) (mNil))) (mVar 1)) (mCons (mCallP m__law_draw (mCons (mVar 0) (mCons (mC (.int 3)) (mNil)))) (mNil)))) <| mSeq (mForS (mRange1 (mCons (mVar 2) (mNil))) (bName 3) (mSeq (mSet 6 (mCallP m__law_draw (mCons (mVar 0) (mCons (mVar 1) (mNil))))) <| mSeq (mSet 6 (mIf (mOr (mTruth (mBin equD (mVar 5) (mC (.int 0)))) (mTruth (mBin equD (mCallP m__law_draw (mCons (mVar 0) (mCons (mC (.int 3)) (mNil)))) (mC (.int 0))))) (mVar 6) (mBlt min2F (mCons (mBin subD (mVar 1) (mC (.int 1))) (mCons (mBlt intF (mCons (mBin modD (mVar 3) (mVar 5)) (mNil))) (mNil)))))) <| mAsg (mBin addD (mBin ixD (mVar 4) (mVar 6)) (mC (.int 1))) (bSub 4 (mVar 6)))) <| mRet (mBlt tupleF (mCons (mVar 4) (mNil)))
def m__law_row : FM := mfOf 3 7 b__law_row
theorem fb__law_row {x0 x1 x2 : Val} {Q : RV → List Val → Prop} (h : W b__law_row [some x0, some x1, some x2, none, none, none, none] (End [x0, x1, x2] Q)) : Fw m__law_row [x0, x1, x2] Q := fw_body rfl h
theorem sc__law_row : FnScope ["pot", "sides", "total", "unit", "found", "kind", "side"] ["pot", "sides", "total"] (defScope (top 32)) := ⟨rfl, rfl, rfl, by decide +kernel, rfl, by decide +kernel, by decide +kernel⟩
theorem pl__law_row : Plain "_law_row" (top 32) ["pot", "sides", "total"] := fun _ _ _ _ _ _ us hl => match us, hl with | [_, _, _], _ => rfl
theorem ok__law_row (c : Facts fa fn xf K mg base) : Fn P w K mg base 2 "_law_row" (top 32) ["pot", "sides", "total"] m__law_row := by
  have F__law_draw := ok__law_draw (P := P) (w := w) (base := base) c
  refine Fn.of c 20 20 sc__law_row pl__law_row fun f cdv A fr s H E pa hgu hr tx => ?_
  have hu4 := room_units' hr
  have hu5 := room_units hr
  have hN := (sc__law_row).nd
  exact dss_cons (ds_par2 4 5 rfl hN (do_cons (de_mul2 (de_lst (da_cons (de_int) (da_nil))) (de_var 1)) (do_cons (de_fP F__law_draw hgu hr (da_cons (de_var 0) (da_cons (de_int) (da_nil)))) (do_nil)))) <| dss_cons (ds_for .never rfl (di_range1 (c.free 42) (da_cons (de_var 2) (da_nil))) (dg_name 3 hN) (dss_cons (ds_set 6 hN (de_fP F__law_draw hgu hr (da_cons (de_var 0) (da_cons (de_var 1) (da_nil))))) <| dss_cons (ds_set 6 hN (de_if ((dw_or (dt_eq hu4 (de_var 5) (de_int)) (dw_or1 (dt_eq hu4 (de_fP F__law_draw hgu hr (da_cons (de_var 0) (da_cons (de_int) (da_nil)))) (de_int)))).dt) (de_var 6) (de_min2 rfl (c.free 41) (da_cons (de_sub (de_var 1) (de_int)) (da_cons (de_int1 (c.free 36) (da_cons (de_mod (de_var 3) (de_var 5)) (da_nil))) (da_nil)))))) <| dss_one (ds_asg (de_add (de_ix (de_var 4) (de_var 6)) (de_int)) (dg_sub 4 (de_var 6))))) <| dss_one (ds_ret (de_tuple1 (c.free 48) (da_cons (de_var 4) (da_nil))))
def b__law_pick : Ms := mRet (mBin ixD (mVar 1) (mCallP m__law_draw (mCons (mVar 0) (mCons (mBlt lenF (mCons (mVar 1) (mNil))) (mNil)))))
def m__law_pick : FM := mfOf 2 2 b__law_pick
theorem fb__law_pick {x0 x1 : Val} {Q : RV → List Val → Prop} (h : W b__law_pick [some x0, some x1] (End [x0, x1] Q)) : Fw m__law_pick [x0, x1] Q := fw_body rfl h
theorem sc__law_pick : FnScope ["pot", "some"] ["pot", "some"] (defScope (top 31)) := ⟨rfl, rfl, rfl, by decide +kernel, rfl, by decide +kernel, by decide +kernel⟩
theorem pl__law_pick : Plain "_law_pick" (top 31) ["pot", "some"] := fun _ _ _ _ _ _ us hl => match us, hl with | [_, _], _ => rfl
theorem ok__law_pick (c : Facts fa fn xf K mg base) : Fn P w K mg base 2 "_law_pick" (top 31) ["pot", "some"] m__law_pick := by
  have F__law_draw := ok__law_draw (P := P) (w := w) (base := base) c
  refine Fn.of c 19 19 sc__law_pick pl__law_pick fun f cdv A fr s H E pa hgu hr tx => ?_
  have hu4 := room_units' hr
  have hu5 := room_units hr
  have hN := (sc__law_pick).nd
  exact dss_one (ds_ret (de_ix (de_var 1) (de_fP F__law_draw hgu hr (da_cons (de_var 0) (da_cons (de_len (c.free 38) (da_cons (de_var 1) (da_nil))) (da_nil))))))
def b__law_bent (m__law_bent : FM) : Ms := mSeq (mIfS (mAnd (mTruth (mUn (isF2 "list" "tuple") (mVar 1))) (mAnd (mTruth (mBin gtD (mBlt lenF (mCons (mVar 1) (mNil))) (mC (.int 0)))) (mTruth (mBin gtD (mCallP m__law_draw (mCons (mVar 0) (mCons (mC (.int 5)) (mNil)))) (mC (.int 0)))))) (mSeq (mPar [3, 4] (mCons (mCallP m__law_draw (mCons (mVar 0) (mCons (mBlt lenF (mCons (mVar 1) (mNil))) (mNil)))) (mCons (mCallP m__law_draw (mCons (mVar 0) (mCons (mC (.int 7)) (mNil)))) (mNil)))) <| mSeq (mIfS (mTruth (mBin equD (mVar 4) (mC (.int 0)))) (mRet (mBin addD (mSlice (mVar 1) none (some (mVar 3))) (mSlice (mVar 1) (some (mBin addD (mVar 3) (mC (.int 1)))) none))) (mNext)) <| mSeq (mIfS (mTruth (mBin equD (mVar 4) (mC (.int 1)))) (mRet (mBin addD (mBin addD (mSlice (mVar 1) none (some (mVar 3))) (mSlice (mVar 1) (some (mVar 3)) (some (mBin addD (mVar 3) (mC (.int 1)))))) (mSlice (mVar 1) (some (mVar 3)) none))) (mNext)) <| mSeq (mIfS (mTruth (mBin equD (mVar 4) (mC (.int 2)))) (mRet (mIf (mTruth (mUn (isF "tuple") (mVar 1))) (mBlt listF (mCons (mVar 1) (mNil))) (mBlt tupleF (mCons (mVar 1) (mNil))))) (mNext)) <| mSeq (mIfS (mTruth (mBin equD (mVar 4) (mC (.int 3)))) (mRet (mUn revD2 (mVar 1))) (mNext)) <| mSeq (mSet 2 (mBlt listF (mCons (mVar 1) (mNil)))) <| mSeq (mAsg (mCallP m__law_bent (mCons (mVar 0) (mCons (mBin ixD (mVar 1) (mVar 3)) (mNil)))) (bSub 2 (mVar 3))) <| mRet (mIf (mTruth (mUn (isF "list") (mVar 1))) (mVar 2) (mBlt tupleF (mCons (mVar 2) (mNil))))) (mNext)) <| mSeq (mIfS (mTruth (mUn (isF "int") (mVar 1))) (mRet (mCallP m__law_pick (mCons (mVar 0) (mCons (mLst (mCons (mBin addD (mVar 1) (mC (.int 1))) (mCons (mBin subD (mBin subD (mC (.int 0)) (mVar 1)) (mC (.int 1))) (mCons (mC (.int 0)) (mCons (mC (.int 1)) (mCons (mC (.bool true)) (mCons (mC .none) (mCons (mC (.int 60)) (mCons (mC (.int 61)) (mCons (mBlt strF (mCons (mVar 1) (mNil))) (mCons (mTup (mCons (mVar 1) (mNil))) (mNil)))))))))))) (mNil))))) (mNext)) <| mRet (mCallP m__law_pick (mCons (mVar 0) (mCons (mLst (mCons (mC .none) (mCons (mTup (mNil)) (mCons (mLst (mNil)) (mCons (mC (.dict [])) (mCons (mC (.int 0)) (mCons (mC (.str "heads")) (mCons (mC (.str "sides")) (mCons (mC (.str "Sides")) (mNil)))))))))) (mNil))))
def r__law_bent : Nat → FM
  | 0 => fun _ => none
  | n + 1 => mfOf 2 5 (b__law_bent (r__law_bent n))
def m__law_bent : FM := r__law_bent 24
theorem fb__law_bent {n : Nat} {x0 x1 : Val} {Q : RV → List Val → Prop} (h : W (b__law_bent (r__law_bent n)) [some x0, some x1, none, none, none] (End [x0, x1] Q)) : Fw (r__law_bent (n + 1)) [x0, x1] Q := fw_body rfl h
theorem sc__law_bent : FnScope ["pot", "value", "some", "at", "way"] ["pot", "value"] (defScope (top 40)) := ⟨rfl, rfl, rfl, by decide +kernel, rfl, by decide +kernel, by decide +kernel⟩
theorem pl__law_bent : Plain "_law_bent" (top 40) ["pot", "value"] := fun _ _ _ _ _ _ us hl => match us, hl with | [_, _], _ => rfl
theorem okr__law_bent (c : Facts fa fn xf K mg base) : ∀ n : Nat, Fn P w K mg base (3 + n) "_law_bent" (top 40) ["pot", "value"] (r__law_bent n)
  | 0 => Fn.zero c 28 28 pl__law_bent
  | n + 1 => by
    have F__law_bent := okr__law_bent c n
    have F__law_draw := (ok__law_draw (P := P) (w := w) (base := base) c).lift (k := 3 + n) (by omega)
    have F__law_pick := (ok__law_pick (P := P) (w := w) (base := base) c).lift (k := 3 + n) (by omega)
    refine Fn.of (k := 3 + n) c 28 28 sc__law_bent pl__law_bent fun f cdv A fr s H E pa hgu hr tx => ?_
    have hu4 := room_units' hr
    have hu5 := room_units hr
    have hN := (sc__law_bent).nd
    exact dss_cons (ds_if ((dw_and (dt_val (de_isinst2 "list" "tuple" (c.free 37) (c.free 39) (c.free 48) (de_var 1))) (dw_and (dt_gt (de_len (c.free 38) (da_cons (de_var 1) (da_nil))) (de_int)) (dw_and1 (dt_gt (de_fP F__law_draw hgu hr (da_cons (de_var 0) (da_cons (de_int) (da_nil))) (hj := Nat.le_refl _)) (de_int))))).dt) (dss_cons (ds_par2 3 4 rfl hN (do_cons (de_fP F__law_draw hgu hr (da_cons (de_var 0) (da_cons (de_len (c.free 38) (da_cons (de_var 1) (da_nil))) (da_nil))) (hj := Nat.le_refl _)) (do_cons (de_fP F__law_draw hgu hr (da_cons (de_var 0) (da_cons (de_int) (da_nil))) (hj := Nat.le_refl _)) (do_nil)))) <| dss_cons (ds_if (dt_eq hu4 (de_var 4) (de_int)) (dss_one (ds_ret (de_add (de_slice (ml := none) (mh := (some (mVar 3))) (de_var 1) do1_none (do1_some (de_var 3))) (de_slice (ml := (some (mBin addD (mVar 3) (mC (.int 1))))) (mh := none) (de_var 1) (do1_some (de_add (de_var 3) (de_int))) do1_none)))) (dss_nil)) <| dss_cons (ds_if (dt_eq hu4 (de_var 4) (de_int)) (dss_one (ds_ret (de_add (de_add (de_slice (ml := none) (mh := (some (mVar 3))) (de_var 1) do1_none (do1_some (de_var 3))) (de_slice (ml := (some (mVar 3))) (mh := (some (mBin addD (mVar 3) (mC (.int 1))))) (de_var 1) (do1_some (de_var 3)) (do1_some (de_add (de_var 3) (de_int))))) (de_slice (ml := (some (mVar 3))) (mh := none) (de_var 1) (do1_some (de_var 3)) do1_none)))) (dss_nil)) <| dss_cons (ds_if (dt_eq hu4 (de_var 4) (de_int)) (dss_one (ds_ret (de_if (dt_val (de_isinst "tuple" (c.free 37) (c.free 48) (de_var 1))) (de_list1 (c.free 39) (da_cons (de_var 1) (da_nil))) (de_tuple1 (c.free 48) (da_cons (de_var 1) (da_nil)))))) (dss_nil)) <| dss_cons (ds_if (dt_eq hu4 (de_var 4) (de_int)) (dss_one (ds_ret (de_rev2 (de_var 1)))) (dss_nil)) <| dss_cons (ds_set 2 hN (de_list1 (c.free 39) (da_cons (de_var 1) (da_nil)))) <| dss_cons (ds_asg (de_fP F__law_bent hgu hr (da_cons (de_var 0) (da_cons (de_ix (de_var 1) (de_var 3)) (da_nil))) (hj := Nat.le_refl _)) (dg_sub 2 (de_var 3))) <| dss_one (ds_ret (de_if (dt_val (de_isinst "list" (c.free 37) (c.free 39) (de_var 1))) (de_var 2) (de_tuple1 (c.free 48) (da_cons (de_var 2) (da_nil)))))) (dss_nil)) <| dss_cons (ds_if (dt_val (de_isinst "int" (c.free 37) (c.free 36) (de_var 1))) (dss_one (ds_ret (de_fP F__law_pick hgu hr (da_cons (de_var 0) (da_cons (de_lst (da_cons (de_add (de_var 1) (de_int)) (da_cons (de_sub (de_sub (de_int) (de_var 1)) (de_int)) (da_cons (de_int) (da_cons (de_int) (da_cons (de_bl) (da_cons (de_non) (da_cons (de_int) (da_cons (de_int) (da_cons (de_str1 (c.free 46) (da_cons (de_var 1) (da_nil))) (da_cons (de_tup (da_cons (de_var 1) (da_nil))) (da_nil)))))))))))) (da_nil))) (hj := Nat.le_refl _)))) (dss_nil)) <| dss_one (ds_ret (de_fP F__law_pick hgu hr (da_cons (de_var 0) (da_cons (de_lst (da_cons (de_non) (da_cons (de_tup (da_nil)) (da_cons (de_lst (da_nil)) (da_cons (de_dict0) (da_cons (de_int) (da_cons (de_str) (da_cons (de_str) (da_cons (de_str) (da_nil)))))))))) (da_nil))) (hj := Nat.le_refl _)))
theorem ok__law_bent (c : Facts fa fn xf K mg base) : Fn P w K mg base 27 "_law_bent" (top 40) ["pot", "value"] m__law_bent := okr__law_bent c 24
def b_is_integer : Ms := mRet (mAndV (mUn (isF "int") (mVar 0)) (mNotV (mUn (isF "bool") (mVar 0))))
def m_is_integer : FM := mfOf 1 1 b_is_integer
theorem fb_is_integer {x0 : Val} {Q : RV → List Val → Prop} (h : W b_is_integer [some x0] (End [x0] Q)) : Fw m_is_integer [x0] Q := fw_body rfl h
theorem sc_is_integer : FnScope ["value"] ["value"] (defScope (top 7)) := ⟨rfl, rfl, rfl, by decide +kernel, rfl, by decide +kernel, by decide +kernel⟩
theorem pl_is_integer : Plain "is_integer" (top 7) ["value"] := fun _ _ _ _ _ _ us hl => match us, hl with | [_], _ => rfl
theorem ok_is_integer (c : Facts fa fn xf K mg base) : Fn P w K mg base 1 "is_integer" (top 7) ["value"] m_is_integer := by
  refine Fn.of c 0 0 sc_is_integer pl_is_integer fun f cdv A fr s H E pa hgu hr tx => ?_
  have hu4 := room_units' hr
  have hu5 := room_units hr
  have hN := (sc_is_integer).nd
  exact dss_one (ds_ret (de_and (de_isinst "int" (c.free 37) (c.free 36) (de_var 0)) (de_one (de_not (de_isinst "bool" (c.free 37) (c.free 33) (de_var 0))))))
def b_is_within : Ms := mRet (mAndV (mCall m_is_integer (mCons (mVar 0) (mNil))) (mChain leD leD (mVar 1) (mVar 0) (mVar 2)))
def m_is_within : FM := mfOf 3 3 b_is_within
theorem fb_is_within {x0 x1 x2 : Val} {Q : RV → List Val → Prop} (h : W b_is_within [some x0, some x1, some x2] (End [x0, x1, x2] Q)) : Fw m_is_within [x0, x1, x2] Q := fw_body rfl h
theorem sc_is_within : FnScope ["value", "least", "most"] ["value", "least", "most"] (defScope (top 8)) := ⟨rfl, rfl, rfl, by decide +kernel, rfl, by decide +kernel, by decide +kernel⟩
theorem pl_is_within : Plain "is_within" (top 8) ["value", "least", "most"] := fun _ _ _ _ _ _ us hl => match us, hl with | [_, _, _], _ => rfl
theorem ok_is_within (c : Facts fa fn xf K mg base) : Fn P w K mg base 2 "is_within" (top 8) ["value", "least", "most"] m_is_within := by
  have F_is_integer := ok_is_integer (P := P) (w := w) (base := base) c
  refine Fn.of c 1 1 sc_is_within pl_is_within fun f cdv A fr s H E pa hgu hr tx => ?_
  have hu4 := room_units' hr
  have hu5 := room_units hr
  have hN := (sc_is_within).nd
  exact dss_one (ds_ret (de_and (de_f F_is_integer hgu hr (da_cons (de_var 0) (da_nil))) (de_one (de_lele (de_var 1) (de_var 0) (de_var 2)))))
def b_is_row_value : Ms := mSeq (mIfS (mOr (mNot (mTruth (mUn (isF "tuple") (mVar 0)))) (mNot (mTruth (mChain leD leD (mC (.int 1)) (mBlt lenF (mCons (mVar 0) (mNil))) (mC (.int 6)))))) (mRet (mC (.bool false))) (mNext)) <| mRet (mBlt allF (mCons (mComp [1] (mItems (mVar 0)) (bName 1) (mYes) (mCall m_is_within (mCons (mVar 1) (mCons (mC (.int 0)) (mCons (mC (.int 60)) (mNil)))))) (mNil)))
def m_is_row_value : FM := mfOf 1 2 b_is_row_value
theorem fb_is_row_value {x0 : Val} {Q : RV → List Val → Prop} (h : W b_is_row_value [some x0, none] (End [x0] Q)) : Fw m_is_row_value [x0] Q := fw_body rfl h
theorem sc_is_row_value : FnScope ["value", "one"] ["value"] (defScope (top 13)) := ⟨rfl, rfl, rfl, by decide +kernel, rfl, by decide +kernel, by decide +kernel⟩
theorem pl_is_row_value : Plain "is_row_value" (top 13) ["value"] := fun _ _ _ _ _ _ us hl => match us, hl with | [_], _ => rfl
theorem ok_is_row_value (c : Facts fa fn xf K mg base) : Fn P w K mg base 3 "is_row_value" (top 13) ["value"] m_is_row_value := by
  have F_is_within := ok_is_within (P := P) (w := w) (base := base) c
  refine Fn.of c 3 3 sc_is_row_value pl_is_row_value fun f cdv A fr s H E pa hgu hr tx => ?_
  have hu4 := room_units' hr
  have hu5 := room_units hr
  have hN := (sc_is_row_value).nd
  exact dss_cons (ds_if ((dw_or (dt_not (dt_val (de_isinst "tuple" (c.free 37) (c.free 48) (de_var 0)))) (dw_or1 (dt_not (dt_lele (de_int) (de_len (c.free 38) (da_cons (de_var 0) (da_nil))) (de_gint (c.int 50)))))).dt) (dss_one (ds_ret (de_bl))) (dss_nil)) <| dss_one (ds_ret (de_all rfl (c.free 32) (da_cons (de_comp [("one", 1)] rfl hN (di_seq (de_var 0)) (blkOk_by (by kernel_rfl)) (fun s H C cl fp => dg_name 1 hN) (fun s H C cl fp => dts_nil) (fun s H C cl fp => de_f F_is_within hgu hr (da_cons (de_var 1) (da_cons (de_int) (da_cons (de_gint (c.int 51)) (da_nil)))))) (da_nil))))
def b_is_row : Ms := mRet (mCall m_is_row_value (mCons (mVar 0) (mNil)))
def m_is_row : FM := mfOf 1 1 b_is_row
theorem fb_is_row {x0 : Val} {Q : RV → List Val → Prop} (h : W b_is_row [some x0] (End [x0] Q)) : Fw m_is_row [x0] Q := fw_body rfl h
theorem sc_is_row : FnScope ["value"] ["value"] (defScope (top 21)) := ⟨rfl, rfl, rfl, by decide +kernel, rfl, by decide +kernel, by decide +kernel⟩
theorem pl_is_row : Plain "is_row" (top 21) ["value"] := fun _ _ _ _ _ _ us hl => match us, hl with | [_], _ => rfl
theorem ok_is_row (c : Facts fa fn xf K mg base) : Fn P w K mg base 4 "is_row" (top 21) ["value"] m_is_row := by
  have F_is_row_value := ok_is_row_value (P := P) (w := w) (base := base) c
  refine Fn.of c 11 11 sc_is_row pl_is_row fun f cdv A fr s H E pa hgu hr tx => ?_
  have hu4 := room_units' hr
  have hu5 := room_units hr
  have hN := (sc_is_row).nd
  exact dss_one (ds_ret (de_f F_is_row_value hgu hr (da_cons (de_var 0) (da_nil))))
def b_want_row : Ms := mIfS (mNot (mTruth (mCall m_is_row_value (mCons (mVar 0) (mNil))))) (mFail) (mNext)
def m_want_row : FM := mfOf 1 1 b_want_row
theorem fb_want_row {x0 : Val} {Q : RV → List Val → Prop} (h : W b_want_row [some x0] (End [x0] Q)) : Fw m_want_row [x0] Q := fw_body rfl h
theorem sc_want_row : FnScope ["row"] ["row"] (defScope (top 14)) := ⟨rfl, rfl, rfl, by decide +kernel, rfl, by decide +kernel, by decide +kernel⟩
theorem pl_want_row : Plain "want_row" (top 14) ["row"] := fun _ _ _ _ _ _ us hl => match us, hl with | [_], _ => rfl
theorem ok_want_row (c : Facts fa fn xf K mg base) : Fn P w K mg base 4 "want_row" (top 14) ["row"] m_want_row := by
  have F_is_row_value := ok_is_row_value (P := P) (w := w) (base := base) c
  refine Fn.of c 4 4 sc_want_row pl_want_row fun f cdv A fr s H E pa hgu hr tx => ?_
  have hu4 := room_units' hr
  have hu5 := room_units hr
  have hN := (sc_want_row).nd
  exact dss_one (ds_if (dt_not (dt_val (de_f F_is_row_value hgu hr (da_cons (de_var 0) (da_nil))))) (dss_one (ds_never)) (dss_nil))
def b_want_as_many : Ms := mIfS (mTruth (mBin neqD (mBlt lenF (mCons (mVar 0) (mNil))) (mBlt lenF (mCons (mVar 1) (mNil))))) (mFail) (mNext)
def m_want_as_many : FM := mfOf 2 2 b_want_as_many
theorem fb_want_as_many {x0 x1 : Val} {Q : RV → List Val → Prop} (h : W b_want_as_many [some x0, some x1] (End [x0, x1] Q)) : Fw m_want_as_many [x0, x1] Q := fw_body rfl h
theorem sc_want_as_many : FnScope ["row", "other"] ["row", "other"] (defScope (top 16)) := ⟨rfl, rfl, rfl, by decide +kernel, rfl, by decide +kernel, by decide +kernel⟩
theorem pl_want_as_many : Plain "want_as_many" (top 16) ["row", "other"] := fun _ _ _ _ _ _ us hl => match us, hl with | [_, _], _ => rfl
theorem ok_want_as_many (c : Facts fa fn xf K mg base) : Fn P w K mg base 1 "want_as_many" (top 16) ["row", "other"] m_want_as_many := by
  refine Fn.of c 6 6 sc_want_as_many pl_want_as_many fun f cdv A fr s H E pa hgu hr tx => ?_
  have hu4 := room_units' hr
  have hu5 := room_units hr
  have hN := (sc_want_as_many).nd
  exact dss_one (ds_if (dt_ne hu4 (de_len (c.free 38) (da_cons (de_var 0) (da_nil))) (de_len (c.free 38) (da_cons (de_var 1) (da_nil)))) (dss_one (ds_never)) (dss_nil))
def b_want_like : Ms := mSeq (mDrop (mCall m_want_row (mCons (mVar 0) (mNil)))) <| mSeq (mDrop (mCall m_want_row (mCons (mVar 1) (mNil)))) <| mSeq (mDrop (mCall m_want_as_many (mCons (mVar 0) (mCons (mVar 1) (mNil))))) <| mIfS (mTruth (mBin neqD (mBlt sumF (mCons (mVar 0) (mNil))) (mBlt sumF (mCons (mVar 1) (mNil))))) (mFail) (mNext)
def m_want_like : FM := mfOf 2 2 b_want_like
theorem fb_want_like {x0 x1 : Val} {Q : RV → List Val → Prop} (h : W b_want_like [some x0, some x1] (End [x0, x1] Q)) : Fw m_want_like [x0, x1] Q := fw_body rfl h
theorem sc_want_like : FnScope ["row", "other"] ["row", "other"] (defScope (top 15)) := ⟨rfl, rfl, rfl, by decide +kernel, rfl, by decide +kernel, by decide +kernel⟩
theorem pl_want_like : Plain "want_like" (top 15) ["row", "other"] := fun _ _ _ _ _ _ us hl => match us, hl with | [_, _], _ => rfl
theorem ok_want_like (c : Facts fa fn xf K mg base) : Fn P w K mg base 5 "want_like" (top 15) ["row", "other"] m_want_like := by
  have F_want_row := ok_want_row (P := P) (w := w) (base := base) c
  have F_want_as_many := ok_want_as_many (P := P) (w := w) (base := base) c
  refine Fn.of c 5 5 sc_want_like pl_want_like fun f cdv A fr s H E pa hgu hr tx => ?_
  have hu4 := room_units' hr
  have hu5 := room_units hr
  have hN := (sc_want_like).nd
  exact dss_cons (ds_expr (de_f F_want_row hgu hr (da_cons (de_var 0) (da_nil)))) <| dss_cons (ds_expr (de_f F_want_row hgu hr (da_cons (de_var 1) (da_nil)))) <| dss_cons (ds_expr (de_f F_want_as_many hgu hr (da_cons (de_var 0) (da_cons (de_var 1) (da_nil))))) <| dss_one (ds_if (dt_ne hu4 (de_sum rfl (c.free 47) (da_cons (de_var 0) (da_nil))) (de_sum rfl (c.free 47) (da_cons (de_var 1) (da_nil)))) (dss_one (ds_never)) (dss_nil))
def b_shape_of : Ms := mRet (mBlt tupleF (mCons (mUn revD2 (mBlt sortedF (mCons (mVar 0) (mNil)))) (mNil)))
def m_shape_of : FM := mfOf 1 1 b_shape_of
theorem fb_shape_of {x0 : Val} {Q : RV → List Val → Prop} (h : W b_shape_of [some x0] (End [x0] Q)) : Fw m_shape_of [x0] Q := fw_body rfl h
theorem sc_shape_of : FnScope ["row"] ["row"] (defScope (top 17)) := ⟨rfl, rfl, rfl, by decide +kernel, rfl, by decide +kernel, by decide +kernel⟩
theorem pl_shape_of : Plain "shape_of" (top 17) ["row"] := fun _ _ _ _ _ _ us hl => match us, hl with | [_], _ => rfl
theorem ok_shape_of (c : Facts fa fn xf K mg base) : Fn P w K mg base 1 "shape_of" (top 17) ["row"] m_shape_of := by
  refine Fn.of c 7 7 sc_shape_of pl_shape_of fun f cdv A fr s H E pa hgu hr tx => ?_
  have hu4 := room_units' hr
  have hu5 := room_units hr
  have hN := (sc_shape_of).nd
  exact dss_one (ds_ret (de_tuple1 (c.free 48) (da_cons (de_rev2 (de_sorted hr (c.free 45) (da_cons (de_var 0) (da_nil)))) (da_nil))))
def b_heads_of : Ms := mSeq (mPar [2, 3] (mCons (mLst (mNil)) (mCons (mC (.int 0)) (mNil)))) <| mSeq (mForS (mItems (mCall m_shape_of (mCons (mVar 0) (mNil)))) (bName 1) (mSeq (mSet 3 (mBin addD (mVar 3) (mVar 1))) <| mDrop (mMut 2 appendF (mCons (mVar 3) (mNil))))) <| mRet (mBlt tupleF (mCons (mVar 2) (mNil)))
def m_heads_of : FM := mfOf 1 4 b_heads_of
theorem fb_heads_of {x0 : Val} {Q : RV → List Val → Prop} (h : W b_heads_of [some x0, none, none, none] (End [x0] Q)) : Fw m_heads_of [x0] Q := fw_body rfl h
theorem sc_heads_of : FnScope ["row", "one", "found", "here"] ["row"] (defScope (top 18)) := ⟨rfl, rfl, rfl, by decide +kernel, rfl, by decide +kernel, by decide +kernel⟩
theorem pl_heads_of : Plain "heads_of" (top 18) ["row"] := fun _ _ _ _ _ _ us hl => match us, hl with | [_], _ => rfl
theorem ok_heads_of (c : Facts fa fn xf K mg base) : Fn P w K mg base 2 "heads_of" (top 18) ["row"] m_heads_of := by
  have F_shape_of := ok_shape_of (P := P) (w := w) (base := base) c
  refine Fn.of c 8 8 sc_heads_of pl_heads_of fun f cdv A fr s H E pa hgu hr tx => ?_
  have hu4 := room_units' hr
  have hu5 := room_units hr
  have hN := (sc_heads_of).nd
  exact dss_cons (ds_par2 2 3 rfl hN (do_cons (de_lst (da_nil)) (do_cons (de_int) (do_nil)))) <| dss_cons (ds_for .never rfl (di_seq (de_f F_shape_of hgu hr (da_cons (de_var 0) (da_nil)))) (dg_name 1 hN) (dss_cons (ds_set 3 hN (de_add (de_var 3) (de_var 1))) <| dss_one (ds_expr (de_append 2 (da_cons (de_var 3) (da_nil)))))) <| dss_one (ds_ret (de_tuple1 (c.free 48) (da_cons (de_var 2) (da_nil))))
def b_bar_of : Ms := mSeq (mSet 2 (mComp [3, 4, 5] (mEz (mCons (mCall m_heads_of (mCons (mVar 0) (mNil))) (mCons (mCall m_heads_of (mCons (mVar 1) (mNil))) (mNil)))) (bTup2 2 (bCons (bName 3) (bCons (bTup2 2 (bCons (bName 4) (bCons (bName 5) (bNil)))) (bNil)))) (mTruth (mBin gtD (mVar 4) (mVar 5))) (mBin addD (mVar 3) (mC (.int 1))))) <| mRet (mIf (mTruth (mBin neqD (mVar 2) (mLst (mNil)))) (mBin ixD (mVar 2) (mC (.int 0))) (mC .none))
def m_bar_of : FM := mfOf 2 6 b_bar_of
theorem fb_bar_of {x0 x1 : Val} {Q : RV → List Val → Prop} (h : W b_bar_of [some x0, some x1, none, none, none, none] (End [x0, x1] Q)) : Fw m_bar_of [x0, x1] Q := fw_body rfl h
theorem sc_bar_of : FnScope ["row", "other", "some", "at", "near", "far"] ["row", "other"] (defScope (top 19)) := ⟨rfl, rfl, rfl, by decide +kernel, rfl, by decide +kernel, by decide +kernel⟩
theorem pl_bar_of : Plain "bar_of" (top 19) ["row", "other"] := fun _ _ _ _ _ _ us hl => match us, hl with | [_, _], _ => rfl
theorem ok_bar_of (c : Facts fa fn xf K mg base) : Fn P w K mg base 3 "bar_of" (top 19) ["row", "other"] m_bar_of := by
  have F_heads_of := ok_heads_of (P := P) (w := w) (base := base) c
  refine Fn.of c 9 9 sc_bar_of pl_bar_of fun f cdv A fr s H E pa hgu hr tx => ?_
  have hu4 := room_units' hr
  have hu5 := room_units hr
  have hN := (sc_bar_of).nd
  exact dss_cons (ds_setComp 2 [("at", 3), ("near", 4), ("far", 5)] rfl hN (di_ez (c.free 35) (c.free 49) (da_cons (de_f F_heads_of hgu hr (da_cons (de_var 0) (da_nil))) (da_cons (de_f F_heads_of hgu hr (da_cons (de_var 1) (da_nil))) (da_nil)))) (blkOk_by (by kernel_rfl)) (fun s H C cl fp => dg_tup2 rfl (dgs_cons (dg_name 3 hN) (dgs_cons (dg_tup2 rfl (dgs_cons (dg_name 4 hN) (dgs_cons (dg_name 5 hN) (dgs_nil)))) (dgs_nil)))) (fun s H C cl fp => dts_one (dt_gt (de_var 4) (de_var 5))) (fun s H C cl fp => de_add (de_var 3) (de_int))) <| dss_one (ds_ret (de_if (dt_ne hu4 (de_var 2) (de_lst (da_nil))) (de_ix (de_var 2) (de_int)) (de_non)))
def b_richest : Ms := mSeq (mSet 2 (mFallR 0 (mBlt lenF (mCons (mVar 0) (mNil))))) <| mRet (mBlt tupleF (mCons (mBlt sortedF (mCons (mSlice (mVar 2) none (some (mVar 1))) (mNil))) (mNil)))
def m_richest : FM := mfOf 2 3 b_richest
theorem fb_richest {x0 x1 : Val} {Q : RV → List Val → Prop} (h : W b_richest [some x0, some x1, none] (End [x0, x1] Q)) : Fw m_richest [x0, x1] Q := fw_body rfl h
theorem sc_richest : FnScope ["row", "many", "order"] ["row", "many"] (defScope (top 20)) := ⟨rfl, rfl, rfl, by decide +kernel, rfl, by decide +kernel, by decide +kernel⟩
theorem pl_richest : Plain "richest" (top 20) ["row", "many"] := fun _ _ _ _ _ _ us hl => match us, hl with | [_, _], _ => rfl
theorem ok_richest (c : Facts fa fn xf K mg base) : Fn P w K mg base 1 "richest" (top 20) ["row", "many"] m_richest := by
  refine Fn.of c 10 10 sc_richest pl_richest fun f cdv A fr s H E pa hgu hr tx => ?_
  have hu4 := room_units' hr
  have hu5 := room_units hr
  have hN := (sc_richest).nd
  exact dss_cons (ds_set 2 hN (de_fallR 0 tx hr (c.free 45) (c.free 42) (de_len (c.free 38) (da_cons (de_var 0) (da_nil))))) <| dss_one (ds_ret (de_tuple1 (c.free 48) (da_cons (de_sorted hr (c.free 45) (da_cons (de_slice (ml := none) (mh := (some (mVar 1))) (de_var 2) do1_none (do1_some (de_var 1))) (da_nil))) (da_nil))))
def b_evener_paper : Ms := mSeq (mDrop (mCall m_want_like (mCons (mVar 0) (mCons (mVar 1) (mNil))))) <| mSeq (mSet 2 (mCall m_bar_of (mCons (mVar 0) (mCons (mVar 1) (mNil))))) <| mSeq (mIfS (mTruth (mUn (isN1 id) (mVar 2))) (mRet (mTup (mCons (mC (.str "heads")) (mCons (mCall m_heads_of (mCons (mVar 0) (mNil))) (mCons (mCall m_heads_of (mCons (mVar 1) (mNil))) (mNil)))))) (mNext)) <| mRet (mTup (mCons (mC (.str "sides")) (mCons (mCall m_richest (mCons (mVar 0) (mCons (mVar 2) (mNil)))) (mNil))))
def m_evener_paper : FM := mfOf 2 3 b_evener_paper
theorem fb_evener_paper {x0 x1 : Val} {Q : RV → List Val → Prop} (h : W b_evener_paper [some x0, some x1, none] (End [x0, x1] Q)) : Fw m_evener_paper [x0, x1] Q := fw_body rfl h
theorem sc_evener_paper : FnScope ["row", "other", "bar"] ["row", "other"] (defScope (top 22)) := ⟨rfl, rfl, rfl, by decide +kernel, rfl, by decide +kernel, by decide +kernel⟩
theorem pl_evener_paper : Plain "evener_paper" (top 22) ["row", "other"] := fun _ _ _ _ _ _ us hl => match us, hl with | [_, _], _ => rfl
theorem ok_evener_paper (c : Facts fa fn xf K mg base) : Fn P w K mg base 6 "evener_paper" (top 22) ["row", "other"] m_evener_paper := by
  have F_want_like := ok_want_like (P := P) (w := w) (base := base) c
  have F_bar_of := ok_bar_of (P := P) (w := w) (base := base) c
  have F_heads_of := ok_heads_of (P := P) (w := w) (base := base) c
  have F_richest := ok_richest (P := P) (w := w) (base := base) c
  refine Fn.of c 12 12 sc_evener_paper pl_evener_paper fun f cdv A fr s H E pa hgu hr tx => ?_
  have hu4 := room_units' hr
  have hu5 := room_units hr
  have hN := (sc_evener_paper).nd
  exact dss_cons (ds_expr (de_f F_want_like hgu hr (da_cons (de_var 0) (da_cons (de_var 1) (da_nil))))) <| dss_cons (ds_set 2 hN (de_f F_bar_of hgu hr (da_cons (de_var 0) (da_cons (de_var 1) (da_nil))))) <| dss_cons (ds_if (dt_isN (de_var 2)) (dss_one (ds_ret (de_tup (da_cons (de_str) (da_cons (de_f F_heads_of hgu hr (da_cons (de_var 0) (da_nil))) (da_cons (de_f F_heads_of hgu hr (da_cons (de_var 1) (da_nil))) (da_nil))))))) (dss_nil)) <| dss_one (ds_ret (de_tup (da_cons (de_str) (da_cons (de_f F_richest hgu hr (da_cons (de_var 0) (da_cons (de_var 2) (da_nil)))) (da_nil)))))
def b__law_heads : Ms := mRet (mBlt tupleF (mCons (mComp [1] (mRange1 (mCons (mBlt lenF (mCons (mVar 0) (mNil))) (mNil))) (bName 1) (mYes) (mBlt sumF (mCons (mSlice (mUn revD2 (mBlt sortedF (mCons (mVar 0) (mNil)))) none (some (mBin addD (mVar 1) (mC (.int 1))))) (mNil)))) (mNil)))
def m__law_heads : FM := mfOf 1 2 b__law_heads
theorem fb__law_heads {x0 : Val} {Q : RV → List Val → Prop} (h : W b__law_heads [some x0, none] (End [x0] Q)) : Fw m__law_heads [x0] Q := fw_body rfl h
theorem sc__law_heads : FnScope ["row", "at"] ["row"] (defScope (top 34)) := ⟨rfl, rfl, rfl, by decide +kernel, rfl, by decide +kernel, by decide +kernel⟩
theorem pl__law_heads : Plain "_law_heads" (top 34) ["row"] := fun _ _ _ _ _ _ us hl => match us, hl with | [_], _ => rfl
theorem ok__law_heads (c : Facts fa fn xf K mg base) : Fn P w K mg base 1 "_law_heads" (top 34) ["row"] m__law_heads := by
  refine Fn.of c 22 22 sc__law_heads pl__law_heads fun f cdv A fr s H E pa hgu hr tx => ?_
  have hu4 := room_units' hr
  have hu5 := room_units hr
  have hN := (sc__law_heads).nd
  exact dss_one (ds_ret (de_tuple1 (c.free 48) (da_cons (de_comp [("at", 1)] rfl hN (di_range1 (c.free 42) (da_cons (de_len (c.free 38) (da_cons (de_var 0) (da_nil))) (da_nil))) (blkOk_by (by kernel_rfl)) (fun s H C cl fp => dg_name 1 hN) (fun s H C cl fp => dts_nil) (fun s H C cl fp => de_sum rfl (c.free 47) (da_cons (de_slice (ml := none) (mh := (some (mBin addD (mVar 1) (mC (.int 1))))) (de_rev2 (de_sorted hr (c.free 45) (da_cons (de_var 0) (da_nil)))) do1_none (do1_some (de_add (de_var 1) (de_int)))) (da_nil)))) (da_nil))))
def b__law_is_evener : Ms := mRet (mBlt allF (mCons (mComp [2, 3] (mZip (mCons (mCall m__law_heads (mCons (mVar 0) (mNil))) (mCons (mCall m__law_heads (mCons (mVar 1) (mNil))) (mNil)))) (bTup2 2 (bCons (bName 2) (bCons (bName 3) (bNil)))) (mYes) (mBin leD (mVar 2) (mVar 3))) (mNil)))
def m__law_is_evener : FM := mfOf 2 4 b__law_is_evener
theorem fb__law_is_evener {x0 x1 : Val} {Q : RV → List Val → Prop} (h : W b__law_is_evener [some x0, some x1, none, none] (End [x0, x1] Q)) : Fw m__law_is_evener [x0, x1] Q := fw_body rfl h
theorem sc__law_is_evener : FnScope ["row", "other", "near", "far"] ["row", "other"] (defScope (top 35)) := ⟨rfl, rfl, rfl, by decide +kernel, rfl, by decide +kernel, by decide +kernel⟩
theorem pl__law_is_evener : Plain "_law_is_evener" (top 35) ["row", "other"] := fun _ _ _ _ _ _ us hl => match us, hl with | [_, _], _ => rfl
theorem ok__law_is_evener (c : Facts fa fn xf K mg base) : Fn P w K mg base 2 "_law_is_evener" (top 35) ["row", "other"] m__law_is_evener := by
  have F__law_heads := ok__law_heads (P := P) (w := w) (base := base) c
  refine Fn.of c 23 23 sc__law_is_evener pl__law_is_evener fun f cdv A fr s H E pa hgu hr tx => ?_
  have hu4 := room_units' hr
  have hu5 := room_units hr
  have hN := (sc__law_is_evener).nd
  exact dss_one (ds_ret (de_all rfl (c.free 32) (da_cons (de_comp [("near", 2), ("far", 3)] rfl hN (di_zip (c.free 49) (da_cons (de_f F__law_heads hgu hr (da_cons (de_var 0) (da_nil))) (da_cons (de_f F__law_heads hgu hr (da_cons (de_var 1) (da_nil))) (da_nil)))) (blkOk_by (by kernel_rfl)) (fun s H C cl fp => dg_tup2 rfl (dgs_cons (dg_name 2 hN) (dgs_cons (dg_name 3 hN) (dgs_nil)))) (fun s H C cl fp => dts_nil) (fun s H C cl fp => de_le (de_var 2) (de_var 3))) (da_nil))))
def b__law_are_sides : Ms := mRet (mBlt allF (mCons (mComp [2] (mItems (mVar 0)) (bName 2) (mYes) (mAndV (mUn (isF "int") (mVar 2)) (mAndV (mNotV (mUn (isF "bool") (mVar 2))) (mChain leD ltD (mC (.int 0)) (mVar 2) (mVar 1))))) (mNil)))
def m__law_are_sides : FM := mfOf 2 3 b__law_are_sides
theorem fb__law_are_sides {x0 x1 : Val} {Q : RV → List Val → Prop} (h : W b__law_are_sides [some x0, some x1, none] (End [x0, x1] Q)) : Fw m__law_are_sides [x0, x1] Q := fw_body rfl h
theorem sc__law_are_sides : FnScope ["value", "sides", "one"] ["value", "sides"] (defScope (top 36)) := ⟨rfl, rfl, rfl, by decide +kernel, rfl, by decide +kernel, by decide +kernel⟩
theorem pl__law_are_sides : Plain "_law_are_sides" (top 36) ["value", "sides"] := fun _ _ _ _ _ _ us hl => match us, hl with | [_, _], _ => rfl
theorem ok__law_are_sides (c : Facts fa fn xf K mg base) : Fn P w K mg base 1 "_law_are_sides" (top 36) ["value", "sides"] m__law_are_sides := by
  refine Fn.of c 24 24 sc__law_are_sides pl__law_are_sides fun f cdv A fr s H E pa hgu hr tx => ?_
  have hu4 := room_units' hr
  have hu5 := room_units hr
  have hN := (sc__law_are_sides).nd
  exact dss_one (ds_ret (de_all rfl (c.free 32) (da_cons (de_comp [("one", 2)] rfl hN (di_seq (de_var 0)) (blkOk_by (by kernel_rfl)) (fun s H C cl fp => dg_name 2 hN) (fun s H C cl fp => dts_nil) (fun s H C cl fp => de_and (de_isinst "int" (c.free 37) (c.free 36) (de_var 2)) (de_and (de_not (de_isinst "bool" (c.free 37) (c.free 33) (de_var 2))) (de_one (de_lelt (de_int) (de_var 2) (de_var 1)))))) (da_nil))))
def b__law_is_paper : Ms := mSeq (mIfS (mOr (mNot (mTruth (mUn (isF "tuple") (mVar 2)))) (mOr (mTruth (mBin ltD (mBlt lenF (mCons (mVar 2) (mNil))) (mC (.int 2)))) (mOr (mNot (mTruth (mUn (isF "str") (mBin ixD (mVar 2) (mC (.int 0)))))) (mNot (mTruth (mBlt allF (mCons (mComp [4] (mItems (mSlice (mVar 2) (some (mC (.int 1))) none)) (bName 4) (mYes) (mUn (isF "tuple") (mVar 4))) (mNil)))))))) (mRet (mC (.bool false))) (mNext)) <| mSeq (mIfS (mNot (mTruth (mBlt allF (mCons (mComp [3] (mItems (mSlice (mVar 2) (some (mC (.int 1))) none)) (bName 3) (mYes) (mBlt allF (mCons (mComp [4] (mItems (mVar 3)) (bName 4) (mYes) (mAndV (mUn (isF "int") (mVar 4)) (mNotV (mUn (isF "bool") (mVar 4))))) (mNil)))) (mNil))))) (mRet (mC (.bool false))) (mNext)) <| mSeq (mIfS (mTruth (mBin equD (mBin ixD (mVar 2) (mC (.int 0))) (mC (.str "heads")))) (mRet (mAndV (mBin equD (mSlice (mVar 2) (some (mC (.int 1))) none) (mTup (mCons (mCall m__law_heads (mCons (mVar 0) (mNil))) (mCons (mCall m__law_heads (mCons (mVar 1) (mNil))) (mNil))))) (mCall m__law_is_evener (mCons (mVar 0) (mCons (mVar 1) (mNil)))))) (mNext)) <| mSeq (mIfS (mOr (mTruth (mBin neqD (mBin ixD (mVar 2) (mC (.int 0))) (mC (.str "sides")))) (mOr (mTruth (mBin neqD (mBlt lenF (mCons (mVar 2) (mNil))) (mC (.int 2)))) (mOr (mTruth (mBin equE (mBin ixD (mVar 2) (mC (.int 1))) (mTup (mNil)))) (mNot (mTruth (mCall m__law_are_sides (mCons (mBin ixD (mVar 2) (mC (.int 1))) (mCons (mBlt lenF (mCons (mVar 0) (mNil))) (mNil))))))))) (mRet (mC (.bool false))) (mNext)) <| mRet (mAndV (mBin equD (mBlt listF (mCons (mBin ixD (mVar 2) (mC (.int 1))) (mNil))) (mBlt sortedSetF (mCons (mBin ixD (mVar 2) (mC (.int 1))) (mNil)))) (mBin gtD (mBlt sumF (mCons (mComp [5] (mItems (mBin ixD (mVar 2) (mC (.int 1)))) (bName 5) (mYes) (mBin ixD (mVar 0) (mVar 5))) (mNil))) (mBin ixD (mCall m__law_heads (mCons (mVar 1) (mNil))) (mBin subD (mBlt lenF (mCons (mBin ixD (mVar 2) (mC (.int 1))) (mNil))) (mC (.int 1))))))
def m__law_is_paper : FM := mfOf 3 6 b__law_is_paper
theorem fb__law_is_paper {x0 x1 x2 : Val} {Q : RV → List Val → Prop} (h : W b__law_is_paper [some x0, some x1, some x2, none, none, none] (End [x0, x1, x2] Q)) : Fw m__law_is_paper [x0, x1, x2] Q := fw_body rfl h
theorem sc__law_is_paper : FnScope ["row", "other", "value", "part", "one", "side"] ["row", "other", "value"] (defScope (top 37)) := ⟨rfl, rfl, rfl, by decide +kernel, rfl, by decide +kernel, by decide +kernel⟩
theorem pl__law_is_paper : Plain "_law_is_paper" (top 37) ["row", "other", "value"] := fun _ _ _ _ _ _ us hl => match us, hl with | [_, _, _], _ => rfl
theorem ok__law_is_paper (c : Facts fa fn xf K mg base) : Fn P w K mg base 3 "_law_is_paper" (top 37) ["row", "other", "value"] m__law_is_paper := by
  have F__law_heads := ok__law_heads (P := P) (w := w) (base := base) c
  have F__law_is_evener := ok__law_is_evener (P := P) (w := w) (base := base) c
  have F__law_are_sides := ok__law_are_sides (P := P) (w := w) (base := base) c
  refine Fn.of c 25 25 sc__law_is_paper pl__law_is_paper fun f cdv A fr s H E pa hgu hr tx => ?_
  have hu4 := room_units' hr
  have hu5 := room_units hr
  have hN := (sc__law_is_paper).nd
  exact dss_cons (ds_if ((dw_or (dt_not (dt_val (de_isinst "tuple" (c.free 37) (c.free 48) (de_var 2)))) (dw_or (dt_lt (de_len (c.free 38) (da_cons (de_var 2) (da_nil))) (de_int)) (dw_or (dt_not (dt_val (de_isinst "str" (c.free 37) (c.free 46) (de_ix (de_var 2) (de_int))))) (dw_or1 (dt_not (dt_val (de_all rfl (c.free 32) (da_cons (de_comp [("one", 4)] rfl hN (di_seq (de_slice (ml := (some (mC (.int 1)))) (mh := none) (de_var 2) (do1_some (de_int)) do1_none)) (blkOk_by (by kernel_rfl)) (fun s H C cl fp => dg_name 4 hN) (fun s H C cl fp => dts_nil) (fun s H C cl fp => de_isinst "tuple" (c.free 37) (c.free 48) (de_var 4))) (da_nil))))))))).dt) (dss_one (ds_ret (de_bl))) (dss_nil)) <| dss_cons (ds_if (dt_not (dt_val (de_all rfl (c.free 32) (da_cons (de_comp [("part", 3)] rfl hN (di_seq (de_slice (ml := (some (mC (.int 1)))) (mh := none) (de_var 2) (do1_some (de_int)) do1_none)) (blkOk_by (by kernel_rfl)) (fun s H C cl fp => dg_name 3 hN) (fun s H C cl fp => dts_nil) (fun s H C cl fp => de_all rfl (c.free 32) (da_cons (de_comp [("one", 4)] rfl hN (di_seq (de_var 3)) (blkOk_by (by kernel_rfl)) (fun s H C cl fp => dg_name 4 hN) (fun s H C cl fp => dts_nil) (fun s H C cl fp => de_and (de_isinst "int" (c.free 37) (c.free 36) (de_var 4)) (de_one (de_not (de_isinst "bool" (c.free 37) (c.free 33) (de_var 4)))))) (da_nil)))) (da_nil))))) (dss_one (ds_ret (de_bl))) (dss_nil)) <| dss_cons (ds_if (dt_eq hu4 (de_ix (de_var 2) (de_int)) (de_str)) (dss_one (ds_ret (de_and (de_eq hu4 (de_slice (ml := (some (mC (.int 1)))) (mh := none) (de_var 2) (do1_some (de_int)) do1_none) (de_tup (da_cons (de_f F__law_heads hgu hr (da_cons (de_var 0) (da_nil))) (da_cons (de_f F__law_heads hgu hr (da_cons (de_var 1) (da_nil))) (da_nil))))) (de_one (de_f F__law_is_evener hgu hr (da_cons (de_var 0) (da_cons (de_var 1) (da_nil)))))))) (dss_nil)) <| dss_cons (ds_if ((dw_or (dt_ne hu4 (de_ix (de_var 2) (de_int)) (de_str)) (dw_or (dt_ne hu4 (de_len (c.free 38) (da_cons (de_var 2) (da_nil))) (de_int)) (dw_or (dt_eqE hu4 (de_ix (de_var 2) (de_int)) (de_tup (da_nil))) (dw_or1 (dt_not (dt_val (de_f F__law_are_sides hgu hr (da_cons (de_ix (de_var 2) (de_int)) (da_cons (de_len (c.free 38) (da_cons (de_var 0) (da_nil))) (da_nil)))))))))).dt) (dss_one (ds_ret (de_bl))) (dss_nil)) <| dss_one (ds_ret (de_and (de_eq hu4 (de_list1 (c.free 39) (da_cons (de_ix (de_var 2) (de_int)) (da_nil))) (de_sortedSet hr rfl (c.free 45) (c.free 44) (da_cons (de_ix (de_var 2) (de_int)) (da_nil)))) (de_one (de_gt (de_sum rfl (c.free 47) (da_cons (de_comp [("side", 5)] rfl hN (di_seq (de_ix (de_var 2) (de_int))) (blkOk_by (by kernel_rfl)) (fun s H C cl fp => dg_name 5 hN) (fun s H C cl fp => dts_nil) (fun s H C cl fp => de_ix (de_var 0) (de_var 5))) (da_nil))) (de_ix (de_f F__law_heads hgu hr (da_cons (de_var 1) (da_nil))) (de_sub (de_len (c.free 38) (da_cons (de_ix (de_var 2) (de_int)) (da_nil))) (de_int)))))))
def b_is_tuple : Ms := mRet (mAndV (mUn (isF "tuple") (mVar 0)) (mBin equD (mBlt lenF (mCons (mVar 0) (mNil))) (mVar 1)))
def m_is_tuple : FM := mfOf 2 2 b_is_tuple
theorem fb_is_tuple {x0 x1 : Val} {Q : RV → List Val → Prop} (h : W b_is_tuple [some x0, some x1] (End [x0, x1] Q)) : Fw m_is_tuple [x0, x1] Q := fw_body rfl h
theorem sc_is_tuple : FnScope ["value", "many"] ["value", "many"] (defScope (top 9)) := ⟨rfl, rfl, rfl, by decide +kernel, rfl, by decide +kernel, by decide +kernel⟩
theorem pl_is_tuple : Plain "is_tuple" (top 9) ["value", "many"] := fun _ _ _ _ _ _ us hl => match us, hl with | [_, _], _ => rfl
theorem ok_is_tuple (c : Facts fa fn xf K mg base) : Fn P w K mg base 1 "is_tuple" (top 9) ["value", "many"] m_is_tuple := by
  refine Fn.of c 2 2 sc_is_tuple pl_is_tuple fun f cdv A fr s H E pa hgu hr tx => ?_
  have hu4 := room_units' hr
  have hu5 := room_units hr
  have hN := (sc_is_tuple).nd
  exact dss_one (ds_ret (de_and (de_isinst "tuple" (c.free 37) (c.free 48) (de_var 0)) (de_one (de_eq hu4 (de_len (c.free 38) (da_cons (de_var 0) (da_nil))) (de_var 1)))))
def b_are_heads : Ms := mRet (mAndV (mCall m_is_tuple (mCons (mVar 1) (mCons (mBlt lenF (mCons (mVar 0) (mNil))) (mNil)))) (mAndV (mBlt allF (mCons (mComp [2] (mItems (mVar 1)) (bName 2) (mYes) (mCall m_is_within (mCons (mVar 2) (mCons (mC (.int 0)) (mCons (mC (.int 400)) (mNil)))))) (mNil))) (mBin equD (mVar 1) (mCall m_heads_of (mCons (mVar 0) (mNil))))))
def m_are_heads : FM := mfOf 2 3 b_are_heads
theorem fb_are_heads {x0 x1 : Val} {Q : RV → List Val → Prop} (h : W b_are_heads [some x0, some x1, none] (End [x0, x1] Q)) : Fw m_are_heads [x0, x1] Q := fw_body rfl h
theorem sc_are_heads : FnScope ["row", "value", "one"] ["row", "value"] (defScope (top 24)) := ⟨rfl, rfl, rfl, by decide +kernel, rfl, by decide +kernel, by decide +kernel⟩
theorem pl_are_heads : Plain "are_heads" (top 24) ["row", "value"] := fun _ _ _ _ _ _ us hl => match us, hl with | [_, _], _ => rfl
theorem ok_are_heads (c : Facts fa fn xf K mg base) : Fn P w K mg base 3 "are_heads" (top 24) ["row", "value"] m_are_heads := by
  have F_is_tuple := ok_is_tuple (P := P) (w := w) (base := base) c
  have F_is_within := ok_is_within (P := P) (w := w) (base := base) c
  have F_heads_of := ok_heads_of (P := P) (w := w) (base := base) c
  refine Fn.of c 14 14 sc_are_heads pl_are_heads fun f cdv A fr s H E pa hgu hr tx => ?_
  have hu4 := room_units' hr
  have hu5 := room_units hr
  have hN := (sc_are_heads).nd
  exact dss_one (ds_ret (de_and (de_f F_is_tuple hgu hr (da_cons (de_var 1) (da_cons (de_len (c.free 38) (da_cons (de_var 0) (da_nil))) (da_nil)))) (de_and (de_all rfl (c.free 32) (da_cons (de_comp [("one", 2)] rfl hN (di_seq (de_var 1)) (blkOk_by (by kernel_rfl)) (fun s H C cl fp => dg_name 2 hN) (fun s H C cl fp => dts_nil) (fun s H C cl fp => de_f F_is_within hgu hr (da_cons (de_var 2) (da_cons (de_int) (da_cons (de_int) (da_nil)))))) (da_nil))) (de_one (de_eq hu4 (de_var 1) (de_f F_heads_of hgu hr (da_cons (de_var 0) (da_nil))))))))
def b_is_evener_paper : Ms := mSeq (mDrop (mCall m_want_like (mCons (mVar 0) (mCons (mVar 1) (mNil))))) <| mSeq (mIfS (mOr (mNot (mTruth (mUn (isF "tuple") (mVar 2)))) (mOr (mTruth (mBin ltD (mBlt lenF (mCons (mVar 2) (mNil))) (mC (.int 2)))) (mNot (mTruth (mUn (isF "str") (mBin ixD (mVar 2) (mC (.int 0)))))))) (mRet (mC (.bool false))) (mNext)) <| mSeq (mIfS (mTruth (mBin equD (mBin ixD (mVar 2) (mC (.int 0))) (mC (.str "heads")))) (mSeq (mIfS (mOr (mTruth (mBin neqD (mBlt lenF (mCons (mVar 2) (mNil))) (mC (.int 3)))) (mOr (mNot (mTruth (mCall m_are_heads (mCons (mVar 0) (mCons (mBin ixD (mVar 2) (mC (.int 1))) (mNil)))))) (mNot (mTruth (mCall m_are_heads (mCons (mVar 1) (mCons (mBin ixD (mVar 2) (mC (.int 2))) (mNil)))))))) (mRet (mC (.bool false))) (mNext)) <| mRet (mBlt allF (mCons (mComp [3, 4] (mZip (mCons (mBin ixD (mVar 2) (mC (.int 1))) (mCons (mBin ixD (mVar 2) (mC (.int 2))) (mNil)))) (bTup2 2 (bCons (bName 3) (bCons (bName 4) (bNil)))) (mYes) (mBin leD (mVar 3) (mVar 4))) (mNil)))) (mNext)) <| mSeq (mIfS (mOr (mTruth (mBin neqD (mBin ixD (mVar 2) (mC (.int 0))) (mC (.str "sides")))) (mOr (mTruth (mBin neqD (mBlt lenF (mCons (mVar 2) (mNil))) (mC (.int 2)))) (mOr (mNot (mTruth (mUn (isF "tuple") (mBin ixD (mVar 2) (mC (.int 1)))))) (mTruth (mBin equE (mBin ixD (mVar 2) (mC (.int 1))) (mTup (mNil))))))) (mRet (mC (.bool false))) (mNext)) <| mSeq (mIfS (mOr (mNot (mTruth (mBlt allF (mCons (mComp [5] (mItems (mBin ixD (mVar 2) (mC (.int 1)))) (bName 5) (mYes) (mCall m_is_within (mCons (mVar 5) (mCons (mC (.int 0)) (mCons (mBin subD (mBlt lenF (mCons (mVar 0) (mNil))) (mC (.int 1))) (mNil)))))) (mNil))))) (mTruth (mBin neqD (mBlt listF (mCons (mBin ixD (mVar 2) (mC (.int 1))) (mNil))) (mBlt sortedSetF (mCons (mBin ixD (mVar 2) (mC (.int 1))) (mNil)))))) (mRet (mC (.bool false))) (mNext)) <| mRet (mBin gtD (mBlt sumF (mCons (mComp [5] (mItems (mBin ixD (mVar 2) (mC (.int 1)))) (bName 5) (mYes) (mBin ixD (mVar 0) (mVar 5))) (mNil))) (mBin ixD (mCall m_heads_of (mCons (mVar 1) (mNil))) (mBin subD (mBlt lenF (mCons (mBin ixD (mVar 2) (mC (.int 1))) (mNil))) (mC (.int 1)))))
def m_is_evener_paper : FM := mfOf 3 6 b_is_evener_paper
theorem fb_is_evener_paper {x0 x1 x2 : Val} {Q : RV → List Val → Prop} (h : W b_is_evener_paper [some x0, some x1, some x2, none, none, none] (End [x0, x1, x2] Q)) : Fw m_is_evener_paper [x0, x1, x2] Q := fw_body rfl h
theorem sc_is_evener_paper : FnScope ["row", "other", "value", "near", "far", "side"] ["row", "other", "value"] (defScope (top 23)) := ⟨rfl, rfl, rfl, by decide +kernel, rfl, by decide +kernel, by decide +kernel⟩
theorem pl_is_evener_paper : Plain "is_evener_paper" (top 23) ["row", "other", "value"] := fun _ _ _ _ _ _ us hl => match us, hl with | [_, _, _], _ => rfl
theorem ok_is_evener_paper (c : Facts fa fn xf K mg base) : Fn P w K mg base 6 "is_evener_paper" (top 23) ["row", "other", "value"] m_is_evener_paper := by
  have F_want_like := ok_want_like (P := P) (w := w) (base := base) c
  have F_are_heads := ok_are_heads (P := P) (w := w) (base := base) c
  have F_is_within := ok_is_within (P := P) (w := w) (base := base) c
  have F_heads_of := ok_heads_of (P := P) (w := w) (base := base) c
  refine Fn.of c 13 13 sc_is_evener_paper pl_is_evener_paper fun f cdv A fr s H E pa hgu hr tx => ?_
  have hu4 := room_units' hr
  have hu5 := room_units hr
  have hN := (sc_is_evener_paper).nd
  exact dss_cons (ds_expr (de_f F_want_like hgu hr (da_cons (de_var 0) (da_cons (de_var 1) (da_nil))))) <| dss_cons (ds_if ((dw_or (dt_not (dt_val (de_isinst "tuple" (c.free 37) (c.free 48) (de_var 2)))) (dw_or (dt_lt (de_len (c.free 38) (da_cons (de_var 2) (da_nil))) (de_int)) (dw_or1 (dt_not (dt_val (de_isinst "str" (c.free 37) (c.free 46) (de_ix (de_var 2) (de_int)))))))).dt) (dss_one (ds_ret (de_bl))) (dss_nil)) <| dss_cons (ds_if (dt_eq hu4 (de_ix (de_var 2) (de_int)) (de_str)) (dss_cons (ds_if ((dw_or (dt_ne hu4 (de_len (c.free 38) (da_cons (de_var 2) (da_nil))) (de_int)) (dw_or (dt_not (dt_val (de_f F_are_heads hgu hr (da_cons (de_var 0) (da_cons (de_ix (de_var 2) (de_int)) (da_nil)))))) (dw_or1 (dt_not (dt_val (de_f F_are_heads hgu hr (da_cons (de_var 1) (da_cons (de_ix (de_var 2) (de_int)) (da_nil))))))))).dt) (dss_one (ds_ret (de_bl))) (dss_nil)) <| dss_one (ds_ret (de_all rfl (c.free 32) (da_cons (de_comp [("near", 3), ("far", 4)] rfl hN (di_zip (c.free 49) (da_cons (de_ix (de_var 2) (de_int)) (da_cons (de_ix (de_var 2) (de_int)) (da_nil)))) (blkOk_by (by kernel_rfl)) (fun s H C cl fp => dg_tup2 rfl (dgs_cons (dg_name 3 hN) (dgs_cons (dg_name 4 hN) (dgs_nil)))) (fun s H C cl fp => dts_nil) (fun s H C cl fp => de_le (de_var 3) (de_var 4))) (da_nil))))) (dss_nil)) <| dss_cons (ds_if ((dw_or (dt_ne hu4 (de_ix (de_var 2) (de_int)) (de_str)) (dw_or (dt_ne hu4 (de_len (c.free 38) (da_cons (de_var 2) (da_nil))) (de_int)) (dw_or (dt_not (dt_val (de_isinst "tuple" (c.free 37) (c.free 48) (de_ix (de_var 2) (de_int))))) (dw_or1 (dt_eqE hu4 (de_ix (de_var 2) (de_int)) (de_tup (da_nil))))))).dt) (dss_one (ds_ret (de_bl))) (dss_nil)) <| dss_cons (ds_if ((dw_or (dt_not (dt_val (de_all rfl (c.free 32) (da_cons (de_comp [("side", 5)] rfl hN (di_seq (de_ix (de_var 2) (de_int))) (blkOk_by (by kernel_rfl)) (fun s H C cl fp => dg_name 5 hN) (fun s H C cl fp => dts_nil) (fun s H C cl fp => de_f F_is_within hgu hr (da_cons (de_var 5) (da_cons (de_int) (da_cons (de_sub (de_len (c.free 38) (da_cons (de_var 0) (da_nil))) (de_int)) (da_nil)))))) (da_nil))))) (dw_or1 (dt_ne hu4 (de_list1 (c.free 39) (da_cons (de_ix (de_var 2) (de_int)) (da_nil))) (de_sortedSet hr rfl (c.free 45) (c.free 44) (da_cons (de_ix (de_var 2) (de_int)) (da_nil)))))).dt) (dss_one (ds_ret (de_bl))) (dss_nil)) <| dss_one (ds_ret (de_gt (de_sum rfl (c.free 47) (da_cons (de_comp [("side", 5)] rfl hN (di_seq (de_ix (de_var 2) (de_int))) (blkOk_by (by kernel_rfl)) (fun s H C cl fp => dg_name 5 hN) (fun s H C cl fp => dts_nil) (fun s H C cl fp => de_ix (de_var 0) (de_var 5))) (da_nil))) (de_ix (de_f F_heads_of hgu hr (da_cons (de_var 1) (da_nil))) (de_sub (de_len (c.free 38) (da_cons (de_ix (de_var 2) (de_int)) (da_nil))) (de_int)))))
def b__law_shape : Ms := mRet (mBlt tupleF (mCons (mUn revD2 (mBlt sortedF (mCons (mVar 0) (mNil)))) (mNil)))
def m__law_shape : FM := mfOf 1 1 b__law_shape
theorem fb__law_shape {x0 : Val} {Q : RV → List Val → Prop} (h : W b__law_shape [some x0] (End [x0] Q)) : Fw m__law_shape [x0] Q := fw_body rfl h
theorem sc__law_shape : FnScope ["row"] ["row"] (defScope (top 33)) := ⟨rfl, rfl, rfl, by decide +kernel, rfl, by decide +kernel, by decide +kernel⟩
theorem pl__law_shape : Plain "_law_shape" (top 33) ["row"] := fun _ _ _ _ _ _ us hl => match us, hl with | [_], _ => rfl
theorem ok__law_shape (c : Facts fa fn xf K mg base) : Fn P w K mg base 1 "_law_shape" (top 33) ["row"] m__law_shape := by
  refine Fn.of c 21 21 sc__law_shape pl__law_shape fun f cdv A fr s H E pa hgu hr tx => ?_
  have hu4 := room_units' hr
  have hu5 := room_units hr
  have hN := (sc__law_shape).nd
  exact dss_one (ds_ret (de_tuple1 (c.free 48) (da_cons (de_rev2 (de_sorted hr (c.free 45) (da_cons (de_var 0) (da_nil)))) (da_nil))))
def b__law_is_step : Ms := mSeq (mIfS (mOr (mTruth (mBin neqD (mBlt listF (mCons (mVar 1) (mNil))) (mUn revD2 (mBlt sortedF (mCons (mVar 1) (mNil)))))) (mTruth (mBin ltD (mBlt minF (mCons (mVar 1) (mNil))) (mC (.int 0))))) (mRet (mC (.bool false))) (mNext)) <| mSeq (mSet 2 (mComp [3, 4] (mZip (mCons (mVar 0) (mCons (mVar 1) (mNil)))) (bTup2 2 (bCons (bName 3) (bCons (bName 4) (bNil)))) (mYes) (mBin subD (mVar 3) (mVar 4)))) <| mSeq (mIfS (mOr (mTruth (mBin neqD (mBlt sortedF (mCons (mVar 2) (mNil))) (mBin addD (mBin addD (mLst (mCons (mUn negD (mC (.int 1))) (mNil))) (mBin mulD2 (mLst (mCons (mC (.int 0)) (mNil))) (mBin subD (mBlt lenF (mCons (mVar 0) (mNil))) (mC (.int 2))))) (mLst (mCons (mC (.int 1)) (mNil)))))) (mTruth (mBin gtD (mRead indexF (mVar 2) (mCons (mC (.int 1)) (mNil))) (mRead indexF (mVar 2) (mCons (mUn negD (mC (.int 1))) (mNil)))))) (mRet (mC (.bool false))) (mNext)) <| mSeq (mPar [3, 4] (mCons (mRead indexF (mVar 2) (mCons (mC (.int 1)) (mNil))) (mCons (mRead indexF (mVar 2) (mCons (mUn negD (mC (.int 1))) (mNil))) (mNil)))) <| mRet (mOrV (mBin equD (mVar 4) (mBin addD (mVar 3) (mC (.int 1)))) (mBin equD (mBin subD (mBin ixD (mVar 0) (mVar 3)) (mBin ixD (mVar 0) (mVar 4))) (mC (.int 2))))
def m__law_is_step : FM := mfOf 2 5 b__law_is_step
theorem fb__law_is_step {x0 x1 : Val} {Q : RV → List Val → Prop} (h : W b__law_is_step [some x0, some x1, none, none, none] (End [x0, x1] Q)) : Fw m__law_is_step [x0, x1] Q := fw_body rfl h
theorem sc__law_is_step : FnScope ["near", "far", "moved", "one", "late"] ["near", "far"] (defScope (top 38)) := ⟨rfl, rfl, rfl, by decide +kernel, rfl, by decide +kernel, by decide +kernel⟩
theorem pl__law_is_step : Plain "_law_is_step" (top 38) ["near", "far"] := fun _ _ _ _ _ _ us hl => match us, hl with | [_, _], _ => rfl
theorem ok__law_is_step (c : Facts fa fn xf K mg base) : Fn P w K mg base 1 "_law_is_step" (top 38) ["near", "far"] m__law_is_step := by
  refine Fn.of c 26 26 sc__law_is_step pl__law_is_step fun f cdv A fr s H E pa hgu hr tx => ?_
  have hu4 := room_units' hr
  have hu5 := room_units hr
  have hN := (sc__law_is_step).nd
  exact dss_cons (ds_if ((dw_or (dt_ne hu4 (de_list1 (c.free 39) (da_cons (de_var 1) (da_nil))) (de_rev2 (de_sorted hr (c.free 45) (da_cons (de_var 1) (da_nil))))) (dw_or1 (dt_lt (de_min1 rfl (c.free 41) (da_cons (de_var 1) (da_nil))) (de_int)))).dt) (dss_one (ds_ret (de_bl))) (dss_nil)) <| dss_cons (ds_setComp 2 [("one", 3), ("late", 4)] rfl hN (di_zip (c.free 49) (da_cons (de_var 0) (da_cons (de_var 1) (da_nil)))) (blkOk_by (by kernel_rfl)) (fun s H C cl fp => dg_tup2 rfl (dgs_cons (dg_name 3 hN) (dgs_cons (dg_name 4 hN) (dgs_nil)))) (fun s H C cl fp => dts_nil) (fun s H C cl fp => de_sub (de_var 3) (de_var 4))) <| dss_cons (ds_if ((dw_or (dt_ne hu4 (de_sorted hr (c.free 45) (da_cons (de_var 2) (da_nil))) (de_add (de_add (de_lst (da_cons (de_neg (de_int)) (da_nil))) (de_mul2 (de_lst (da_cons (de_int) (da_nil))) (de_sub (de_len (c.free 38) (da_cons (de_var 0) (da_nil))) (de_int)))) (de_lst (da_cons (de_int) (da_nil))))) (dw_or1 (dt_gt (de_index (de_var 2) (da_cons (de_int) (da_nil))) (de_index (de_var 2) (da_cons (de_neg (de_int)) (da_nil)))))).dt) (dss_one (ds_ret (de_bl))) (dss_nil)) <| dss_cons (ds_par2 3 4 rfl hN (do_cons (de_index (de_var 2) (da_cons (de_int) (da_nil))) (do_cons (de_index (de_var 2) (da_cons (de_neg (de_int)) (da_nil))) (do_nil)))) <| dss_one (ds_ret (de_or (de_eq hu4 (de_var 4) (de_add (de_var 3) (de_int))) (de_one (de_eq hu4 (de_sub (de_ix (de_var 0) (de_var 3)) (de_ix (de_var 0) (de_var 4))) (de_int)))))
def b__law_is_chain : Ms := mSeq (mIfS (mOr (mNot (mTruth (mUn (isF2 "list" "tuple") (mVar 2)))) (mOr (mTruth (mBin equD (mBlt lenF (mCons (mVar 2) (mNil))) (mC (.int 0)))) (mNot (mTruth (mBlt allF (mCons (mComp [6] (mItems (mVar 2)) (bName 6) (mYes) (mAndV (mUn (isF "tuple") (mVar 6)) (mBin equD (mBlt lenF (mCons (mVar 6) (mNil))) (mBlt lenF (mCons (mVar 0) (mNil)))))) (mNil))))))) (mRet (mC (.bool false))) (mNext)) <| mSeq (mIfS (mNot (mTruth (mBlt allF (mCons (mComp [5] (mItems (mVar 2)) (bName 5) (mYes) (mBlt allF (mCons (mComp [6] (mItems (mVar 5)) (bName 6) (mYes) (mAndV (mUn (isF "int") (mVar 6)) (mAndV (mNotV (mUn (isF "bool") (mVar 6))) (mChain leD leD (mC (.int 0)) (mVar 6) (mC (.int 60)))))) (mNil)))) (mNil))))) (mRet (mC (.bool false))) (mNext)) <| mSeq (mIfS (mOr (mTruth (mBin neqD (mBin ixD (mVar 2) (mC (.int 0))) (mCall m__law_shape (mCons (mVar 1) (mNil))))) (mTruth (mBin neqD (mBin ixD (mVar 2) (mUn negD (mC (.int 1)))) (mCall m__law_shape (mCons (mVar 0) (mNil)))))) (mRet (mC (.bool false))) (mNext)) <| mRet (mBlt allF (mCons (mComp [3, 4] (mZip (mCons (mVar 2) (mCons (mSlice (mVar 2) (some (mC (.int 1))) none) (mNil)))) (bTup2 2 (bCons (bName 3) (bCons (bName 4) (bNil)))) (mYes) (mCall m__law_is_step (mCons (mVar 3) (mCons (mVar 4) (mNil))))) (mNil)))
def m__law_is_chain : FM := mfOf 3 7 b__law_is_chain
theorem fb__law_is_chain {x0 x1 x2 : Val} {Q : RV → List Val → Prop} (h : W b__law_is_chain [some x0, some x1, some x2, none, none, none, none] (End [x0, x1, x2] Q)) : Fw m__law_is_chain [x0, x1, x2] Q := fw_body rfl h
theorem sc__law_is_chain : FnScope ["row", "other", "value", "near", "far", "late", "one"] ["row", "other", "value"] (defScope (top 39)) := ⟨rfl, rfl, rfl, by decide +kernel, rfl, by decide +kernel, by decide +kernel⟩
theorem pl__law_is_chain : Plain "_law_is_chain" (top 39) ["row", "other", "value"] := fun _ _ _ _ _ _ us hl => match us, hl with | [_, _, _], _ => rfl
theorem ok__law_is_chain (c : Facts fa fn xf K mg base) : Fn P w K mg base 2 "_law_is_chain" (top 39) ["row", "other", "value"] m__law_is_chain := by
  have F__law_shape := ok__law_shape (P := P) (w := w) (base := base) c
  have F__law_is_step := ok__law_is_step (P := P) (w := w) (base := base) c
  refine Fn.of c 27 27 sc__law_is_chain pl__law_is_chain fun f cdv A fr s H E pa hgu hr tx => ?_
  have hu4 := room_units' hr
  have hu5 := room_units hr
  have hN := (sc__law_is_chain).nd
  exact dss_cons (ds_if ((dw_or (dt_not (dt_val (de_isinst2 "list" "tuple" (c.free 37) (c.free 39) (c.free 48) (de_var 2)))) (dw_or (dt_eq hu4 (de_len (c.free 38) (da_cons (de_var 2) (da_nil))) (de_int)) (dw_or1 (dt_not (dt_val (de_all rfl (c.free 32) (da_cons (de_comp [("one", 6)] rfl hN (di_seq (de_var 2)) (blkOk_by (by kernel_rfl)) (fun s H C cl fp => dg_name 6 hN) (fun s H C cl fp => dts_nil) (fun s H C cl fp => de_and (de_isinst "tuple" (c.free 37) (c.free 48) (de_var 6)) (de_one (de_eq hu4 (de_len (c.free 38) (da_cons (de_var 6) (da_nil))) (de_len (c.free 38) (da_cons (de_var 0) (da_nil))))))) (da_nil)))))))).dt) (dss_one (ds_ret (de_bl))) (dss_nil)) <| dss_cons (ds_if (dt_not (dt_val (de_all rfl (c.free 32) (da_cons (de_comp [("late", 5)] rfl hN (di_seq (de_var 2)) (blkOk_by (by kernel_rfl)) (fun s H C cl fp => dg_name 5 hN) (fun s H C cl fp => dts_nil) (fun s H C cl fp => de_all rfl (c.free 32) (da_cons (de_comp [("one", 6)] rfl hN (di_seq (de_var 5)) (blkOk_by (by kernel_rfl)) (fun s H C cl fp => dg_name 6 hN) (fun s H C cl fp => dts_nil) (fun s H C cl fp => de_and (de_isinst "int" (c.free 37) (c.free 36) (de_var 6)) (de_and (de_not (de_isinst "bool" (c.free 37) (c.free 33) (de_var 6))) (de_one (de_lele (de_int) (de_var 6) (de_int)))))) (da_nil)))) (da_nil))))) (dss_one (ds_ret (de_bl))) (dss_nil)) <| dss_cons (ds_if ((dw_or (dt_ne hu4 (de_ix (de_var 2) (de_int)) (de_f F__law_shape hgu hr (da_cons (de_var 1) (da_nil)))) (dw_or1 (dt_ne hu4 (de_ix (de_var 2) (de_neg (de_int))) (de_f F__law_shape hgu hr (da_cons (de_var 0) (da_nil)))))).dt) (dss_one (ds_ret (de_bl))) (dss_nil)) <| dss_one (ds_ret (de_all rfl (c.free 32) (da_cons (de_comp [("near", 3), ("far", 4)] rfl hN (di_zip (c.free 49) (da_cons (de_var 2) (da_cons (de_slice (ml := (some (mC (.int 1)))) (mh := none) (de_var 2) (do1_some (de_int)) do1_none) (da_nil)))) (blkOk_by (by kernel_rfl)) (fun s H C cl fp => dg_tup2 rfl (dgs_cons (dg_name 3 hN) (dgs_cons (dg_name 4 hN) (dgs_nil)))) (fun s H C cl fp => dts_nil) (fun s H C cl fp => de_f F__law_is_step hgu hr (da_cons (de_var 3) (da_cons (de_var 4) (da_nil))))) (da_nil))))
def b_steps_down_of : Ms := mSeq (mSet 1 (mLst (mNil))) <| mSeq (mForS (mRange1 (mCons (mBlt lenF (mCons (mVar 0) (mNil))) (mNil))) (bName 2) (mForS (mRange2 (mCons (mBin addD (mVar 2) (mC (.int 1))) (mCons (mBlt lenF (mCons (mVar 0) (mNil))) (mNil)))) (bName 3) (mSeq (mSet 4 (mBlt listF (mCons (mVar 0) (mNil)))) <| mSeq (mAsg (mTup (mCons (mBin subD (mBin ixD (mVar 4) (mVar 2)) (mC (.int 1))) (mCons (mBin addD (mBin ixD (mVar 4) (mVar 3)) (mC (.int 1))) (mNil)))) (bTup2 2 (bCons (bSub 4 (mVar 2)) (bCons (bSub 4 (mVar 3)) (bNil))))) <| mIfS (mAnd (mTruth (mBin equD (mVar 4) (mUn revD2 (mBlt sortedF (mCons (mVar 4) (mNil)))))) (mOr (mTruth (mBin equD (mVar 3) (mBin addD (mVar 2) (mC (.int 1))))) (mTruth (mBin equD (mBin subD (mBin ixD (mVar 0) (mVar 2)) (mBin ixD (mVar 0) (mVar 3))) (mC (.int 2)))))) (mDrop (mMut 1 appendF (mCons (mBlt tupleF (mCons (mVar 4) (mNil))) (mNil)))) (mNext)))) <| mRet (mBlt sortedSetTF (mCons (mVar 1) (mNil)))
def m_steps_down_of : FM := mfOf 1 5 b_steps_down_of
theorem fb_steps_down_of {x0 : Val} {Q : RV → List Val → Prop} (h : W b_steps_down_of [some x0, none, none, none, none] (End [x0] Q)) : Fw m_steps_down_of [x0] Q := fw_body rfl h
theorem sc_steps_down_of : FnScope ["shape", "found", "one", "late", "here"] ["shape"] (defScope (top 26)) := ⟨rfl, rfl, rfl, by decide +kernel, rfl, by decide +kernel, by decide +kernel⟩
theorem pl_steps_down_of : Plain "steps_down_of" (top 26) ["shape"] := fun _ _ _ _ _ _ us hl => match us, hl with | [_], _ => rfl
theorem ok_steps_down_of (c : Facts fa fn xf K mg base) : Fn P w K mg base 1 "steps_down_of" (top 26) ["shape"] m_steps_down_of := by
  refine Fn.of c 15 15 sc_steps_down_of pl_steps_down_of fun f cdv A fr s H E pa hgu hr tx => ?_
  have hu4 := room_units' hr
  have hu5 := room_units hr
  have hN := (sc_steps_down_of).nd
  exact dss_cons (ds_set 1 hN (de_lst (da_nil))) <| dss_cons (ds_for .never rfl (di_range1 (c.free 42) (da_cons (de_len (c.free 38) (da_cons (de_var 0) (da_nil))) (da_nil))) (dg_name 2 hN) (dss_one (ds_for .never rfl (di_range2 (c.free 42) (da_cons (de_add (de_var 2) (de_int)) (da_cons (de_len (c.free 38) (da_cons (de_var 0) (da_nil))) (da_nil)))) (dg_name 3 hN) (dss_cons (ds_set 4 hN (de_list1 (c.free 39) (da_cons (de_var 0) (da_nil)))) <| dss_cons (ds_asg (de_tup (da_cons (de_sub (de_ix (de_var 4) (de_var 2)) (de_int)) (da_cons (de_add (de_ix (de_var 4) (de_var 3)) (de_int)) (da_nil)))) (dg_tup2 rfl (dgs_cons (dg_sub 4 (de_var 2)) (dgs_cons (dg_sub 4 (de_var 3)) (dgs_nil))))) <| dss_one (ds_if ((dw_and (dt_eq hu4 (de_var 4) (de_rev2 (de_sorted hr (c.free 45) (da_cons (de_var 4) (da_nil))))) (dw_and1 ((dw_or (dt_eq hu4 (de_var 3) (de_add (de_var 2) (de_int))) (dw_or1 (dt_eq hu4 (de_sub (de_ix (de_var 0) (de_var 2)) (de_ix (de_var 0) (de_var 3))) (de_int)))).dt))).dt) (dss_one (ds_expr (de_append 1 (da_cons (de_tuple1 (c.free 48) (da_cons (de_var 4) (da_nil))) (da_nil))))) (dss_nil)))))) <| dss_one (ds_ret (de_sortedSetT hu4 rfl (c.free 45) (c.free 44) (da_cons (de_var 1) (da_nil))))
def b_is_chain : Ms := mSeq (mDrop (mCall m_want_like (mCons (mVar 0) (mCons (mVar 1) (mNil))))) <| mSeq (mIfS (mOr (mNot (mTruth (mUn (isF2 "list" "tuple") (mVar 2)))) (mTruth (mBin equD (mBlt lenF (mCons (mVar 2) (mNil))) (mC (.int 0))))) (mRet (mC (.bool false))) (mNext)) <| mSeq (mIfS (mNot (mTruth (mBlt allF (mCons (mComp [5] (mItems (mVar 2)) (bName 5) (mYes) (mAndV (mCall m_is_row_value (mCons (mVar 5) (mNil))) (mBin equD (mBlt lenF (mCons (mVar 5) (mNil))) (mBlt lenF (mCons (mVar 0) (mNil)))))) (mNil))))) (mRet (mC (.bool false))) (mNext)) <| mSeq (mIfS (mOr (mTruth (mBin neqD (mBin ixD (mVar 2) (mC (.int 0))) (mCall m_shape_of (mCons (mVar 1) (mNil))))) (mTruth (mBin neqD (mBin ixD (mVar 2) (mUn negD (mC (.int 1)))) (mCall m_shape_of (mCons (mVar 0) (mNil)))))) (mRet (mC (.bool false))) (mNext)) <| mRet (mBlt allF (mCons (mComp [3, 4] (mZip (mCons (mVar 2) (mCons (mSlice (mVar 2) (some (mC (.int 1))) none) (mNil)))) (bTup2 2 (bCons (bName 3) (bCons (bName 4) (bNil)))) (mYes) (mBin (inD id) (mVar 4) (mCall m_steps_down_of (mCons (mVar 3) (mNil))))) (mNil)))
def m_is_chain : FM := mfOf 3 6 b_is_chain
theorem fb_is_chain {x0 x1 x2 : Val} {Q : RV → List Val → Prop} (h : W b_is_chain [some x0, some x1, some x2, none, none, none] (End [x0, x1, x2] Q)) : Fw m_is_chain [x0, x1, x2] Q := fw_body rfl h
theorem sc_is_chain : FnScope ["row", "other", "value", "near", "far", "one"] ["row", "other", "value"] (defScope (top 27)) := ⟨rfl, rfl, rfl, by decide +kernel, rfl, by decide +kernel, by decide +kernel⟩
theorem pl_is_chain : Plain "is_chain" (top 27) ["row", "other", "value"] := fun _ _ _ _ _ _ us hl => match us, hl with | [_, _, _], _ => rfl
theorem ok_is_chain (c : Facts fa fn xf K mg base) : Fn P w K mg base 6 "is_chain" (top 27) ["row", "other", "value"] m_is_chain := by
  have F_want_like := ok_want_like (P := P) (w := w) (base := base) c
  have F_is_row_value := ok_is_row_value (P := P) (w := w) (base := base) c
  have F_shape_of := ok_shape_of (P := P) (w := w) (base := base) c
  have F_steps_down_of := ok_steps_down_of (P := P) (w := w) (base := base) c
  refine Fn.of c 16 16 sc_is_chain pl_is_chain fun f cdv A fr s H E pa hgu hr tx => ?_
  have hu4 := room_units' hr
  have hu5 := room_units hr
  have hN := (sc_is_chain).nd
  exact dss_cons (ds_expr (de_f F_want_like hgu hr (da_cons (de_var 0) (da_cons (de_var 1) (da_nil))))) <| dss_cons (ds_if ((dw_or (dt_not (dt_val (de_isinst2 "list" "tuple" (c.free 37) (c.free 39) (c.free 48) (de_var 2)))) (dw_or1 (dt_eq hu4 (de_len (c.free 38) (da_cons (de_var 2) (da_nil))) (de_int)))).dt) (dss_one (ds_ret (de_bl))) (dss_nil)) <| dss_cons (ds_if (dt_not (dt_val (de_all rfl (c.free 32) (da_cons (de_comp [("one", 5)] rfl hN (di_seq (de_var 2)) (blkOk_by (by kernel_rfl)) (fun s H C cl fp => dg_name 5 hN) (fun s H C cl fp => dts_nil) (fun s H C cl fp => de_and (de_f F_is_row_value hgu hr (da_cons (de_var 5) (da_nil))) (de_one (de_eq hu4 (de_len (c.free 38) (da_cons (de_var 5) (da_nil))) (de_len (c.free 38) (da_cons (de_var 0) (da_nil))))))) (da_nil))))) (dss_one (ds_ret (de_bl))) (dss_nil)) <| dss_cons (ds_if ((dw_or (dt_ne hu4 (de_ix (de_var 2) (de_int)) (de_f F_shape_of hgu hr (da_cons (de_var 1) (da_nil)))) (dw_or1 (dt_ne hu4 (de_ix (de_var 2) (de_neg (de_int))) (de_f F_shape_of hgu hr (da_cons (de_var 0) (da_nil)))))).dt) (dss_one (ds_ret (de_bl))) (dss_nil)) <| dss_one (ds_ret (de_all rfl (c.free 32) (da_cons (de_comp [("near", 3), ("far", 4)] rfl hN (di_zip (c.free 49) (da_cons (de_var 2) (da_cons (de_slice (ml := (some (mC (.int 1)))) (mh := none) (de_var 2) (do1_some (de_int)) do1_none) (da_nil)))) (blkOk_by (by kernel_rfl)) (fun s H C cl fp => dg_tup2 rfl (dgs_cons (dg_name 3 hN) (dgs_cons (dg_name 4 hN) (dgs_nil)))) (fun s H C cl fp => dts_nil) (fun s H C cl fp => de_in hu5 (de_var 4) (de_f F_steps_down_of hgu hr (da_cons (de_var 3) (da_nil))))) (da_nil))))
def b__law_right : Ms := mSeq (mPar [7, 8] (mCons (mBin addD (mC (.int 1)) (mCallP m__law_draw (mCons (mVar 0) (mCons (mC (.int 6)) (mNil))))) (mCons (mCallP m__law_draw (mCons (mVar 0) (mCons (mC (.int 25)) (mNil)))) (mNil)))) <| mSeq (mPar [9, 10] (mCons (mCallP m__law_row (mCons (mVar 0) (mCons (mVar 7) (mCons (mVar 8) (mNil))))) (mCons (mCallP m__law_row (mCons (mVar 0) (mCons (mVar 7) (mCons (mVar 8) (mNil))))) (mNil)))) <| mSeq (mForS (mItems (mBin addD (mLst (mCons (mVar 9) (mCons (mBlt listF (mCons (mVar 9) (mNil))) (mCons (mTup (mNil)) (mCons (mTup (mCons (mC (.int 60)) (mNil))) (mCons (mTup (mCons (mC (.int 61)) (mNil))) (mCons (mBin mulD2 (mTup (mCons (mC (.int 0)) (mNil))) (mC (.int 6))) (mCons (mBin mulD2 (mTup (mCons (mC (.int 0)) (mNil))) (mC (.int 7))) (mCons (mTup (mCons (mUn negD (mC (.int 1))) (mNil))) (mCons (mC .none) (mCons (mC (.int 0)) (mCons (mC (.str "1")) (mCons (mC (.dict [])) (mCons (mTup (mCons (mC (.bool true)) (mNil))) (mNil))))))))))))))) (mComp [5] (mRange1 (mCons (mC (.int 8)) (mNil))) (bName 5) (mYes) (mCallP m__law_bent (mCons (mVar 0) (mCons (mVar 9) (mNil))))))) (bName 1) (mSeq (mSet 11 (mAndV (mUn (isF "tuple") (mVar 1)) (mAndV (mChain leD leD (mC (.int 1)) (mBlt lenF (mCons (mVar 1) (mNil))) (mC (.int 6))) (mBlt allF (mCons (mComp [16] (mItems (mVar 1)) (bName 16) (mYes) (mAndV (mUn (isF "int") (mVar 16)) (mAndV (mNotV (mUn (isF "bool") (mVar 16))) (mChain leD leD (mC (.int 0)) (mVar 16) (mC (.int 60)))))) (mNil)))))) <| mIfS (mTruth (mBin neqD (mBlt reprF (mCons (mLst (mCons (mCall m_is_row (mCons (mVar 1) (mNil))) (mCons (mCallK m_is_row 0 1 [0] mNil (mCons (mVar 1) (mNil))) (mNil)))) (mNil))) (mBlt reprF (mCons (mLst (mCons (mVar 11) (mCons (mVar 11) (mNil)))) (mNil))))) (mRet (mC (.bool false))) (mNext))) <| mSeq (mPar [12, 13] (mCons (mCall m_evener_paper (mCons (mVar 9) (mCons (mVar 10) (mNil)))) (mCons (mBlt tupleF (mCons (mComp [20] (mRange1 (mCons (mVar 7) (mNil))) (bName 20) (mTruth (mBin equD (mCallP m__law_draw (mCons (mVar 0) (mCons (mC (.int 2)) (mNil)))) (mC (.int 0)))) (mVar 20)) (mNil))) (mNil)))) <| mSeq (mSet 2 (mTup (mCons (mC (.str "heads")) (mCons (mCall m__law_heads (mCons (mVar 9) (mNil))) (mCons (mCall m__law_heads (mCons (mVar 10) (mNil))) (mNil)))))) <| mSeq (mSet 3 (mLst (mCons (mVar 12) (mCons (mVar 2) (mCons (mTup (mCons (mC (.str "sides")) (mCons (mVar 13) (mNil)))) (mCons (mTup (mCons (mC (.str "sides")) (mCons (mTup (mNil)) (mNil)))) (mCons (mSlice (mVar 2) none (some (mC (.int 2)))) (mCons (mBin addD (mVar 2) (mTup (mCons (mTup (mNil)) (mNil)))) (mCons (mTup (mCons (mC (.str "sides")) (mCons (mTup (mCons (mVar 7) (mNil))) (mNil)))) (mCons (mTup (mCons (mC (.str "sides")) (mCons (mTup (mCons (mC (.int 0)) (mCons (mC (.int 0)) (mNil)))) (mNil)))) (mCons (mBlt listF (mCons (mVar 12) (mNil))) (mCons (mC .none) (mCons (mTup (mNil)) (mCons (mC (.int 0)) (mCons (mBin addD (mTup (mCons (mC (.str "Heads")) (mNil))) (mSlice (mVar 2) (some (mC (.int 1))) none)) (mNil)))))))))))))))) <| mSeq (mForS (mItems (mBin addD (mVar 3) (mComp [5] (mRange1 (mCons (mC (.int 8)) (mNil))) (bName 5) (mYes) (mCallP m__law_bent (mCons (mVar 0) (mCons (mCallP m__law_pick (mCons (mVar 0) (mCons (mLst (mCons (mVar 12) (mCons (mVar 2) (mCons (mTup (mCons (mC (.str "sides")) (mCons (mVar 13) (mNil)))) (mNil))))) (mNil)))) (mNil))))))) (bName 1) (mSeq (mPar [11, 17] (mCons (mCall m__law_is_paper (mCons (mVar 9) (mCons (mVar 10) (mCons (mVar 1) (mNil))))) (mCons (mBlt reprF (mCons (mVar 1) (mNil))) (mNil)))) <| mIfS (mOr (mTruth (mBin neqD (mBlt reprF (mCons (mLst (mCons (mCall m_is_evener_paper (mCons (mVar 9) (mCons (mVar 10) (mCons (mVar 1) (mNil))))) (mCons (mCallK m_is_evener_paper 0 3 [2, 1, 0] mNil (mCons (mVar 1) (mCons (mVar 10) (mCons (mVar 9) (mNil))))) (mNil)))) (mNil))) (mBlt reprF (mCons (mLst (mCons (mVar 11) (mCons (mVar 11) (mNil)))) (mNil))))) (mTruth (mBin neqD (mBlt reprF (mCons (mVar 1) (mNil))) (mVar 17)))) (mRet (mC (.bool false))) (mNext))) <| mSeq (mSet 4 (mLst (mCons (mCall m__law_shape (mCons (mVar 10) (mNil))) (mNil)))) <| mSeq (mForS (mRange1 (mCons (mCallP m__law_draw (mCons (mVar 0) (mCons (mC (.int 6)) (mNil)))) (mNil))) (bName 5) (mSeq (mSet 14 (mBin ixD (mVar 4) (mUn negD (mC (.int 1))))) <| mSeq (mSet 15 (mLst (mNil))) <| mSeq (mForS (mRange1 (mCons (mVar 7) (mNil))) (bName 16) (mForS (mRange2 (mCons (mBin addD (mVar 16) (mC (.int 1))) (mCons (mVar 7) (mNil)))) (bName 18) (mSeq (mSet 19 (mBlt listF (mCons (mVar 14) (mNil)))) <| mSeq (mAsg (mTup (mCons (mBin subD (mBin ixD (mVar 19) (mVar 16)) (mC (.int 1))) (mCons (mBin addD (mBin ixD (mVar 19) (mVar 18)) (mC (.int 1))) (mNil)))) (bTup2 2 (bCons (bSub 19 (mVar 16)) (bCons (bSub 19 (mVar 18)) (bNil))))) <| mDrop (mMut 15 extendF (mCons (mIf (mTruth (mCall m__law_is_step (mCons (mVar 14) (mCons (mBlt tupleF (mCons (mVar 19) (mNil))) (mNil))))) (mLst (mCons (mBlt tupleF (mCons (mVar 19) (mNil))) (mNil))) (mLst (mNil))) (mNil)))))) <| mSet 4 (mBin addD (mVar 4) (mIf (mTruth (mBin neqD (mVar 15) (mLst (mNil)))) (mLst (mCons (mCallP m__law_pick (mCons (mVar 0) (mCons (mVar 15) (mNil)))) (mNil))) (mLst (mNil)))))) <| mSeq (mSet 6 (mBin ixD (mVar 4) (mUn negD (mC (.int 1))))) <| mSeq (mForS (mItems (mBin addD (mLst (mCons (mVar 4) (mCons (mBlt tupleF (mCons (mVar 4) (mNil))) (mCons (mUn revD2 (mVar 4)) (mCons (mSlice (mVar 4) none (some (mUn negD (mC (.int 1))))) (mCons (mBin addD (mVar 4) (mSlice (mVar 4) (some (mUn negD (mC (.int 1)))) none)) (mCons (mLst (mNil)) (mCons (mC .none) (mCons (mC (.int 0)) (mCons (mC (.dict [])) (mCons (mLst (mCons (mVar 6) (mNil))) (mCons (mComp [16] (mItems (mVar 4)) (bName 16) (mYes) (mBlt listF (mCons (mVar 16) (mNil)))) (mCons (mSlice (mVar 4) none (some (mC (.int 1)))) (mNil)))))))))))))) (mComp [5] (mRange1 (mCons (mC (.int 6)) (mNil))) (bName 5) (mYes) (mCallP m__law_bent (mCons (mVar 0) (mCons (mVar 4) (mNil))))))) (bName 1) (mSeq (mSet 11 (mCall m__law_is_chain (mCons (mVar 6) (mCons (mVar 10) (mCons (mVar 1) (mNil)))))) <| mIfS (mTruth (mBin neqD (mBlt reprF (mCons (mLst (mCons (mCall m_is_chain (mCons (mVar 6) (mCons (mVar 10) (mCons (mVar 1) (mNil))))) (mCons (mCallK m_is_chain 0 3 [2, 1, 0] mNil (mCons (mVar 1) (mCons (mVar 10) (mCons (mVar 6) (mNil))))) (mNil)))) (mNil))) (mBlt reprF (mCons (mLst (mCons (mVar 11) (mCons (mVar 11) (mNil)))) (mNil))))) (mRet (mC (.bool false))) (mNext))) <| mRet (mBin (isBD id) (mCall m_is_chain (mCons (mVar 6) (mCons (mVar 10) (mCons (mVar 4) (mNil))))) (mC (.bool true)))
def m__law_right : FM := mfOf 1 21 b__law_right
theorem fb__law_right {x0 : Val} {Q : RV → List Val → Prop} (h : W b__law_right [some x0, none, none, none, none, none, none, none, none, none, none, none, none, none, none, none, none, none, none, none, none] (End [x0] Q)) : Fw m__law_right [x0] Q := fw_body rfl h
theorem sc__law_right : FnScope ["pot", "value", "heads", "values", "chain", "turn", "last", "sides", "total", "row", "other", "due", "told", "lot", "here", "some", "one", "shown", "late", "step", "side"] ["pot"] (defScope (top 41)) := ⟨rfl, rfl, rfl, by decide +kernel, rfl, by decide +kernel, by decide +kernel⟩
theorem pl__law_right : Plain "_law_right" (top 41) ["pot"] := fun _ _ _ _ _ _ us hl => match us, hl with | [_], _ => rfl
theorem ok__law_right (c : Facts fa fn xf K mg base) : Fn P w K mg base 28 "_law_right" (top 41) ["pot"] m__law_right := by
  have F__law_draw := ok__law_draw (P := P) (w := w) (base := base) c
  have F__law_row := ok__law_row (P := P) (w := w) (base := base) c
  have F__law_bent := ok__law_bent (P := P) (w := w) (base := base) c
  have F_is_row := ok_is_row (P := P) (w := w) (base := base) c
  have F_evener_paper := ok_evener_paper (P := P) (w := w) (base := base) c
  have F__law_heads := ok__law_heads (P := P) (w := w) (base := base) c
  have F__law_pick := ok__law_pick (P := P) (w := w) (base := base) c
  have F__law_is_paper := ok__law_is_paper (P := P) (w := w) (base := base) c
  have F_is_evener_paper := ok_is_evener_paper (P := P) (w := w) (base := base) c
  have F__law_shape := ok__law_shape (P := P) (w := w) (base := base) c
  have F__law_is_step := ok__law_is_step (P := P) (w := w) (base := base) c
  have F__law_is_chain := ok__law_is_chain (P := P) (w := w) (base := base) c
  have F_is_chain := ok_is_chain (P := P) (w := w) (base := base) c
  refine Fn.of c 29 29 sc__law_right pl__law_right fun f cdv A fr s H E pa hgu hr tx => ?_
  have hu4 := room_units' hr
  have hu5 := room_units hr
  have hN := (sc__law_right).nd
  exact dss_cons (ds_par2 7 8 rfl hN (do_cons (de_add (de_int) (de_fP F__law_draw hgu hr (da_cons (de_var 0) (da_cons (de_int) (da_nil))))) (do_cons (de_fP F__law_draw hgu hr (da_cons (de_var 0) (da_cons (de_int) (da_nil)))) (do_nil)))) <| dss_cons (ds_parT [9, 10] rfl (do_cons (de_fP F__law_row hgu hr (da_cons (de_var 0) (da_cons (de_var 7) (da_cons (de_var 8) (da_nil))))) (do_cons (de_fP F__law_row hgu hr (da_cons (de_var 0) (da_cons (de_var 7) (da_cons (de_var 8) (da_nil))))) (do_nil))) (pgs_cons (pg_name (i := 9) hN rfl (by first | exact Or.inl rfl | exact Or.inr rfl)) (pgs_cons (pg_name (i := 10) hN rfl (by first | exact Or.inl rfl | exact Or.inr rfl)) (pgs_nil)))) <| dss_cons (ds_for .never rfl (di_seq (de_add (de_lst (da_cons (de_var 9) (da_cons (de_list1 (c.free 39) (da_cons (de_var 9) (da_nil))) (da_cons (de_tup (da_nil)) (da_cons (de_tup (da_cons (de_int) (da_nil))) (da_cons (de_tup (da_cons (de_int) (da_nil))) (da_cons (de_mul2 (de_tup (da_cons (de_int) (da_nil))) (de_int)) (da_cons (de_mul2 (de_tup (da_cons (de_int) (da_nil))) (de_int)) (da_cons (de_tup (da_cons (de_neg (de_int)) (da_nil))) (da_cons (de_non) (da_cons (de_int) (da_cons (de_str) (da_cons (de_dict0) (da_cons (de_tup (da_cons (de_bl) (da_nil))) (da_nil))))))))))))))) (de_comp [("turn", 5)] rfl hN (di_range1 (c.free 42) (da_cons (de_int) (da_nil))) (blkOk_by (by kernel_rfl)) (fun s H C cl fp => dg_name 5 hN) (fun s H C cl fp => dts_nil) (fun s H C cl fp => de_fP F__law_bent hgu hr (da_cons (de_var 0) (da_cons (de_var 9) (da_nil))))))) (dg_name 1 hN) (dss_cons (ds_set 11 hN (de_and (de_isinst "tuple" (c.free 37) (c.free 48) (de_var 1)) (de_and (de_lele (de_int) (de_len (c.free 38) (da_cons (de_var 1) (da_nil))) (de_int)) (de_one (de_all rfl (c.free 32) (da_cons (de_comp [("one", 16)] rfl hN (di_seq (de_var 1)) (blkOk_by (by kernel_rfl)) (fun s H C cl fp => dg_name 16 hN) (fun s H C cl fp => dts_nil) (fun s H C cl fp => de_and (de_isinst "int" (c.free 37) (c.free 36) (de_var 16)) (de_and (de_not (de_isinst "bool" (c.free 37) (c.free 33) (de_var 16))) (de_one (de_lele (de_int) (de_var 16) (de_int)))))) (da_nil))))))) <| dss_one (ds_if (dt_ne hu4 (de_repr c.sm hgu hu4 (c.free 43) (da_cons (de_lst (da_cons (de_f F_is_row hgu hr (da_cons (de_var 1) (da_nil))) (da_cons (de_fK0 (ks := ["value"]) (perm := [0]) F_is_row (fun _ _ _ _ _ _ us ws h1 h2 => match us, h1, ws, h2 with | [], _, [_], _ => rfl) hgu hr (dk_cons (de_var 1) (dk_nil))) (da_nil)))) (da_nil))) (de_repr c.sm hgu hu4 (c.free 43) (da_cons (de_lst (da_cons (de_var 11) (da_cons (de_var 11) (da_nil)))) (da_nil)))) (dss_one (ds_ret (de_bl))) (dss_nil)))) <| dss_cons (ds_parT [12, 13] rfl (do_cons (de_f F_evener_paper hgu hr (da_cons (de_var 9) (da_cons (de_var 10) (da_nil)))) (do_cons (de_tuple1 (c.free 48) (da_cons (de_comp [("side", 20)] rfl hN (di_range1 (c.free 42) (da_cons (de_var 7) (da_nil))) (blkOk_by (by kernel_rfl)) (fun s H C cl fp => dg_name 20 hN) (fun s H C cl fp => dts_one (dt_eq hu4 (de_fP F__law_draw hgu hr (da_cons (de_var 0) (da_cons (de_int) (da_nil)))) (de_int))) (fun s H C cl fp => de_var 20)) (da_nil))) (do_nil))) (pgs_cons (pg_name (i := 12) hN rfl (by first | exact Or.inl rfl | exact Or.inr rfl)) (pgs_cons (pg_name (i := 13) hN rfl (by first | exact Or.inl rfl | exact Or.inr rfl)) (pgs_nil)))) <| dss_cons (ds_set 2 hN (de_tup (da_cons (de_str) (da_cons (de_f F__law_heads hgu hr (da_cons (de_var 9) (da_nil))) (da_cons (de_f F__law_heads hgu hr (da_cons (de_var 10) (da_nil))) (da_nil)))))) <| dss_cons (ds_set 3 hN (de_lst (da_cons (de_var 12) (da_cons (de_var 2) (da_cons (de_tup (da_cons (de_str) (da_cons (de_var 13) (da_nil)))) (da_cons (de_tup (da_cons (de_str) (da_cons (de_tup (da_nil)) (da_nil)))) (da_cons (de_slice (ml := none) (mh := (some (mC (.int 2)))) (de_var 2) do1_none (do1_some (de_int))) (da_cons (de_add (de_var 2) (de_tup (da_cons (de_tup (da_nil)) (da_nil)))) (da_cons (de_tup (da_cons (de_str) (da_cons (de_tup (da_cons (de_var 7) (da_nil))) (da_nil)))) (da_cons (de_tup (da_cons (de_str) (da_cons (de_tup (da_cons (de_int) (da_cons (de_int) (da_nil)))) (da_nil)))) (da_cons (de_list1 (c.free 39) (da_cons (de_var 12) (da_nil))) (da_cons (de_non) (da_cons (de_tup (da_nil)) (da_cons (de_int) (da_cons (de_add (de_tup (da_cons (de_str) (da_nil))) (de_slice (ml := (some (mC (.int 1)))) (mh := none) (de_var 2) (do1_some (de_int)) do1_none)) (da_nil)))))))))))))))) <| dss_cons (ds_for .never rfl (di_seq (de_add (de_var 3) (de_comp [("turn", 5)] rfl hN (di_range1 (c.free 42) (da_cons (de_int) (da_nil))) (blkOk_by (by kernel_rfl)) (fun s H C cl fp => dg_name 5 hN) (fun s H C cl fp => dts_nil) (fun s H C cl fp => de_fP F__law_bent hgu hr (da_cons (de_var 0) (da_cons (de_fP F__law_pick hgu hr (da_cons (de_var 0) (da_cons (de_lst (da_cons (de_var 12) (da_cons (de_var 2) (da_cons (de_tup (da_cons (de_str) (da_cons (de_var 13) (da_nil)))) (da_nil))))) (da_nil)))) (da_nil))))))) (dg_name 1 hN) (dss_cons (ds_par2 11 17 rfl hN (do_cons (de_f F__law_is_paper hgu hr (da_cons (de_var 9) (da_cons (de_var 10) (da_cons (de_var 1) (da_nil))))) (do_cons (de_repr c.sm hgu hu4 (c.free 43) (da_cons (de_var 1) (da_nil))) (do_nil)))) <| dss_one (ds_if ((dw_or (dt_ne hu4 (de_repr c.sm hgu hu4 (c.free 43) (da_cons (de_lst (da_cons (de_f F_is_evener_paper hgu hr (da_cons (de_var 9) (da_cons (de_var 10) (da_cons (de_var 1) (da_nil))))) (da_cons (de_fK0 (ks := ["value", "other", "row"]) (perm := [2, 1, 0]) F_is_evener_paper (fun _ _ _ _ _ _ us ws h1 h2 => match us, h1, ws, h2 with | [], _, [_, _, _], _ => rfl) hgu hr (dk_cons (de_var 1) (dk_cons (de_var 10) (dk_cons (de_var 9) (dk_nil))))) (da_nil)))) (da_nil))) (de_repr c.sm hgu hu4 (c.free 43) (da_cons (de_lst (da_cons (de_var 11) (da_cons (de_var 11) (da_nil)))) (da_nil)))) (dw_or1 (dt_ne hu4 (de_repr c.sm hgu hu4 (c.free 43) (da_cons (de_var 1) (da_nil))) (de_var 17)))).dt) (dss_one (ds_ret (de_bl))) (dss_nil)))) <| dss_cons (ds_set 4 hN (de_lst (da_cons (de_f F__law_shape hgu hr (da_cons (de_var 10) (da_nil))) (da_nil)))) <| dss_cons (ds_for .never rfl (di_range1 (c.free 42) (da_cons (de_fP F__law_draw hgu hr (da_cons (de_var 0) (da_cons (de_int) (da_nil)))) (da_nil))) (dg_name 5 hN) (dss_cons (ds_set 14 hN (de_ix (de_var 4) (de_neg (de_int)))) <| dss_cons (ds_set 15 hN (de_lst (da_nil))) <| dss_cons (ds_for .never rfl (di_range1 (c.free 42) (da_cons (de_var 7) (da_nil))) (dg_name 16 hN) (dss_one (ds_for .never rfl (di_range2 (c.free 42) (da_cons (de_add (de_var 16) (de_int)) (da_cons (de_var 7) (da_nil)))) (dg_name 18 hN) (dss_cons (ds_set 19 hN (de_list1 (c.free 39) (da_cons (de_var 14) (da_nil)))) <| dss_cons (ds_asg (de_tup (da_cons (de_sub (de_ix (de_var 19) (de_var 16)) (de_int)) (da_cons (de_add (de_ix (de_var 19) (de_var 18)) (de_int)) (da_nil)))) (dg_tup2 rfl (dgs_cons (dg_sub 19 (de_var 16)) (dgs_cons (dg_sub 19 (de_var 18)) (dgs_nil))))) <| dss_one (ds_expr (de_extend 15 (da_cons (de_if (dt_val (de_f F__law_is_step hgu hr (da_cons (de_var 14) (da_cons (de_tuple1 (c.free 48) (da_cons (de_var 19) (da_nil))) (da_nil))))) (de_lst (da_cons (de_tuple1 (c.free 48) (da_cons (de_var 19) (da_nil))) (da_nil))) (de_lst (da_nil))) (da_nil)))))))) <| dss_one (ds_set 4 hN (de_add (de_var 4) (de_if (dt_ne hu4 (de_var 15) (de_lst (da_nil))) (de_lst (da_cons (de_fP F__law_pick hgu hr (da_cons (de_var 0) (da_cons (de_var 15) (da_nil)))) (da_nil))) (de_lst (da_nil))))))) <| dss_cons (ds_set 6 hN (de_ix (de_var 4) (de_neg (de_int)))) <| dss_cons (ds_for .never rfl (di_seq (de_add (de_lst (da_cons (de_var 4) (da_cons (de_tuple1 (c.free 48) (da_cons (de_var 4) (da_nil))) (da_cons (de_rev2 (de_var 4)) (da_cons (de_slice (ml := none) (mh := (some (mUn negD (mC (.int 1))))) (de_var 4) do1_none (do1_some (de_neg (de_int)))) (da_cons (de_add (de_var 4) (de_slice (ml := (some (mUn negD (mC (.int 1))))) (mh := none) (de_var 4) (do1_some (de_neg (de_int))) do1_none)) (da_cons (de_lst (da_nil)) (da_cons (de_non) (da_cons (de_int) (da_cons (de_dict0) (da_cons (de_lst (da_cons (de_var 6) (da_nil))) (da_cons (de_comp [("one", 16)] rfl hN (di_seq (de_var 4)) (blkOk_by (by kernel_rfl)) (fun s H C cl fp => dg_name 16 hN) (fun s H C cl fp => dts_nil) (fun s H C cl fp => de_list1 (c.free 39) (da_cons (de_var 16) (da_nil)))) (da_cons (de_slice (ml := none) (mh := (some (mC (.int 1)))) (de_var 4) do1_none (do1_some (de_int))) (da_nil)))))))))))))) (de_comp [("turn", 5)] rfl hN (di_range1 (c.free 42) (da_cons (de_int) (da_nil))) (blkOk_by (by kernel_rfl)) (fun s H C cl fp => dg_name 5 hN) (fun s H C cl fp => dts_nil) (fun s H C cl fp => de_fP F__law_bent hgu hr (da_cons (de_var 0) (da_cons (de_var 4) (da_nil))))))) (dg_name 1 hN) (dss_cons (ds_set 11 hN (de_f F__law_is_chain hgu hr (da_cons (de_var 6) (da_cons (de_var 10) (da_cons (de_var 1) (da_nil)))))) <| dss_one (ds_if (dt_ne hu4 (de_repr c.sm hgu hu4 (c.free 43) (da_cons (de_lst (da_cons (de_f F_is_chain hgu hr (da_cons (de_var 6) (da_cons (de_var 10) (da_cons (de_var 1) (da_nil))))) (da_cons (de_fK0 (ks := ["value", "other", "row"]) (perm := [2, 1, 0]) F_is_chain (fun _ _ _ _ _ _ us ws h1 h2 => match us, h1, ws, h2 with | [], _, [_, _, _], _ => rfl) hgu hr (dk_cons (de_var 1) (dk_cons (de_var 10) (dk_cons (de_var 6) (dk_nil))))) (da_nil)))) (da_nil))) (de_repr c.sm hgu hu4 (c.free 43) (da_cons (de_lst (da_cons (de_var 11) (da_cons (de_var 11) (da_nil)))) (da_nil)))) (dss_one (ds_ret (de_bl))) (dss_nil)))) <| dss_one (ds_ret (de_isB (de_f F_is_chain hgu hr (da_cons (de_var 6) (da_cons (de_var 10) (da_cons (de_var 4) (da_nil))))) (de_bl)))
def b__law_pot : Ms := mSeq (mSet 2 (mIf (mTruth (mBin ltD (mVar 1) (mLenScr 0))) (mBlt absF (mCons (mIxScr 0 (mVar 1)) (mNil))) (mBin addD (mBin mulD2 (mC (.int 3041)) (mVar 1)) (mC (.int 1747))))) <| mRet (mLst (mCons (mBlt max2F (mCons (mC (.int 0)) (mCons (mBin subD (mVar 2) (mBin powD (mC (.int 10)) (mC (.int 18)))) (mNil)))) (mCons (mBin addD (mBin modD (mBlt intF (mCons (mBin addD (mBin addD (mBin mulD2 (mBin modD (mBlt intF (mCons (mVar 2) (mNil))) (mC (.int 2147483549))) (mC (.int 40014))) (mBin mulD2 (mC (.int 9013)) (mVar 1))) (mC (.int 2731))) (mNil))) (mC (.int 2147483563))) (mC (.int 1))) (mNil))))
def m__law_pot : FM := mfOf 2 3 b__law_pot
theorem fb__law_pot {x0 x1 : Val} {Q : RV → List Val → Prop} (h : W b__law_pot [some x0, some x1, none] (End [x0, x1] Q)) : Fw m__law_pot [x0, x1] Q := fw_body rfl h
theorem sc__law_pot : FnScope ["script", "k", "cell"] ["script", "k"] (defScope (top 29)) := ⟨rfl, rfl, rfl, by decide +kernel, rfl, by decide +kernel, by decide +kernel⟩
theorem pl__law_pot : Plain "_law_pot" (top 29) ["script", "k"] := fun _ _ _ _ _ _ us hl => match us, hl with | [_, _], _ => rfl
theorem ok__law_pot (c : Facts fa fn xf K mg base) : Fn P w K mg base 1 "_law_pot" (top 29) ["script", "k"] m__law_pot := by
  refine Fn.of c 17 17 sc__law_pot pl__law_pot fun f cdv A fr s H E pa hgu hr tx => ?_
  have hu4 := room_units' hr
  have hu5 := room_units hr
  have hN := (sc__law_pot).nd
  exact dss_cons (ds_set 2 hN (de_if (dt_lt (de_var 1) (de_lenScr 0 (c.free 38))) (de_abs (c.free 31) (da_cons (de_ixScr 0 (de_var 1)) (da_nil))) (de_add (de_mul2 (de_int) (de_var 1)) (de_int)))) <| dss_one (ds_ret (de_lst (da_cons (de_max2 rfl (c.free 40) (da_cons (de_int) (da_cons (de_sub (de_var 2) (de_pow (de_int) (de_int))) (da_nil)))) (da_cons (de_add (de_mod (de_int1 (c.free 36) (da_cons (de_add (de_add (de_mul2 (de_mod (de_int1 (c.free 36) (da_cons (de_var 2) (da_nil))) (de_int)) (de_int)) (de_mul2 (de_int) (de_var 1))) (de_int)) (da_nil))) (de_int)) (de_int)) (da_nil)))))
def b_law : Ms := mRet (mBlt allF (mCons (mComp [1] (mRange1 (mCons (mBlt max2F (mCons (mC (.int 1)) (mCons (mBlt min2F (mCons (mC (.int 2)) (mCons (mLenScr 0) (mNil)))) (mNil)))) (mNil))) (bName 1) (mYes) (mCallN m__law_right (mCall m__law_pot (mCons (mVar 0) (mCons (mVar 1) (mNil)))))) (mNil)))
def m_law : FM := mfOf 1 2 b_law
theorem fb_law {x0 : Val} {Q : RV → List Val → Prop} (h : W b_law [some x0, none] (End [x0] Q)) : Fw m_law [x0] Q := fw_body rfl h
theorem sc_law : FnScope ["script", "k"] ["script"] (defScope (top 42)) := ⟨rfl, rfl, rfl, by decide +kernel, rfl, by decide +kernel, by decide +kernel⟩
theorem pl_law : Plain "law" (top 42) ["script"] := fun _ _ _ _ _ _ us hl => match us, hl with | [_], _ => rfl
theorem ok_law (c : Facts fa fn xf K mg base) : Fn P w K mg base 29 "law" (top 42) ["script"] m_law := by
  have F__law_right := ok__law_right (P := P) (w := w) (base := base) c
  have F__law_pot := ok__law_pot (P := P) (w := w) (base := base) c
  refine Fn.of c 30 30 sc_law pl_law fun f cdv A fr s H E pa hgu hr tx => ?_
  have hu4 := room_units' hr
  have hu5 := room_units hr
  have hN := (sc_law).nd
  exact dss_one (ds_ret (de_all rfl (c.free 32) (da_cons (de_comp [("k", 1)] rfl hN (di_range1 (c.free 42) (da_cons (de_max2 rfl (c.free 40) (da_cons (de_int) (da_cons (de_min2 rfl (c.free 41) (da_cons (de_int) (da_cons (de_lenScr 0 (c.free 38)) (da_nil)))) (da_nil)))) (da_nil))) (blkOk_by (by kernel_rfl)) (fun s H C cl fp => dg_name 1 hN) (fun s H C cl fp => dts_nil) (fun s H C cl fp => de_fN F__law_right hgu hr (de_f F__law_pot hgu hr (da_cons (de_var 0) (da_cons (de_var 1) (da_nil)))))) (da_nil))))
end
end HD
namespace HD
open PySem L2 DL
local macro_rules | `(tactic| trivial) => `(tactic| first
  | ((with_reducible refine gRV ?_); first
    | (with_reducible refine w_c ?_)
    | ((with_reducible refine w_var (d := ?_) ?_ ?_); rotate_left; · exact rfl)
    | ((with_reducible refine w_varO (ds := ?_) ?_ ?_); rotate_left; · exact rfl)
    | ((with_reducible refine w_varR (ds := ?_) ?_ ?_); rotate_left; · exact rfl)
    | (with_reducible refine w_bin ?_)
    | (with_reducible refine w_blt ?_)
    | (with_reducible refine w_un ?_)
    | (with_reducible refine w_tup ?_)
    | (with_reducible refine w_lst ?_)
    | (with_reducible refine w_if ?_)
    | (with_reducible refine w_mut rfl ?_)
    | (with_reducible refine w_comp ?_)
    | (with_reducible refine w_slice ?_)
    | (with_reducible refine w_chain ?_)
    | (with_reducible refine w_andV ?_)
    | (with_reducible refine w_orV ?_)
    | (with_reducible refine w_notV ?_)
    | (with_reducible refine w_ofB ?_)
    | ((with_reducible refine w_varS (ds := ?_) ?_ ?_); rotate_left; · exact rfl)
    | ((with_reducible refine w_lenScr (ds := ?_) ?_ ?_); rotate_left; · exact rfl)
    | ((with_reducible refine w_ixScr (ds := ?_) ?_ ?_); rotate_left; · exact rfl)
    | (with_reducible refine w_rg1 ?_)
    | (with_reducible refine w_rg2 ?_)
    | (with_reducible refine w_read ?_)
    | ((with_reducible refine w_slScr (ds := ?_) ?_ ?_); rotate_left; · exact rfl)
    | ((with_reducible refine w_call ?_ ?_); rotate_left; (· exact hand_of _ _ _))
    | ((with_reducible refine w_callP ?_ ?_); rotate_left; (· exact hand_of _ _ _))
    | ((with_reducible refine w_callK ?_ ?_); rotate_left; (· exact hand_of _ _ _))
    | (with_reducible refine w_callN ?_))
  | ((with_reducible refine gRL ?_); first
    | (with_reducible refine w_cons ?_)
    | (with_reducible refine w_nil ?_))
  | ((with_reducible refine gFl ?_); first
    | (with_reducible refine w_seq ?_)
    | (with_reducible refine w_set ?_)
    | (with_reducible refine w_ifS ?_)
    | (with_reducible refine w_ret ?_)
    | (with_reducible refine w_asg ?_)
    | (with_reducible refine w_drop ?_)
    | (with_reducible refine w_par ?_)
    | (with_reducible refine w_for ?_)
    | (with_reducible refine w_next ?_))
  | ((with_reducible refine gBo ?_); first
    | (with_reducible refine w_truth ?_)
    | (with_reducible refine w_not ?_)
    | (with_reducible refine w_and ?_)
    | (with_reducible refine w_or ?_)
    | (with_reducible refine w_if ?_)
    | (with_reducible refine w_thawT ?_)
    | (with_reducible refine w_yes ?_))
  | ((with_reducible refine gPL ?_); first
    | (with_reducible refine w_args ?_)
    | (with_reducible refine w_items ?_)
    | (with_reducible refine w_range1 ?_)
    | (with_reducible refine w_range2 ?_)
    | (with_reducible refine w_enum ?_)
    | (with_reducible refine w_zip ?_))
  | ((with_reducible refine gOI ?_); first
    | (with_reducible refine w_partN ?_)
    | (with_reducible refine w_partS ?_))
  | ((with_reducible refine gO2 ?_); first
    | (with_reducible refine op2_tdC ?_)
    | (with_reducible refine op2_tdN ?_)
    | (with_reducible refine op2_tvC ?_)
    | (with_reducible refine op2_tvN ?_)
    | (refine op2_of rfl ?_))
  | ((with_reducible refine gOp ?_); first
    | (with_reducible refine op_bName ?_)
    | (with_reducible refine op_bTup rfl ?_)
    | (with_reducible refine op_bTup2 rfl ?_)
    | (with_reducible refine op_bTup2L rfl ?_)
    | (with_reducible refine op_bCons ?_)
    | (with_reducible refine op_bNil ?_)
    | ((with_reducible refine op_subR (r := ?_) ?_ ?_); rotate_left; · exact rfl)
    | (with_reducible refine op_resC ?_)
    | (with_reducible refine op_resN ?_)
    | (with_reducible refine op_addI ?_)
    | (with_reducible refine op_subI ?_)
    | (with_reducible refine op_lt ?_)
    | (with_reducible refine op_le ?_)
    | (with_reducible refine op_gt ?_)
    | (with_reducible refine op_ge ?_)
    | (with_reducible refine op_eqI ?_)
    | (with_reducible refine op_neI ?_)
    | (with_reducible refine op_int ?_)
    | (with_reducible refine op_eqB ?_)
    | (with_reducible refine op_neB ?_)
    | (with_reducible refine op_isB ?_)
    | (with_reducible refine op_notB ?_)
    | (with_reducible refine op_neSS ?_)
    | (with_reducible refine op_eqSS ?_)
    | (with_reducible refine op_eqSx (by decide +kernel) ?_)
    | (with_reducible refine op_neSx (by decide +kernel) ?_)
    | (with_reducible refine op_max2 ?_)
    | (with_reducible refine op_min2 ?_)
    | (with_reducible refine op_abs ?_)
    | (with_reducible refine op_lenR ?_)
    | (with_reducible refine op_lenRL ?_)
    | (with_reducible refine op_rev2R ?_)
    | (with_reducible refine op_rev2T ?_)
    | (with_reducible refine op_listR ?_)
    | (with_reducible refine op_sumR ?_)
    | (with_reducible refine op_sumRL ?_)
    | (with_reducible refine op_takeRL (by omega) ?_)
    | (with_reducible refine op_takeR (by omega) ?_)
    | (with_reducible refine op_dropRL (by omega) ?_)
    | (with_reducible refine op_dropR (by omega) ?_)
    | (with_reducible refine op_takePL (by omega) ?_)
    | (with_reducible refine op_dropPL (by omega) ?_)
    | (with_reducible refine op_takePT (by omega) ?_)
    | (with_reducible refine op_dropPT (by omega) ?_)
    | (with_reducible refine op_ixR (by first | omega | (simp only [List.length_set]; omega)) ?_)
    | (with_reducible refine op_ixRL (by first | omega | (simp only [List.length_set]; omega)) ?_)
    | (with_reducible refine op_mod (by first | decide | omega) ?_)
    | (with_reducible refine op_fdiv (by first | decide | omega) ?_)
    | (with_reducible refine op_mulI (by first | decide | omega) ?_)
    | (with_reducible refine op_mul2I (by first | decide | omega) ?_)
    | (with_reducible refine op_mul3I (by first | decide | omega) ?_)
    | (with_reducible refine op_divmod (by first | decide | omega) ?_)
    | (with_reducible refine op_divmod3 (by first | decide | omega) ?_)
    | (with_reducible refine op_pow (by first | decide | omega) ?_)
    | ((with_reducible apply op_reprG); (· (repeat (first | assumption | exact gl_nil | exact gd_none | exact gd_bool _ | exact gd_int (by omega) | exact gd_str | apply gl_cons | apply gd_l | apply gd_t))); (· decide); (· decide))
    | (with_reducible refine op_dbl ?_)
    | (with_reducible refine op_numT ?_)
    | (refine op_of rfl ?_))
  | ((with_reducible refine gBr ?_); first
    | (with_reducible refine br_tt ?_)
    | (with_reducible refine br_ff ?_)
    | (with_reducible refine br_f bne_self ?_)
    | (with_reducible refine br_not ?_)
    | (with_reducible refine br_yes (by first | decide | omega) ?_)
    | (with_reducible refine br_no (by first | decide | omega) ?_)
    | (with_reducible refine br_t (isW_t (by omega)) ?_)
    | (refine br_t (by rfl) ?_)
    | (refine br_f (by rfl) ?_))
  | ((with_reducible refine go_nx (w_norm (ρ' := ?_) ?_ ?_)); rotate_left; · first | (dsimp only [List.set, back, Val.put, List.getElem?_cons_zero, List.getElem?_cons_succ, wipeE, backE]; exact rfl) | exact rfl)
  | ((with_reducible refine nm_of (ρ' := ?_) ?_ ?_); rotate_left; · first | (dsimp only [List.set, back, Val.put, List.getElem?_cons_zero, List.getElem?_cons_succ, wipeE, backE]; exact rfl) | exact rfl)
  | ((with_reducible refine fwN (ys := ?_) ?_ ?_); rotate_left; · (dsimp only [List.filterMap_cons, List.filterMap_nil, List.getElem?_cons_zero, List.getElem?_cons_succ]; exact rfl))
  | (with_reducible refine go_rt ?_)
  | (with_reducible refine and_bd (by omega) (by omega) ?_)
  | (with_reducible refine and_rg (by omega) (by omega) ?_)
  | (with_reducible refine and_lk (by first | omega | (simp only [rangeD_len, List.length_map, List.length_cons, List.length_nil]; omega)) ?_)
  | (with_reducible refine and_ix (by first | omega | (simp only [List.length_set]; omega)) ?_)
  | (with_reducible refine tr_of ?_)
  | (with_reducible refine end_dat ?_)
  | (with_reducible refine end_own ?_)
  | (with_reducible refine end_nx ?_)
  | (with_reducible refine turn_nx ?_)
  | (with_reducible refine turn_rt ?_)
  | ((with_reducible refine gEx ?_); first | (refine ⟨_, _, rfl, ?_⟩) | (refine ⟨_, rfl, ?_⟩) | (refine ⟨_, _, rfl, rfl, ?_⟩))
  | ((with_reducible refine gAn ?_); first | (refine ⟨Nat.le_of_ble_eq_true rfl, ?_⟩) | (refine ⟨rfl, ?_⟩))
  | (with_reducible refine w_pl ?_)
  | (with_reducible refine w_seqX ?_)
  | (with_reducible refine w_ifX ?_)
  | (with_reducible refine w_forX ?_)
  | (with_reducible refine w_raise ?_)
  | (with_reducible refine w_setX ?_)
  | (with_reducible refine w_lst2X ?_)
  | (with_reducible refine w_try ?_)
  | (with_reducible refine w_callE ?_)
  | (with_reducible refine gox_rt ?_)
  | (with_reducible refine gox_ex ?_)
  | (with_reducible refine endx_dat ?_)
  | (with_reducible refine endx_own ?_)
  | (with_reducible refine endx_nx ?_)
  | (with_reducible refine endx_ex ?_)
  | (with_reducible refine turnx_ex ?_)
  | (with_reducible refine turnx_nx ?_)
  | (with_reducible refine tryo_ex ?_)
  | (with_reducible refine tryo_fl ?_)
  | (with_reducible refine seto_v ?_)
  | (with_reducible refine seto_x ?_)
  | (with_reducible refine lst2_d ?_)
  | (with_reducible refine lst2_o ?_)
  | (with_reducible refine lst2_x ?_)
  | (with_reducible refine w_told ⟨Nat.le_of_ble_eq_true rfl, by decide⟩ ?_)
  | ((with_reducible refine gox_nx (w_norm (ρ' := ?_) ?_ ?_)); rotate_left; · first | (dsimp only [List.set, back, Val.put, List.getElem?_cons_zero, List.getElem?_cons_succ, wipeE, backE]; exact rfl) | exact rfl))
/-- the drawing pot's list -/
def Pot (ds : List PD) : Prop := ∃ a b : Int, ds = [.int a, .int b] ∧ 0 ≤ a ∧ 0 ≤ b ∧ b < 2147483648
theorem fw_draw {p : List PD} {n : Int} {Q : RV → List Val → Prop} (hp : Pot p) (hn : 0 < n) (hn2 : n < 1073741824)
    (z : ∀ p' r, Pot p' → 0 ≤ r → r < n → Q (.dat (.int r)) [.ref p', .dat (.int n)]) : Fw m__law_draw [.ref p, .dat (.int n)] Q := by
  obtain ⟨a, b, rfl, ha, hb, hb2⟩ := hp
  refine fb__law_draw ?_
  unfold b__law_draw
  repeat trivial
  refine br_dec (fun h => ?_) (fun h => ?_)
  · repeat trivial
    exact z _ _ ⟨_, _, rfl, Int.ediv_nonneg (by omega) (by omega), hb, hb2⟩ (Int.emod_nonneg _ (by omega)) (Int.emod_lt_of_pos _ hn)
  · repeat trivial
    exact z _ _ ⟨_, _, rfl, ha, Int.emod_nonneg _ (by omega), by omega⟩ (Int.emod_nonneg _ (by omega)) (Int.emod_lt_of_pos _ hn)
theorem fw_pot {ns : List Int} {k : Int} {Q : RV → List Val → Prop} (hk : 0 ≤ k ∧ k < 1000000)
    (z : ∀ p', Pot p' → Q (.own p') [.scr (numL ns), .dat (.int k)]) : Fw m__law_pot [.scr (numL ns), .dat (.int k)] Q := by
  have fin : ∀ c x : Int, 0 ≤ c → Pot [.int (max 0 (c - 10 ^ Int.toNat 18)), .int (x % 2147483563 + 1)] := by
    intro c x hc
    refine ⟨_, _, rfl, by omega, ?_, ?_⟩
    · have := Int.emod_nonneg x (b := 2147483563) (by omega); omega
    · have := Int.emod_lt_of_pos x (b := 2147483563) (by omega); omega
  refine fb__law_pot ?_
  unfold b__law_pot
  repeat trivial
  refine br_dec (fun h => ?_) (fun h => ?_)
  · repeat trivial
    refine ⟨_, _, rfl, atI_int hk.1 (numL_get hk.1 (by simpa using h)), ?_⟩
    repeat trivial
    exact z _ (fin _ _ (by omega))
  · repeat trivial
    exact z _ (fin _ _ (by omega))
theorem fw_pick {p : List PD} {some_ : List PD} {Q : RV → List Val → Prop} (hp : Pot p) (hn : some_ ≠ []) (hn2 : some_.length < 1000000)
    (z : ∀ p' x, Pot p' → x ∈ some_ → Q (.dat x) [.ref p', .dat (.list some_)]) : Fw m__law_pick [.ref p, .dat (.list some_)] Q := by
  have h0 : 0 < some_.length := List.length_pos_iff.mpr hn
  refine fb__law_pick ?_
  unfold b__law_pick
  repeat trivial
  refine fw_draw hp (by omega) (by omega) fun p1 r h1 h2 h3 => ?_
  repeat trivial
  have h4 : r.toNat < some_.length := by omega
  refine op_ixLn some_[r.toNat] h2 (List.getElem?_eq_getElem h4) ?_
  repeat trivial
  exact z _ _ h1 (List.getElem_mem h4)
theorem fw_is_integer {d : PD} {Q : RV → List Val → Prop} (z : Q (.dat (.bool (isI d))) [.dat d]) : Fw m_is_integer [.dat d] Q := by
  refine fb_is_integer ?_
  unfold b_is_integer
  cases d <;> (repeat trivial) <;> exact z
local macro_rules | `(tactic| trivial) => `(tactic| ((with_reducible refine gFw ?_); (with_reducible refine fw_is_integer ?_)))
theorem fw_is_within {d : PD} {a b : Int} {Q : RV → List Val → Prop} (z : Q (.dat (.bool (isW d a b))) [.dat d, .dat (.int a), .dat (.int b)]) : Fw m_is_within [.dat d, .dat (.int a), .dat (.int b)] Q := by
  refine fb_is_within ?_
  unfold b_is_within
  repeat trivial
  cases d <;> (repeat trivial)
  all_goals first | exact z | skip
  rename_i i
  refine br_dec (fun h => ?_) (fun h => ?_)
  · repeat trivial
    have e : isW (.int i) a b = decide (i ≤ b) := by simp only [isW, decide_eq_true h, Bool.true_and]
    rw [← e]; exact z
  · repeat trivial
    have e : isW (.int i) a b = false := by simp only [isW, decide_eq_false h, Bool.false_and]
    rw [← e]; exact z
local macro_rules | `(tactic| trivial) => `(tactic| ((with_reducible refine gFw ?_); (with_reducible refine fw_is_within ?_)))
/-- a row of the program -/
structure RowOk (r : List Int) : Prop where
  l1 : 1 ≤ r.length
  l2 : r.length ≤ 6
  el : ∀ x ∈ r, 0 ≤ x ∧ x ≤ 60
theorem RowOk.nn {r : List Int} (h : RowOk r) : 0 < r.length := h.l1
theorem RowOk.le {r : List Int} (h : RowOk r) : r.length ≤ 1000 := Nat.le_trans h.l2 (by decide)
theorem RowOk.perm {r s : List Int} (h : RowOk r) (p : s.Perm r) : RowOk s := ⟨by rw [p.length_eq]; exact h.l1, by rw [p.length_eq]; exact h.l2, fun x hx => h.el x (p.subset hx)⟩
theorem RowOk.shape {r : List Int} (h : RowOk r) : RowOk (shapeL r) := h.perm (shapeL_perm r)
theorem RowOk.gd {r : List Int} (h : RowOk r) : Gd 1 126 (rowD r) := gd_ints (n := 6) (fun x hx => by have := h.el x hx; omega) h.l2
theorem fw_is_row_value {r : List Int} {Q : RV → List Val → Prop} (h : RowOk r) (z : Q (.dat (.bool true)) [.dat (rowD r)]) : Fw m_is_row_value [.dat (rowD r)] Q := by
  have h1 := h.l1
  have h2 := h.l2
  refine fb_is_row_value ?_
  unfold b_is_row_value
  repeat trivial
  refine w_lc_each (fun x => .bool (isW x 0 60)) (fun x hx => ?_) ?_
  · repeat trivial
  · repeat trivial
    refine op_all ?_
    repeat trivial
    have e : (numL r).all (fun x => isW x 0 60) = true := by
      rw [List.all_eq_true]
      intro x hx
      obtain ⟨v, hv, rfl⟩ := numL_mem hx
      have := h.el v hv
      simp [isW, this]
    rw [e]; exact z
theorem fw_want_row {r : List Int} {Q : RV → List Val → Prop} (h : RowOk r) (z : Q (.dat .none) [.dat (rowD r)]) : Fw m_want_row [.dat (rowD r)] Q := by
  refine fb_want_row ?_
  unfold b_want_row
  repeat trivial
  refine fw_is_row_value h ?_
  repeat trivial
local macro_rules | `(tactic| trivial) => `(tactic| ((with_reducible refine gFw ?_); (with_reducible refine fw_want_row (by assumption) ?_)))
theorem fw_row {p : List PD} {sides total : Int} {Q : RV → List Val → Prop} (hp : Pot p) (hs : 1 ≤ sides ∧ sides ≤ 30) (ht : 0 ≤ total ∧ total ≤ 1000)
    (z : ∀ p' r, Pot p' → r.length = sides.toNat → (∀ x ∈ r, 0 ≤ x ∧ x ≤ total) → r.sum = total → Q (.dat (rowD r)) [.ref p', .dat (.int sides), .dat (.int total)]) : Fw m__law_row [.ref p, .dat (.int sides), .dat (.int total)] Q := by
  refine fb__law_row ?_
  unfold b__law_row
  repeat trivial
  refine op_mul2L ⟨by simp, by omega, by omega⟩ ?_
  repeat trivial
  refine fw_draw hp (by omega) (by omega) fun p1 kind h1 h2 h3 => ?_
  repeat trivial
  rw [repD_int]
  refine w_for_at (fun i ρ => ∃ (p : List PD) (r : List Int) (u s : Option Val), Pot p ∧ r.length = sides.toNat ∧ (∀ x ∈ r, 0 ≤ x ∧ x ≤ i) ∧ r.sum = i ∧ ρ = [some (.ref p), some (.dat (.int sides)), some (.dat (.int total)), u, some (.own (numL r)), some (.dat (.int kind)), s]) ⟨p1, List.replicate sides.toNat 0, _, _, h1, by simp, fun x hx => ?_, ?_, rfl⟩ ?_ ?_
  · obtain rfl := (List.mem_replicate.mp hx).2
    omega
  · simp
  · rintro i x ρ hx ⟨p, r, u, s, hp, hr, hr0, hrs, rfl⟩
    obtain ⟨hi, rfl⟩ := rangeD_get0 hx
    repeat ((fail_if_success (with_reducible refine w_seq ?_)); trivial)
    refine w_then (fun ρ' => ∃ (p : List PD) (s : Int), (Pot p ∧ 0 ≤ s ∧ s < sides) ∧ ρ' = [some (.ref p), some (.dat (.int sides)), some (.dat (.int total)), some (.dat (.int i)), some (.own (numL r)), some (.dat (.int kind)), some (.dat (.int s))]) ?_ ?_
    · repeat trivial
      refine fw_draw hp (by omega) (by omega) fun p1 s1 h1 h2 h3 => ?_
      repeat trivial
      exact ⟨p1, s1, ⟨h1, h2, h3⟩, rfl⟩
    rintro ρ' ⟨p, s, ⟨hp, h2', h3'⟩, rfl⟩
    refine w_then (fun ρ' => ∃ (p : List PD) (s : Int), (Pot p ∧ 0 ≤ s ∧ s < sides) ∧ ρ' = [some (.ref p), some (.dat (.int sides)), some (.dat (.int total)), some (.dat (.int i)), some (.own (numL r)), some (.dat (.int kind)), some (.dat (.int s))]) ?_ ?_
    · repeat trivial
      refine br_dec (fun h => ?_) (fun h => ?_)
      · repeat trivial
        exact ⟨p, s, ⟨hp, h2', h3'⟩, rfl⟩
      · repeat trivial
        refine fw_draw hp (by omega) (by omega) fun p1 s1 h1 h4 h5 => ?_
        repeat trivial
        refine br_dec (fun h => ?_) (fun h => ?_)
        · repeat trivial
          exact ⟨p1, s, ⟨h1, h2', h3'⟩, rfl⟩
        · repeat trivial
          have hk : 0 < kind := by omega
          have := Int.emod_nonneg (i : Int) (b := kind) (by omega)
          exact ⟨p1, _, ⟨h1, by omega, by omega⟩, rfl⟩
    rintro ρ' ⟨p, s, ⟨hp, h2', h3'⟩, rfl⟩
    repeat trivial
    have h4 : s.toNat < r.length := by omega
    have h5 : s < r.length := by omega
    refine ⟨p, r.set s.toNat (gI r s + 1), _, _, hp, by simpa using hr, fun x hx => ?_, ?_, rfl⟩
    · rcases List.mem_or_eq_of_mem_set hx with h | rfl
      · have := hr0 x h; omega
      · have := hr0 _ (gI_mem h2' h5); omega
    · rw [sum_set h4, gI_eq h2' h5, hrs]; omega
  · rintro ρ ⟨p, r, u, s, hp, hr, hr0, hrs, rfl⟩
    rw [rangeD_len] at hr0 hrs
    repeat trivial
    exact z _ _ hp hr (fun x hx => by have := hr0 x hx; omega) (by rw [hrs]; omega)
theorem fw_want_as_many {r s : List Int} {Q : RV → List Val → Prop} (h : r.length = s.length) (z : Q (.dat .none) [.dat (rowD r), .dat (rowD s)]) : Fw m_want_as_many [.dat (rowD r), .dat (rowD s)] Q := by
  refine fb_want_as_many ?_
  unfold b_want_as_many
  repeat trivial
local macro_rules | `(tactic| trivial) => `(tactic| ((with_reducible refine gFw ?_); (with_reducible refine fw_want_as_many (by first | assumption | omega) ?_)))
theorem fw_want_like {r s : List Int} {Q : RV → List Val → Prop} (h1 : RowOk r) (h2 : RowOk s) (hl : r.length = s.length) (hs : r.sum = s.sum) (z : Q (.dat .none) [.dat (rowD r), .dat (rowD s)]) : Fw m_want_like [.dat (rowD r), .dat (rowD s)] Q := by
  refine fb_want_like ?_
  unfold b_want_like
  repeat trivial
local macro_rules | `(tactic| trivial) => `(tactic| ((with_reducible refine gFw ?_); (with_reducible refine fw_want_like (by assumption) (by assumption) (by first | assumption | omega) (by first | assumption | omega) ?_)))
theorem fw_shape_of {r : List Int} {Q : RV → List Val → Prop} (h : r.length ≤ 1000) (z : Q (.dat (rowD (shapeL r))) [.dat (rowD r)]) : Fw m_shape_of [.dat (rowD r)] Q := by
  refine fb_shape_of ?_
  unfold b_shape_of
  repeat trivial
  refine op_sortedR (by omega) ?_
  repeat trivial
local macro_rules | `(tactic| trivial) => `(tactic| ((with_reducible refine gFw ?_); (with_reducible refine fw_shape_of (by first | assumption | exact RowOk.le (by assumption) | omega) ?_)))
theorem fw_heads_of {r : List Int} {Q : RV → List Val → Prop} (h : r.length ≤ 1000) (z : Q (.dat (rowD (headsL r))) [.dat (rowD r)]) : Fw m_heads_of [.dat (rowD r)] Q := by
  refine fb_heads_of ?_
  unfold b_heads_of
  repeat trivial
  refine w_for_at (fun i ρ => ∃ o, ρ = [some (.dat (rowD r)), o, some (.own (numL ((List.range i).map fun k => topK r (k + 1)))), some (.dat (.int (topK r i)))]) ⟨_, rfl⟩ ?_ ?_
  · rintro i x ρ hx ⟨o, rfl⟩
    obtain ⟨v, hv, rfl⟩ := numL_at hx
    have hi : i < r.length := by
      have := (List.getElem?_eq_some_iff.mp hv).1
      rwa [shapeL_len] at this
    repeat trivial
    refine op_append (by simp; omega) ?_
    repeat trivial
    refine ⟨some (.dat (.int v)), ?_⟩
    rw [List.range_succ, List.map_append, numL_app, topK_succ hv]
    simp only [List.map_cons, List.map_nil, topK_succ hv]
    rfl
  · rintro ρ ⟨o, rfl⟩
    repeat trivial
    rw [List.length_map, shapeL_len]
    exact z
local macro_rules | `(tactic| trivial) => `(tactic| ((with_reducible refine gFw ?_); (with_reducible refine fw_heads_of (by first | assumption | exact RowOk.le (by assumption) | omega) ?_)))
theorem fw_law_shape {r : List Int} {Q : RV → List Val → Prop} (h : r.length ≤ 1000) (z : Q (.dat (rowD (shapeL r))) [.dat (rowD r)]) : Fw m__law_shape [.dat (rowD r)] Q := by
  refine fb__law_shape ?_
  unfold b__law_shape
  repeat trivial
  refine op_sortedR (by omega) ?_
  repeat trivial
local macro_rules | `(tactic| trivial) => `(tactic| ((with_reducible refine gFw ?_); (with_reducible refine fw_law_shape (by first | assumption | exact RowOk.le (by assumption) | omega) ?_)))
theorem fw_law_heads {r : List Int} {Q : RV → List Val → Prop} (h : r.length ≤ 1000) (z : Q (.dat (rowD (headsL r))) [.dat (rowD r)]) : Fw m__law_heads [.dat (rowD r)] Q := by
  refine fb__law_heads ?_
  unfold b__law_heads
  repeat trivial
  refine w_lc_i (enc := fun k : Nat => PyData.int (k : Int)) (l := List.range r.length) (fun k => topK r (k + 1)) (by unfold rangeD; simp) (fun k hk => ?_) ?_
  · repeat trivial
    refine op_sortedR (by omega) ?_
    repeat trivial
  repeat trivial
local macro_rules | `(tactic| trivial) => `(tactic| ((with_reducible refine gFw ?_); (with_reducible refine fw_law_heads (by first | assumption | exact RowOk.le (by assumption) | omega) ?_)))
theorem fw_law_is_evener {s r : List Int} {Q : RV → List Val → Prop} (h : r.length ≤ 1000) (hl : s.length = r.length) (z : Q (.dat (.bool (evB s r))) [.dat (rowD s), .dat (rowD r)]) : Fw m__law_is_evener [.dat (rowD s), .dat (rowD r)] Q := by
  refine fb__law_is_evener ?_
  unfold b__law_is_evener
  repeat trivial
  have e : zipD (numL (headsL s)) (numL (headsL r)) = (List.range r.length).map fun k => PyData.tuple [.int (topK s (k + 1)), .int (topK r (k + 1))] := by
    rw [zipD_nums, headsL, headsL, hl, zip_maps, List.map_map]
    rfl
  refine and_lk (by rw [e]; simp; omega) ?_
  repeat trivial
  refine w_lc_t (fun k => .bool (decide (topK s (k + 1) ≤ topK r (k + 1)))) e (fun k hk => ?_) ?_
  · repeat trivial
  repeat trivial
  refine op_all ?_
  repeat trivial
local macro_rules | `(tactic| trivial) => `(tactic| ((with_reducible refine gFw ?_); (with_reducible refine fw_law_is_evener (by first | assumption | exact RowOk.le (by assumption) | omega) (by first | assumption | omega) ?_)))
theorem row_ok {r : List Int} {m : Int} (h : ∀ x ∈ r, 0 ≤ x ∧ x ≤ m) (hm : m ≤ 60) (l1 : 1 ≤ r.length) (l2 : r.length ≤ 6) : RowOk r := ⟨l1, l2, fun x hx => by have := h x hx; omega⟩
/-- sides, greatest, sum -/
structure RIn (n : Nat) (M T : Int) (r : List Int) : Prop where
  len : r.length = n
  el : ∀ x ∈ r, 0 ≤ x ∧ x ≤ M
  sum : r.sum = T
theorem RIn.ok {n : Nat} {M T : Int} {r : List Int} (h : RIn n M T r) (h1 : 1 ≤ n) (h2 : n ≤ 6) (h3 : M ≤ 60) : RowOk r := row_ok h.el h3 (by rw [h.len]; exact h1) (by rw [h.len]; exact h2)
/-- a price paper's row -/
structure PrOk (p : List Int) : Prop where
  l1 : 2 ≤ p.length
  l2 : p.length ≤ 61
  el : ∀ x ∈ p, -1000000000000 ≤ x ∧ x ≤ 1000000000000
end HD
namespace HD
open PySem L2 DL
local macro_rules | `(tactic| trivial) => `(tactic| first
  | ((with_reducible refine gRV ?_); first
    | (with_reducible refine w_c ?_)
    | ((with_reducible refine w_var (d := ?_) ?_ ?_); rotate_left; · exact rfl)
    | ((with_reducible refine w_varO (ds := ?_) ?_ ?_); rotate_left; · exact rfl)
    | ((with_reducible refine w_varR (ds := ?_) ?_ ?_); rotate_left; · exact rfl)
    | (with_reducible refine w_bin ?_)
    | (with_reducible refine w_blt ?_)
    | (with_reducible refine w_un ?_)
    | (with_reducible refine w_tup ?_)
    | (with_reducible refine w_lst ?_)
    | (with_reducible refine w_if ?_)
    | (with_reducible refine w_mut rfl ?_)
    | (with_reducible refine w_comp ?_)
    | (with_reducible refine w_slice ?_)
    | (with_reducible refine w_chain ?_)
    | (with_reducible refine w_andV ?_)
    | (with_reducible refine w_orV ?_)
    | (with_reducible refine w_notV ?_)
    | (with_reducible refine w_ofB ?_)
    | ((with_reducible refine w_varS (ds := ?_) ?_ ?_); rotate_left; · exact rfl)
    | ((with_reducible refine w_lenScr (ds := ?_) ?_ ?_); rotate_left; · exact rfl)
    | ((with_reducible refine w_ixScr (ds := ?_) ?_ ?_); rotate_left; · exact rfl)
    | (with_reducible refine w_rg1 ?_)
    | (with_reducible refine w_rg2 ?_)
    | (with_reducible refine w_read ?_)
    | ((with_reducible refine w_slScr (ds := ?_) ?_ ?_); rotate_left; · exact rfl)
    | ((with_reducible refine w_call ?_ ?_); rotate_left; (· exact hand_of _ _ _))
    | ((with_reducible refine w_callP ?_ ?_); rotate_left; (· exact hand_of _ _ _))
    | ((with_reducible refine w_callK ?_ ?_); rotate_left; (· exact hand_of _ _ _))
    | (with_reducible refine w_callN ?_))
  | ((with_reducible refine gRL ?_); first
    | (with_reducible refine w_cons ?_)
    | (with_reducible refine w_nil ?_))
  | ((with_reducible refine gFl ?_); first
    | (with_reducible refine w_seq ?_)
    | (with_reducible refine w_set ?_)
    | (with_reducible refine w_ifS ?_)
    | (with_reducible refine w_ret ?_)
    | (with_reducible refine w_asg ?_)
    | (with_reducible refine w_drop ?_)
    | (with_reducible refine w_par ?_)
    | (with_reducible refine w_for ?_)
    | (with_reducible refine w_next ?_))
  | ((with_reducible refine gBo ?_); first
    | (with_reducible refine w_truth ?_)
    | (with_reducible refine w_not ?_)
    | (with_reducible refine w_and ?_)
    | (with_reducible refine w_or ?_)
    | (with_reducible refine w_if ?_)
    | (with_reducible refine w_thawT ?_)
    | (with_reducible refine w_yes ?_))
  | ((with_reducible refine gPL ?_); first
    | (with_reducible refine w_args ?_)
    | (with_reducible refine w_items ?_)
    | (with_reducible refine w_range1 ?_)
    | (with_reducible refine w_range2 ?_)
    | (with_reducible refine w_enum ?_)
    | (with_reducible refine w_zip ?_))
  | ((with_reducible refine gOI ?_); first
    | (with_reducible refine w_partN ?_)
    | (with_reducible refine w_partS ?_))
  | ((with_reducible refine gO2 ?_); first
    | (with_reducible refine op2_tdC ?_)
    | (with_reducible refine op2_tdN ?_)
    | (with_reducible refine op2_tvC ?_)
    | (with_reducible refine op2_tvN ?_)
    | (refine op2_of rfl ?_))
  | ((with_reducible refine gOp ?_); first
    | (with_reducible refine op_bName ?_)
    | (with_reducible refine op_bTup rfl ?_)
    | (with_reducible refine op_bTup2 rfl ?_)
    | (with_reducible refine op_bTup2L rfl ?_)
    | (with_reducible refine op_bCons ?_)
    | (with_reducible refine op_bNil ?_)
    | ((with_reducible refine op_subR (r := ?_) ?_ ?_); rotate_left; · exact rfl)
    | (with_reducible refine op_resC ?_)
    | (with_reducible refine op_resN ?_)
    | (with_reducible refine op_addI ?_)
    | (with_reducible refine op_subI ?_)
    | (with_reducible refine op_lt ?_)
    | (with_reducible refine op_le ?_)
    | (with_reducible refine op_gt ?_)
    | (with_reducible refine op_ge ?_)
    | (with_reducible refine op_eqI ?_)
    | (with_reducible refine op_neI ?_)
    | (with_reducible refine op_int ?_)
    | (with_reducible refine op_eqB ?_)
    | (with_reducible refine op_neB ?_)
    | (with_reducible refine op_isB ?_)
    | (with_reducible refine op_notB ?_)
    | (with_reducible refine op_neSS ?_)
    | (with_reducible refine op_eqSS ?_)
    | (with_reducible refine op_eqSx (by decide +kernel) ?_)
    | (with_reducible refine op_neSx (by decide +kernel) ?_)
    | (with_reducible refine op_max2 ?_)
    | (with_reducible refine op_min2 ?_)
    | (with_reducible refine op_abs ?_)
    | (with_reducible refine op_lenR ?_)
    | (with_reducible refine op_lenRL ?_)
    | (with_reducible refine op_rev2R ?_)
    | (with_reducible refine op_rev2T ?_)
    | (with_reducible refine op_listR ?_)
    | (with_reducible refine op_sumR ?_)
    | (with_reducible refine op_sumRL ?_)
    | (with_reducible refine op_takeRL (by omega) ?_)
    | (with_reducible refine op_takeR (by omega) ?_)
    | (with_reducible refine op_dropRL (by omega) ?_)
    | (with_reducible refine op_dropR (by omega) ?_)
    | (with_reducible refine op_takePL (by omega) ?_)
    | (with_reducible refine op_dropPL (by omega) ?_)
    | (with_reducible refine op_takePT (by omega) ?_)
    | (with_reducible refine op_dropPT (by omega) ?_)
    | (with_reducible refine op_ixR (by first | omega | (simp only [List.length_set]; omega)) ?_)
    | (with_reducible refine op_ixRL (by first | omega | (simp only [List.length_set]; omega)) ?_)
    | (with_reducible refine op_mod (by first | decide | omega) ?_)
    | (with_reducible refine op_fdiv (by first | decide | omega) ?_)
    | (with_reducible refine op_mulI (by first | decide | omega) ?_)
    | (with_reducible refine op_mul2I (by first | decide | omega) ?_)
    | (with_reducible refine op_mul3I (by first | decide | omega) ?_)
    | (with_reducible refine op_divmod (by first | decide | omega) ?_)
    | (with_reducible refine op_divmod3 (by first | decide | omega) ?_)
    | (with_reducible refine op_pow (by first | decide | omega) ?_)
    | ((with_reducible apply op_reprG); (· (repeat (first | assumption | exact gl_nil | exact gd_none | exact gd_bool _ | exact gd_int (by omega) | exact gd_str | apply gl_cons | apply gd_l | apply gd_t))); (· decide); (· decide))
    | (with_reducible refine op_dbl ?_)
    | (with_reducible refine op_numT ?_)
    | (refine op_of rfl ?_))
  | ((with_reducible refine gBr ?_); first
    | (with_reducible refine br_tt ?_)
    | (with_reducible refine br_ff ?_)
    | (with_reducible refine br_f bne_self ?_)
    | (with_reducible refine br_not ?_)
    | (with_reducible refine br_yes (by first | decide | omega) ?_)
    | (with_reducible refine br_no (by first | decide | omega) ?_)
    | (with_reducible refine br_t (isW_t (by omega)) ?_)
    | (refine br_t (by rfl) ?_)
    | (refine br_f (by rfl) ?_))
  | ((with_reducible refine go_nx (w_norm (ρ' := ?_) ?_ ?_)); rotate_left; · first | (dsimp only [List.set, back, Val.put, List.getElem?_cons_zero, List.getElem?_cons_succ, wipeE, backE]; exact rfl) | exact rfl)
  | ((with_reducible refine nm_of (ρ' := ?_) ?_ ?_); rotate_left; · first | (dsimp only [List.set, back, Val.put, List.getElem?_cons_zero, List.getElem?_cons_succ, wipeE, backE]; exact rfl) | exact rfl)
  | ((with_reducible refine fwN (ys := ?_) ?_ ?_); rotate_left; · (dsimp only [List.filterMap_cons, List.filterMap_nil, List.getElem?_cons_zero, List.getElem?_cons_succ]; exact rfl))
  | (with_reducible refine go_rt ?_)
  | (with_reducible refine and_bd (by omega) (by omega) ?_)
  | (with_reducible refine and_rg (by omega) (by omega) ?_)
  | (with_reducible refine and_lk (by first | omega | (simp only [rangeD_len, List.length_map, List.length_cons, List.length_nil]; omega)) ?_)
  | (with_reducible refine and_ix (by first | omega | (simp only [List.length_set]; omega)) ?_)
  | (with_reducible refine tr_of ?_)
  | (with_reducible refine end_dat ?_)
  | (with_reducible refine end_own ?_)
  | (with_reducible refine end_nx ?_)
  | (with_reducible refine turn_nx ?_)
  | (with_reducible refine turn_rt ?_)
  | ((with_reducible refine gEx ?_); first | (refine ⟨_, _, rfl, ?_⟩) | (refine ⟨_, rfl, ?_⟩) | (refine ⟨_, _, rfl, rfl, ?_⟩))
  | ((with_reducible refine gAn ?_); first | (refine ⟨Nat.le_of_ble_eq_true rfl, ?_⟩) | (refine ⟨rfl, ?_⟩))
  | (with_reducible refine w_pl ?_)
  | (with_reducible refine w_seqX ?_)
  | (with_reducible refine w_ifX ?_)
  | (with_reducible refine w_forX ?_)
  | (with_reducible refine w_raise ?_)
  | (with_reducible refine w_setX ?_)
  | (with_reducible refine w_lst2X ?_)
  | (with_reducible refine w_try ?_)
  | (with_reducible refine w_callE ?_)
  | (with_reducible refine gox_rt ?_)
  | (with_reducible refine gox_ex ?_)
  | (with_reducible refine endx_dat ?_)
  | (with_reducible refine endx_own ?_)
  | (with_reducible refine endx_nx ?_)
  | (with_reducible refine endx_ex ?_)
  | (with_reducible refine turnx_ex ?_)
  | (with_reducible refine turnx_nx ?_)
  | (with_reducible refine tryo_ex ?_)
  | (with_reducible refine tryo_fl ?_)
  | (with_reducible refine seto_v ?_)
  | (with_reducible refine seto_x ?_)
  | (with_reducible refine lst2_d ?_)
  | (with_reducible refine lst2_o ?_)
  | (with_reducible refine lst2_x ?_)
  | (with_reducible refine w_told ⟨Nat.le_of_ble_eq_true rfl, by decide⟩ ?_)
  | ((with_reducible refine gox_nx (w_norm (ρ' := ?_) ?_ ?_)); rotate_left; · first | (dsimp only [List.set, back, Val.put, List.getElem?_cons_zero, List.getElem?_cons_succ, wipeE, backE]; exact rfl) | exact rfl))
local macro_rules | `(tactic| trivial) => `(tactic| ((with_reducible refine gFw ?_); first
  | (with_reducible refine fw_is_integer ?_)
  | (with_reducible refine fw_is_within ?_)
  | (with_reducible refine fw_want_row (by assumption) ?_)
  | (with_reducible refine fw_want_as_many (by first | assumption | omega) ?_)
  | (with_reducible refine fw_want_like (by assumption) (by assumption) (by first | assumption | omega) (by first | assumption | omega) ?_)
  | (with_reducible refine fw_shape_of (by first | assumption | exact RowOk.le (by assumption) | omega) ?_)
  | (with_reducible refine fw_heads_of (by first | assumption | exact RowOk.le (by assumption) | omega) ?_)
  | (with_reducible refine fw_law_shape (by first | assumption | exact RowOk.le (by assumption) | omega) ?_)
  | (with_reducible refine fw_law_heads (by first | assumption | exact RowOk.le (by assumption) | omega) ?_)
  | (with_reducible refine fw_law_is_evener (by first | assumption | exact RowOk.le (by assumption) | omega) (by first | assumption | omega) ?_)
  ))
/-! any value as a paper; of the library: RowOk.shape RowOk.gd RowOk.le RowOk.nn RowOk.perm -/
theorem isW_inv {d : PD} {a b : Int} (h : isW d a b = true) : ∃ i, d = .int i ∧ a ≤ i ∧ i ≤ b := by
  cases d <;> try cases h
  simp only [isW, Bool.and_eq_true, decide_eq_true_eq] at h
  exact ⟨_, rfl, h.1, h.2⟩
theorem allW_nums {n : Int} : ∀ {ds : List PD}, (ds.all fun x => isW x 0 n) = true → ds = numL (ds.map toI) ∧ ∀ x ∈ ds.map toI, 0 ≤ x ∧ x ≤ n
  | [], _ => ⟨rfl, fun _ h => nomatch h⟩
  | d :: ds, h => by
    rw [List.all_cons, Bool.and_eq_true] at h
    obtain ⟨i, rfl, h1, h2⟩ := isW_inv h.1
    obtain ⟨e, g⟩ := allW_nums h.2
    refine ⟨?_, fun x hx => ?_⟩
    · show _ = PyData.int i :: numL (ds.map toI)
      rw [← e]
    · rcases List.mem_cons.mp hx with rfl | hx
      · exact ⟨h1, h2⟩
      · exact g x hx
theorem allI_nums : ∀ {ds : List PD}, (ds.all isI) = true → ds = numL (ds.map toI)
  | [], _ => rfl
  | d :: ds, h => by
    rw [List.all_cons, Bool.and_eq_true] at h
    have e := allI_nums h.2
    cases d <;> first | exact absurd h.1 Bool.false_ne_true | skip
    rename_i i
    show _ = PyData.int i :: numL (ds.map toI)
    rw [← e]
theorem allW_I {n : Int} {ds : List PD} (h : (ds.all fun x => isW x 0 n) = true) : ds.all isI = true := List.all_eq_true.mpr fun x hx => by
  obtain ⟨i, rfl, _⟩ := isW_inv (List.all_eq_true.mp h x hx)
  rfl
theorem row_shaped (q : List Int) : SeqAt.shaped (rowD q) = true := by
  have h := shaped_nums q
  simp only [SeqAt.shaped, PyData.canLay0, PyData.depth] at h ⊢
  exact h
theorem op_eqRows {q r : List Int} {Q : RV → Prop} (z : Q (.dat (.bool (decide (q = r))))) : Op (equD (rowD q) (rowD r)) Q := op_eq (row_shaped q) (row_shaped r) (by rw [eqv_row]; exact z)
theorem op_neLists {q r : List Int} {Q : RV → Prop} (z : Q (.dat (.bool (!decide (q = r))))) : Op (neqD (.list (numL q)) (.list (numL r))) Q := op_eq (shaped_nums q) (shaped_nums r) (by
  show Q (.dat (.bool (!PyData.eqv (.list (numL q)) (.list (numL r)))))
  rw [eqv_ints]; exact z)
theorem op_eqLists {q r : List Int} {Q : RV → Prop} (z : Q (.dat (.bool (decide (q = r))))) : Op (equD (.list (numL q)) (.list (numL r))) Q := op_eq (shaped_nums q) (shaped_nums r) (by
  rw [eqv_ints]; exact z)
theorem dedL_few {ls : List Int} {n : Nat} (h : ∀ x ∈ ls, 0 ≤ x ∧ x < n) : (dedL ls).length ≤ n := by
  have sub : ∀ x ∈ (dedL ls).map Int.toNat, x ∈ List.range n := fun x hx => by
    obtain ⟨v, hv, rfl⟩ := List.mem_map.mp hx
    have := h v (mem_dedL.mp hv)
    exact List.mem_range.mpr (by omega)
  have nd : ((dedL ls).map Int.toNat).Nodup := by
    refine List.pairwise_map.mpr (List.Pairwise.imp_of_mem (fun {a b} ha hb ne e => ne ?_) (nodup_dedL ls))
    have h1 := h a (mem_dedL.mp ha)
    have h2 := h b (mem_dedL.mp hb)
    omega
  have := L2.nat_nodup_len _ _ nd sub
  simpa using this
/-- the different ones, ascending -/
def ascL (ls : List Int) : List Int := (dedL ls).mergeSort fun a b => decide (a ≤ b)
theorem op_sortedSetT {ls : List Int} {Q : RV → Prop} (h1 : ls.length ≤ 4000) (h2 : (dedL ls).length < 64) (z : Q (.own (numL (ascL ls)))) : Op (sortedSetF [rowD ls]) Q := op_of (by
  have e : sortedSetF [rowD ls] = if ls.length ≤ 4000 ∧ (dedL ls).length < 64 then some (.own (sortedL ((dedL ls).map PyData.int))) else none := by
    simp only [sortedSetF, itemsOf, intsOf_map]
  rw [e, if_pos ⟨h1, h2⟩, sortedL_ints]; rfl) z
theorem ascL_len {ls : List Int} {n : Nat} (h : ∀ x ∈ ls, 0 ≤ x ∧ x < n) (e : ls = ascL ls) : ls.length ≤ n := by
  have := dedL_few h
  rw [e, ascL, List.length_mergeSort]
  exact this
def sidesV (r s ls : List Int) : Bool := decide (ls = ascL ls) && decide (gI (headsL s) ((ls.length : Int) - 1) < (ls.map fun i => gI r i).sum)
def partV (r s : List Int) (a : List PD) : Bool := !a.isEmpty && (a.all fun x => isW x 0 ((r.length : Int) - 1)) && sidesV r s (a.map toI)
def headsV (r s : List Int) (a b : List PD) : Bool := a.all isI && b.all isI && decide (a.map toI = headsL r) && decide (b.map toI = headsL s) && evB r s
def paperV (r s : List Int) : PD → Bool
  | .tuple [.str x, .tuple a, .tuple b] => PyData.eqv (.str x) (.str "heads") && headsV r s a b
  | .tuple [.str x, .tuple a] => PyData.eqv (.str x) (.str "sides") && partV r s a
  | _ => false
def isT (d : PD) (n : Int) : Bool := match d with
  | .tuple ds => decide ((ds.length : Int) = n)
  | _ => false
theorem fw_is_tupleV {d : PD} {n : Int} {Q : RV → List Val → Prop} (z : Q (.dat (.bool (isT d n))) [.dat d, .dat (.int n)]) : Fw m_is_tuple [.dat d, .dat (.int n)] Q := by
  refine fb_is_tuple ?_
  unfold b_is_tuple
  cases d <;> (repeat trivial)
def areH (r : List Int) : PD → Bool
  | .tuple a => a.all isI && decide (a.map toI = headsL r)
  | _ => false
theorem heads_bd {r : List Int} (h : RowOk r) : ∀ x ∈ headsL r, 0 ≤ x ∧ x ≤ 360 := fun x hx => by
  obtain ⟨k, hk, rfl⟩ := List.mem_map.mp hx
  have hs := h.shape
  have key : ∀ (l : List Int), (∀ x ∈ l, 0 ≤ x ∧ x ≤ 60) → 0 ≤ l.sum ∧ l.sum ≤ 60 * l.length := by
    intro l
    induction l with
    | nil => intro _; simp
    | cons a l ih =>
      intro h
      have h1 := h a (List.mem_cons_self ..)
      have h2 := ih fun x hx => h x (List.mem_cons_of_mem _ hx)
      rw [List.sum_cons, List.length_cons]
      omega
  have := key ((shapeL r).take (k + 1)) fun x hx => hs.el x (List.mem_of_mem_take hx)
  have hl : ((shapeL r).take (k + 1)).length ≤ 6 := by
    rw [List.length_take]; have := hs.l2; omega
  show 0 ≤ ((shapeL r).take (k + 1)).sum ∧ ((shapeL r).take (k + 1)).sum ≤ 360
  omega
theorem fw_are_heads {r : List Int} {d : PD} {Q : RV → List Val → Prop} (hr : RowOk r) (z : Q (.dat (.bool (areH r d))) [.dat (rowD r), .dat d]) : Fw m_are_heads [.dat (rowD r), .dat d] Q := by
  have rl := hr.le
  have h6 := hr.l2
  have hl := headsL_len r
  refine fb_are_heads ?_
  unfold b_are_heads
  repeat trivial
  refine fw_is_tupleV ?_
  cases d with
  | tuple ds =>
    by_cases h : ds.length = r.length
    · have e : isT (.tuple ds) r.length = true := decide_eq_true (by omega)
      rw [e]
      repeat trivial
      refine w_lc_t (enc := id) (l := ds) (fun x => .bool (isW x 0 400)) (by simp) (fun x hx => ?_) ?_
      · repeat trivial
      repeat trivial
      refine op_all ?_
      repeat trivial
      refine br_bool (fun h1 => ?_) (fun h1 => ?_)
      · obtain ⟨e2, g⟩ := allW_nums h1
        have hi := allW_I h1
        generalize hls : ds.map toI = ls at *
        have z : Q (.dat (.bool (decide (ls = headsL r)))) [.dat (rowD r), .dat (.tuple ds)] := by
          simpa only [areH, hi, hls, Bool.true_and] using z
        subst e2
        repeat trivial
        refine op_eqRows ?_
        repeat trivial
      · have e2 : areH r (.tuple ds) = false := by
          cases q : areH r (.tuple ds) with
          | false => rfl
          | true =>
            have q : (ds.all isI && decide (ds.map toI = headsL r)) = true := q
            rw [Bool.and_eq_true] at q
            have e3 := allI_nums q.1
            have e4 := of_decide_eq_true q.2
            rw [e4] at e3
            have : (ds.all fun x => isW x 0 400) = true := by
              rw [e3]
              refine List.all_eq_true.mpr fun x hx => ?_
              obtain ⟨v, hv, rfl⟩ := numL_mem hx
              have := heads_bd hr v hv
              exact isW_t (by omega)
            rw [this] at h1; cases h1
        rw [e2] at z
        repeat trivial
    · have e : isT (.tuple ds) r.length = false := decide_eq_false (by omega)
      have e2 : areH r (.tuple ds) = false := by
        cases q : areH r (.tuple ds) with
        | false => rfl
        | true =>
          have q : (ds.all isI && decide (ds.map toI = headsL r)) = true := q
          rw [Bool.and_eq_true] at q
          have := congrArg List.length (of_decide_eq_true q.2)
          rw [List.length_map, hl] at this
          exact absurd this h
      rw [e2] at z
      rw [e]
      repeat trivial
  | _ =>
    repeat trivial
end HD
namespace HD
open PySem L2 DL
local macro_rules | `(tactic| trivial) => `(tactic| first
  | ((with_reducible refine gRV ?_); first
    | (with_reducible refine w_c ?_)
    | ((with_reducible refine w_var (d := ?_) ?_ ?_); rotate_left; · exact rfl)
    | ((with_reducible refine w_varO (ds := ?_) ?_ ?_); rotate_left; · exact rfl)
    | ((with_reducible refine w_varR (ds := ?_) ?_ ?_); rotate_left; · exact rfl)
    | (with_reducible refine w_bin ?_)
    | (with_reducible refine w_blt ?_)
    | (with_reducible refine w_un ?_)
    | (with_reducible refine w_tup ?_)
    | (with_reducible refine w_lst ?_)
    | (with_reducible refine w_if ?_)
    | (with_reducible refine w_mut rfl ?_)
    | (with_reducible refine w_comp ?_)
    | (with_reducible refine w_slice ?_)
    | (with_reducible refine w_chain ?_)
    | (with_reducible refine w_andV ?_)
    | (with_reducible refine w_orV ?_)
    | (with_reducible refine w_notV ?_)
    | (with_reducible refine w_ofB ?_)
    | ((with_reducible refine w_varS (ds := ?_) ?_ ?_); rotate_left; · exact rfl)
    | ((with_reducible refine w_lenScr (ds := ?_) ?_ ?_); rotate_left; · exact rfl)
    | ((with_reducible refine w_ixScr (ds := ?_) ?_ ?_); rotate_left; · exact rfl)
    | (with_reducible refine w_rg1 ?_)
    | (with_reducible refine w_rg2 ?_)
    | (with_reducible refine w_read ?_)
    | ((with_reducible refine w_slScr (ds := ?_) ?_ ?_); rotate_left; · exact rfl)
    | ((with_reducible refine w_call ?_ ?_); rotate_left; (· exact hand_of _ _ _))
    | ((with_reducible refine w_callP ?_ ?_); rotate_left; (· exact hand_of _ _ _))
    | ((with_reducible refine w_callK ?_ ?_); rotate_left; (· exact hand_of _ _ _))
    | (with_reducible refine w_callN ?_))
  | ((with_reducible refine gRL ?_); first
    | (with_reducible refine w_cons ?_)
    | (with_reducible refine w_nil ?_))
  | ((with_reducible refine gFl ?_); first
    | (with_reducible refine w_seq ?_)
    | (with_reducible refine w_set ?_)
    | (with_reducible refine w_ifS ?_)
    | (with_reducible refine w_ret ?_)
    | (with_reducible refine w_asg ?_)
    | (with_reducible refine w_drop ?_)
    | (with_reducible refine w_par ?_)
    | (with_reducible refine w_for ?_)
    | (with_reducible refine w_next ?_))
  | ((with_reducible refine gBo ?_); first
    | (with_reducible refine w_truth ?_)
    | (with_reducible refine w_not ?_)
    | (with_reducible refine w_and ?_)
    | (with_reducible refine w_or ?_)
    | (with_reducible refine w_if ?_)
    | (with_reducible refine w_thawT ?_)
    | (with_reducible refine w_yes ?_))
  | ((with_reducible refine gPL ?_); first
    | (with_reducible refine w_args ?_)
    | (with_reducible refine w_items ?_)
    | (with_reducible refine w_range1 ?_)
    | (with_reducible refine w_range2 ?_)
    | (with_reducible refine w_enum ?_)
    | (with_reducible refine w_zip ?_))
  | ((with_reducible refine gOI ?_); first
    | (with_reducible refine w_partN ?_)
    | (with_reducible refine w_partS ?_))
  | ((with_reducible refine gO2 ?_); first
    | (with_reducible refine op2_tdC ?_)
    | (with_reducible refine op2_tdN ?_)
    | (with_reducible refine op2_tvC ?_)
    | (with_reducible refine op2_tvN ?_)
    | (refine op2_of rfl ?_))
  | ((with_reducible refine gOp ?_); first
    | (with_reducible refine op_bName ?_)
    | (with_reducible refine op_bTup rfl ?_)
    | (with_reducible refine op_bTup2 rfl ?_)
    | (with_reducible refine op_bTup2L rfl ?_)
    | (with_reducible refine op_bCons ?_)
    | (with_reducible refine op_bNil ?_)
    | ((with_reducible refine op_subR (r := ?_) ?_ ?_); rotate_left; · exact rfl)
    | (with_reducible refine op_resC ?_)
    | (with_reducible refine op_resN ?_)
    | (with_reducible refine op_addI ?_)
    | (with_reducible refine op_subI ?_)
    | (with_reducible refine op_lt ?_)
    | (with_reducible refine op_le ?_)
    | (with_reducible refine op_gt ?_)
    | (with_reducible refine op_ge ?_)
    | (with_reducible refine op_eqI ?_)
    | (with_reducible refine op_neI ?_)
    | (with_reducible refine op_int ?_)
    | (with_reducible refine op_eqB ?_)
    | (with_reducible refine op_neB ?_)
    | (with_reducible refine op_isB ?_)
    | (with_reducible refine op_notB ?_)
    | (with_reducible refine op_neSS ?_)
    | (with_reducible refine op_eqSS ?_)
    | (with_reducible refine op_eqSx (by decide +kernel) ?_)
    | (with_reducible refine op_neSx (by decide +kernel) ?_)
    | (with_reducible refine op_max2 ?_)
    | (with_reducible refine op_min2 ?_)
    | (with_reducible refine op_abs ?_)
    | (with_reducible refine op_lenR ?_)
    | (with_reducible refine op_lenRL ?_)
    | (with_reducible refine op_rev2R ?_)
    | (with_reducible refine op_rev2T ?_)
    | (with_reducible refine op_listR ?_)
    | (with_reducible refine op_sumR ?_)
    | (with_reducible refine op_sumRL ?_)
    | (with_reducible refine op_takeRL (by omega) ?_)
    | (with_reducible refine op_takeR (by omega) ?_)
    | (with_reducible refine op_dropRL (by omega) ?_)
    | (with_reducible refine op_dropR (by omega) ?_)
    | (with_reducible refine op_takePL (by omega) ?_)
    | (with_reducible refine op_dropPL (by omega) ?_)
    | (with_reducible refine op_takePT (by omega) ?_)
    | (with_reducible refine op_dropPT (by omega) ?_)
    | (with_reducible refine op_ixR (by first | omega | (simp only [List.length_set]; omega)) ?_)
    | (with_reducible refine op_ixRL (by first | omega | (simp only [List.length_set]; omega)) ?_)
    | (with_reducible refine op_mod (by first | decide | omega) ?_)
    | (with_reducible refine op_fdiv (by first | decide | omega) ?_)
    | (with_reducible refine op_mulI (by first | decide | omega) ?_)
    | (with_reducible refine op_mul2I (by first | decide | omega) ?_)
    | (with_reducible refine op_mul3I (by first | decide | omega) ?_)
    | (with_reducible refine op_divmod (by first | decide | omega) ?_)
    | (with_reducible refine op_divmod3 (by first | decide | omega) ?_)
    | (with_reducible refine op_pow (by first | decide | omega) ?_)
    | ((with_reducible apply op_reprG); (· (repeat (first | assumption | exact gl_nil | exact gd_none | exact gd_bool _ | exact gd_int (by omega) | exact gd_str | apply gl_cons | apply gd_l | apply gd_t))); (· decide); (· decide))
    | (with_reducible refine op_dbl ?_)
    | (with_reducible refine op_numT ?_)
    | (refine op_of rfl ?_))
  | ((with_reducible refine gBr ?_); first
    | (with_reducible refine br_tt ?_)
    | (with_reducible refine br_ff ?_)
    | (with_reducible refine br_f bne_self ?_)
    | (with_reducible refine br_not ?_)
    | (with_reducible refine br_yes (by first | decide | omega) ?_)
    | (with_reducible refine br_no (by first | decide | omega) ?_)
    | (with_reducible refine br_t (isW_t (by omega)) ?_)
    | (refine br_t (by rfl) ?_)
    | (refine br_f (by rfl) ?_))
  | ((with_reducible refine go_nx (w_norm (ρ' := ?_) ?_ ?_)); rotate_left; · first | (dsimp only [List.set, back, Val.put, List.getElem?_cons_zero, List.getElem?_cons_succ, wipeE, backE]; exact rfl) | exact rfl)
  | ((with_reducible refine nm_of (ρ' := ?_) ?_ ?_); rotate_left; · first | (dsimp only [List.set, back, Val.put, List.getElem?_cons_zero, List.getElem?_cons_succ, wipeE, backE]; exact rfl) | exact rfl)
  | ((with_reducible refine fwN (ys := ?_) ?_ ?_); rotate_left; · (dsimp only [List.filterMap_cons, List.filterMap_nil, List.getElem?_cons_zero, List.getElem?_cons_succ]; exact rfl))
  | (with_reducible refine go_rt ?_)
  | (with_reducible refine and_bd (by omega) (by omega) ?_)
  | (with_reducible refine and_rg (by omega) (by omega) ?_)
  | (with_reducible refine and_lk (by first | omega | (simp only [rangeD_len, List.length_map, List.length_cons, List.length_nil]; omega)) ?_)
  | (with_reducible refine and_ix (by first | omega | (simp only [List.length_set]; omega)) ?_)
  | (with_reducible refine tr_of ?_)
  | (with_reducible refine end_dat ?_)
  | (with_reducible refine end_own ?_)
  | (with_reducible refine end_nx ?_)
  | (with_reducible refine turn_nx ?_)
  | (with_reducible refine turn_rt ?_)
  | ((with_reducible refine gEx ?_); first | (refine ⟨_, _, rfl, ?_⟩) | (refine ⟨_, rfl, ?_⟩) | (refine ⟨_, _, rfl, rfl, ?_⟩))
  | ((with_reducible refine gAn ?_); first | (refine ⟨Nat.le_of_ble_eq_true rfl, ?_⟩) | (refine ⟨rfl, ?_⟩))
  | (with_reducible refine w_pl ?_)
  | (with_reducible refine w_seqX ?_)
  | (with_reducible refine w_ifX ?_)
  | (with_reducible refine w_forX ?_)
  | (with_reducible refine w_raise ?_)
  | (with_reducible refine w_setX ?_)
  | (with_reducible refine w_lst2X ?_)
  | (with_reducible refine w_try ?_)
  | (with_reducible refine w_callE ?_)
  | (with_reducible refine gox_rt ?_)
  | (with_reducible refine gox_ex ?_)
  | (with_reducible refine endx_dat ?_)
  | (with_reducible refine endx_own ?_)
  | (with_reducible refine endx_nx ?_)
  | (with_reducible refine endx_ex ?_)
  | (with_reducible refine turnx_ex ?_)
  | (with_reducible refine turnx_nx ?_)
  | (with_reducible refine tryo_ex ?_)
  | (with_reducible refine tryo_fl ?_)
  | (with_reducible refine seto_v ?_)
  | (with_reducible refine seto_x ?_)
  | (with_reducible refine lst2_d ?_)
  | (with_reducible refine lst2_o ?_)
  | (with_reducible refine lst2_x ?_)
  | (with_reducible refine w_told ⟨Nat.le_of_ble_eq_true rfl, by decide⟩ ?_)
  | ((with_reducible refine gox_nx (w_norm (ρ' := ?_) ?_ ?_)); rotate_left; · first | (dsimp only [List.set, back, Val.put, List.getElem?_cons_zero, List.getElem?_cons_succ, wipeE, backE]; exact rfl) | exact rfl))
local macro_rules | `(tactic| trivial) => `(tactic| ((with_reducible refine gFw ?_); first
  | (with_reducible refine fw_is_integer ?_)
  | (with_reducible refine fw_is_within ?_)
  | (with_reducible refine fw_want_row (by assumption) ?_)
  | (with_reducible refine fw_want_as_many (by first | assumption | omega) ?_)
  | (with_reducible refine fw_want_like (by assumption) (by assumption) (by first | assumption | omega) (by first | assumption | omega) ?_)
  | (with_reducible refine fw_shape_of (by first | assumption | exact RowOk.le (by assumption) | omega) ?_)
  | (with_reducible refine fw_heads_of (by first | assumption | exact RowOk.le (by assumption) | omega) ?_)
  | (with_reducible refine fw_law_shape (by first | assumption | exact RowOk.le (by assumption) | omega) ?_)
  | (with_reducible refine fw_law_heads (by first | assumption | exact RowOk.le (by assumption) | omega) ?_)
  | (with_reducible refine fw_law_is_evener (by first | assumption | exact RowOk.le (by assumption) | omega) (by first | assumption | omega) ?_)
  ))
theorem paperV_n2 {r s : List Int} {x y : PD} (h : PyData.eqv x (.str "heads") = true) : paperV r s (.tuple [x, y]) = false := by
  cases x <;> try rfl
  rename_i x
  cases y <;> try rfl
  show (PyData.eqv (.str x) (.str "sides") && _) = false
  have : PyData.eqv (.str x) (.str "sides") = false := by
    have e : x = "heads" := by simpa [PyData.eqv] using h
    rw [e]; decide +kernel
  rw [this]; rfl
theorem paperV_str {r s : List Int} {ds : List PD} {x : Str} (h1 : PyData.eqv (.str x) (.str "heads") = false) (h2 : PyData.eqv (.str x) (.str "sides") = false) : paperV r s (.tuple (.str x :: ds)) = false := by
  match ds with
  | [] => rfl
  | [y] =>
    cases y <;> try rfl
    show (PyData.eqv (.str x) (.str "sides") && _) = false
    rw [h2]; rfl
  | [y, w] =>
    cases y <;> try rfl
    cases w <;> try rfl
    show (PyData.eqv (.str x) (.str "heads") && _) = false
    rw [h1]; rfl
  | y :: w :: _ :: _ =>
    cases y <;> try rfl
    cases w <;> rfl
theorem paperV_long {r s : List Int} {x y w v : PD} {t : List PD} : paperV r s (.tuple (x :: y :: w :: v :: t)) = false := by
  cases x <;> try rfl
  cases y <;> try rfl
  cases w <;> rfl
theorem heads_all {r s : List Int} (hl : r.length = s.length) : zipD (numL (headsL r)) (numL (headsL s)) = (List.range s.length).map fun k => PyData.tuple [.int (topK r (k + 1)), .int (topK s (k + 1))] := by
  rw [zipD_nums, headsL, headsL, hl, zip_maps, List.map_map]
  rfl
theorem areH_eq {q : List Int} {v : PD} (h : areH q v = true) : v = rowD (headsL q) := by
  cases v <;> try cases h
  rename_i a
  have h : (a.all isI && decide (a.map toI = headsL q)) = true := h
  rw [Bool.and_eq_true] at h
  have e1 := allI_nums h.1
  rw [of_decide_eq_true h.2] at e1
  rw [e1]
theorem fw_is_evener_paperV {r s : List Int} {d : PD} {Q : RV → List Val → Prop} (hr : RowOk r) (hs : RowOk s) (hl : r.length = s.length) (he : r.sum = s.sum) (hn : d.weight ≤ 4000) (z : Q (.dat (.bool (paperV r s d))) [.dat (rowD r), .dat (rowD s), .dat d]) : Fw m_is_evener_paper [.dat (rowD r), .dat (rowD s), .dat d] Q := by
  have rl := hr.le
  have sl := hs.le
  have h6 := hr.l2
  refine fb_is_evener_paper ?_
  unfold b_is_evener_paper
  cases d with
  | tuple ds =>
    match ds with
    | [] => repeat trivial
    | [x] =>
      have e : paperV r s (.tuple [x]) = false := by cases x <;> rfl
      rw [e] at z
      repeat trivial
    | [x, y] =>
      cases x with
      | str x =>
        repeat trivial
        refine op_eqS ?_
        repeat trivial
        refine br_bool (fun h1 => ?_) (fun h1 => ?_)
        · rw [paperV_n2 h1] at z
          repeat trivial
        · repeat trivial
          refine op_eqS ?_
          repeat trivial
          refine br_bool (fun h2 => ?_) (fun h2 => ?_)
          · cases y with
            | tuple a =>
              have z : Q (.dat (.bool (partV r s a))) [.dat (rowD r), .dat (rowD s), .dat (.tuple [.str x, .tuple a])] := by
                have e : paperV r s (.tuple [.str x, .tuple a]) = (PyData.eqv (.str x) (.str "sides") && partV r s a) := rfl
                rw [e, h2, Bool.true_and] at z
                exact z
              repeat trivial
              have hn : a.length ≤ 4000 := by
                have := weightAll_len a
                simp only [PyData.weight, PyData.weightAll] at hn
                omega
              cases q : a.isEmpty with
              | true =>
                have z : Q (.dat (.bool false)) [.dat (rowD r), .dat (rowD s), .dat (.tuple [.str x, .tuple a])] := by simpa [partV, q] using z
                repeat trivial
              | false =>
                repeat trivial
                refine w_lc_t (enc := id) (l := a) (fun x => .bool (isW x 0 ((r.length : Int) - 1))) (by simp) (fun x hx => ?_) ?_
                · repeat trivial
                repeat trivial
                refine op_all ?_
                repeat trivial
                refine br_bool (fun h3 => ?_) (fun h3 => ?_)
                · obtain ⟨e, g⟩ := allW_nums h3
                  generalize hls : a.map toI = ls at *
                  have hne : ls ≠ [] := fun h => by subst hls; rw [List.map_eq_nil_iff] at h; subst h; cases q
                  have z : Q (.dat (.bool (sidesV r s ls))) [.dat (rowD r), .dat (rowD s), .dat (.tuple [.str x, .tuple a])] := by
                    simpa only [partV, q, h3, hls, Bool.not_false, Bool.true_and] using z
                  have hn2 : ls.length ≤ 4000 := by rw [e, List.length_map] at hn; exact hn
                  have hd := dedL_few (n := r.length) (ls := ls) fun x hx => by have := g x hx; omega
                  subst e
                  repeat trivial
                  refine op_sortedSetT hn2 (by omega) ?_
                  repeat trivial
                  refine op_neLists ?_
                  repeat trivial
                  refine br_dec (fun h4 => ?_) (fun h4 => ?_)
                  · have hlen := ascL_len (n := r.length) (fun x hx => by have := g x hx; omega) h4
                    have hpos := List.length_pos_iff.mpr hne
                    have hh := headsL_len s
                    have z : Q (.dat (.bool (decide (gI (headsL s) ((ls.length : Int) - 1) < (ls.map fun i => gI r i).sum)))) [.dat (rowD r), .dat (rowD s), .dat (.tuple [.str x, rowD ls])] := by
                      simpa only [sidesV, decide_eq_true h4, Bool.true_and] using z
                    repeat trivial
                    refine w_lc_i (enc := fun i : Int => PyData.int i) (l := ls) (fun i => gI r i) rfl (fun i hi => ?_) ?_
                    · have := g i hi
                      repeat trivial
                    repeat trivial
                  · have z : Q (.dat (.bool false)) [.dat (rowD r), .dat (rowD s), .dat (.tuple [.str x, rowD ls])] := by
                      simpa only [sidesV, decide_eq_false h4, Bool.false_and] using z
                    repeat trivial
                · have z : Q (.dat (.bool false)) [.dat (rowD r), .dat (rowD s), .dat (.tuple [.str x, .tuple a])] := by
                    simpa only [partV, q, h3, Bool.not_false, Bool.true_and, Bool.false_and] using z
                  repeat trivial
            | _ =>
              have z : Q (.dat (.bool false)) [.dat (rowD r), .dat (rowD s), .dat (.tuple [.str x, _])] := z
              repeat trivial
          · rw [paperV_str h1 h2] at z
            repeat trivial
      | _ =>
        have z : Q (.dat (.bool false)) [.dat (rowD r), .dat (rowD s), .dat (.tuple [_, y])] := z
        repeat trivial
    | [x, y, w] =>
      cases x with
      | str x =>
        repeat trivial
        refine op_eqS ?_
        repeat trivial
        refine br_bool (fun h1 => ?_) (fun h1 => ?_)
        · have e : paperV r s (.tuple [.str x, y, w]) = (areH r y && areH s w && evB r s) := by
            cases y <;> try rfl
            cases w <;> try (simp [paperV, areH]; done)
            rename_i a b
            show (PyData.eqv (.str x) (.str "heads") && headsV r s a b) = _
            rw [h1]
            simp only [headsV, areH, Bool.true_and]
            cases a.all isI <;> cases b.all isI <;> simp
          rw [e] at z
          repeat trivial
          refine fw_are_heads hr ?_
          repeat trivial
          refine br_bool (fun h2 => ?_) (fun h2 => ?_)
          · repeat trivial
            refine fw_are_heads hs ?_
            repeat trivial
            refine br_bool (fun h3 => ?_) (fun h3 => ?_)
            · rw [h2, h3] at z
              have z : Q (.dat (.bool (evB r s))) [.dat (rowD r), .dat (rowD s), .dat (.tuple [.str x, y, w])] := z
              have y1 := areH_eq h2
              have w1 := areH_eq h3
              subst y1 w1
              have hh := headsL_len r
              have hh2 := headsL_len s
              repeat trivial
              rw [heads_all hl]
              refine and_lk (by simp; omega) ?_
              repeat trivial
              refine w_lc_t (fun k => .bool (decide (topK r (k + 1) ≤ topK s (k + 1)))) rfl (fun k hk => ?_) ?_
              · repeat trivial
              repeat trivial
              refine op_all ?_
              repeat trivial
            · rw [h2, h3] at z
              repeat trivial
          · rw [h2] at z
            repeat trivial
        · repeat trivial
          refine op_eqS ?_
          repeat trivial
          refine br_bool (fun h2 => ?_) (fun h2 => ?_)
          · have z : Q (.dat (.bool false)) [.dat (rowD r), .dat (rowD s), .dat (.tuple [.str x, y, w])] := by
              have e : paperV r s (.tuple [.str x, y, w]) = false := by
                cases y <;> try rfl
                cases w <;> try rfl
                show (PyData.eqv (.str x) (.str "heads") && _) = false
                rw [h1]; rfl
              rw [e] at z
              exact z
            repeat trivial
          · rw [paperV_str h1 h2] at z
            repeat trivial
      | _ =>
        have z : Q (.dat (.bool false)) [.dat (rowD r), .dat (rowD s), .dat (.tuple [_, y, w])] := z
        repeat trivial
    | x :: y :: w :: v :: t =>
      rw [paperV_long] at z
      have ix0 : ∀ {P : RV → Prop}, P (.dat x) → Op (ixD (.tuple (x :: y :: w :: v :: t)) (.int 0)) P := fun {P} h => op_ixT (atI_nat (k := 0) rfl) h
      have hn4 : 4 ≤ (x :: y :: w :: v :: t).length := by simp only [List.length_cons]; omega
      generalize (x :: y :: w :: v :: t) = ds at *
      repeat trivial
      refine ix0 ?_
      cases x with
      | str x =>
        repeat trivial
        refine ix0 ?_
        repeat trivial
        refine op_eqS ?_
        repeat trivial
        refine br_bool (fun h1 => ?_) (fun h1 => ?_)
        · repeat trivial
        · repeat trivial
          refine ix0 ?_
          repeat trivial
          refine op_eqS ?_
          repeat trivial
          refine br_bool (fun h2 => ?_) (fun h2 => ?_)
          · repeat trivial
          · repeat trivial
      | _ => repeat trivial
  | _ => repeat trivial
end HD
namespace HD
open PySem L2 DL
local macro_rules | `(tactic| trivial) => `(tactic| first
  | ((with_reducible refine gRV ?_); first
    | (with_reducible refine w_c ?_)
    | ((with_reducible refine w_var (d := ?_) ?_ ?_); rotate_left; · exact rfl)
    | ((with_reducible refine w_varO (ds := ?_) ?_ ?_); rotate_left; · exact rfl)
    | ((with_reducible refine w_varR (ds := ?_) ?_ ?_); rotate_left; · exact rfl)
    | (with_reducible refine w_bin ?_)
    | (with_reducible refine w_blt ?_)
    | (with_reducible refine w_un ?_)
    | (with_reducible refine w_tup ?_)
    | (with_reducible refine w_lst ?_)
    | (with_reducible refine w_if ?_)
    | (with_reducible refine w_mut rfl ?_)
    | (with_reducible refine w_comp ?_)
    | (with_reducible refine w_slice ?_)
    | (with_reducible refine w_chain ?_)
    | (with_reducible refine w_andV ?_)
    | (with_reducible refine w_orV ?_)
    | (with_reducible refine w_notV ?_)
    | (with_reducible refine w_ofB ?_)
    | ((with_reducible refine w_varS (ds := ?_) ?_ ?_); rotate_left; · exact rfl)
    | ((with_reducible refine w_lenScr (ds := ?_) ?_ ?_); rotate_left; · exact rfl)
    | ((with_reducible refine w_ixScr (ds := ?_) ?_ ?_); rotate_left; · exact rfl)
    | (with_reducible refine w_rg1 ?_)
    | (with_reducible refine w_rg2 ?_)
    | (with_reducible refine w_read ?_)
    | ((with_reducible refine w_slScr (ds := ?_) ?_ ?_); rotate_left; · exact rfl)
    | ((with_reducible refine w_call ?_ ?_); rotate_left; (· exact hand_of _ _ _))
    | ((with_reducible refine w_callP ?_ ?_); rotate_left; (· exact hand_of _ _ _))
    | ((with_reducible refine w_callK ?_ ?_); rotate_left; (· exact hand_of _ _ _))
    | (with_reducible refine w_callN ?_))
  | ((with_reducible refine gRL ?_); first
    | (with_reducible refine w_cons ?_)
    | (with_reducible refine w_nil ?_))
  | ((with_reducible refine gFl ?_); first
    | (with_reducible refine w_seq ?_)
    | (with_reducible refine w_set ?_)
    | (with_reducible refine w_ifS ?_)
    | (with_reducible refine w_ret ?_)
    | (with_reducible refine w_asg ?_)
    | (with_reducible refine w_drop ?_)
    | (with_reducible refine w_par ?_)
    | (with_reducible refine w_for ?_)
    | (with_reducible refine w_next ?_))
  | ((with_reducible refine gBo ?_); first
    | (with_reducible refine w_truth ?_)
    | (with_reducible refine w_not ?_)
    | (with_reducible refine w_and ?_)
    | (with_reducible refine w_or ?_)
    | (with_reducible refine w_if ?_)
    | (with_reducible refine w_thawT ?_)
    | (with_reducible refine w_yes ?_))
  | ((with_reducible refine gPL ?_); first
    | (with_reducible refine w_args ?_)
    | (with_reducible refine w_items ?_)
    | (with_reducible refine w_range1 ?_)
    | (with_reducible refine w_range2 ?_)
    | (with_reducible refine w_enum ?_)
    | (with_reducible refine w_zip ?_))
  | ((with_reducible refine gOI ?_); first
    | (with_reducible refine w_partN ?_)
    | (with_reducible refine w_partS ?_))
  | ((with_reducible refine gO2 ?_); first
    | (with_reducible refine op2_tdC ?_)
    | (with_reducible refine op2_tdN ?_)
    | (with_reducible refine op2_tvC ?_)
    | (with_reducible refine op2_tvN ?_)
    | (refine op2_of rfl ?_))
  | ((with_reducible refine gOp ?_); first
    | (with_reducible refine op_bName ?_)
    | (with_reducible refine op_bTup rfl ?_)
    | (with_reducible refine op_bTup2 rfl ?_)
    | (with_reducible refine op_bTup2L rfl ?_)
    | (with_reducible refine op_bCons ?_)
    | (with_reducible refine op_bNil ?_)
    | ((with_reducible refine op_subR (r := ?_) ?_ ?_); rotate_left; · exact rfl)
    | (with_reducible refine op_resC ?_)
    | (with_reducible refine op_resN ?_)
    | (with_reducible refine op_addI ?_)
    | (with_reducible refine op_subI ?_)
    | (with_reducible refine op_lt ?_)
    | (with_reducible refine op_le ?_)
    | (with_reducible refine op_gt ?_)
    | (with_reducible refine op_ge ?_)
    | (with_reducible refine op_eqI ?_)
    | (with_reducible refine op_neI ?_)
    | (with_reducible refine op_int ?_)
    | (with_reducible refine op_eqB ?_)
    | (with_reducible refine op_neB ?_)
    | (with_reducible refine op_isB ?_)
    | (with_reducible refine op_notB ?_)
    | (with_reducible refine op_neSS ?_)
    | (with_reducible refine op_eqSS ?_)
    | (with_reducible refine op_eqSx (by decide +kernel) ?_)
    | (with_reducible refine op_neSx (by decide +kernel) ?_)
    | (with_reducible refine op_max2 ?_)
    | (with_reducible refine op_min2 ?_)
    | (with_reducible refine op_abs ?_)
    | (with_reducible refine op_lenR ?_)
    | (with_reducible refine op_lenRL ?_)
    | (with_reducible refine op_rev2R ?_)
    | (with_reducible refine op_rev2T ?_)
    | (with_reducible refine op_listR ?_)
    | (with_reducible refine op_sumR ?_)
    | (with_reducible refine op_sumRL ?_)
    | (with_reducible refine op_takeRL (by omega) ?_)
    | (with_reducible refine op_takeR (by omega) ?_)
    | (with_reducible refine op_dropRL (by omega) ?_)
    | (with_reducible refine op_dropR (by omega) ?_)
    | (with_reducible refine op_takePL (by omega) ?_)
    | (with_reducible refine op_dropPL (by omega) ?_)
    | (with_reducible refine op_takePT (by omega) ?_)
    | (with_reducible refine op_dropPT (by omega) ?_)
    | (with_reducible refine op_ixR (by first | omega | (simp only [List.length_set]; omega)) ?_)
    | (with_reducible refine op_ixRL (by first | omega | (simp only [List.length_set]; omega)) ?_)
    | (with_reducible refine op_mod (by first | decide | omega) ?_)
    | (with_reducible refine op_fdiv (by first | decide | omega) ?_)
    | (with_reducible refine op_mulI (by first | decide | omega) ?_)
    | (with_reducible refine op_mul2I (by first | decide | omega) ?_)
    | (with_reducible refine op_mul3I (by first | decide | omega) ?_)
    | (with_reducible refine op_divmod (by first | decide | omega) ?_)
    | (with_reducible refine op_divmod3 (by first | decide | omega) ?_)
    | (with_reducible refine op_pow (by first | decide | omega) ?_)
    | ((with_reducible apply op_reprG); (· (repeat (first | assumption | exact gl_nil | exact gd_none | exact gd_bool _ | exact gd_int (by omega) | exact gd_str | apply gl_cons | apply gd_l | apply gd_t))); (· decide); (· decide))
    | (with_reducible refine op_dbl ?_)
    | (with_reducible refine op_numT ?_)
    | (refine op_of rfl ?_))
  | ((with_reducible refine gBr ?_); first
    | (with_reducible refine br_tt ?_)
    | (with_reducible refine br_ff ?_)
    | (with_reducible refine br_f bne_self ?_)
    | (with_reducible refine br_not ?_)
    | (with_reducible refine br_yes (by first | decide | omega) ?_)
    | (with_reducible refine br_no (by first | decide | omega) ?_)
    | (with_reducible refine br_t (isW_t (by omega)) ?_)
    | (refine br_t (by rfl) ?_)
    | (refine br_f (by rfl) ?_))
  | ((with_reducible refine go_nx (w_norm (ρ' := ?_) ?_ ?_)); rotate_left; · first | (dsimp only [List.set, back, Val.put, List.getElem?_cons_zero, List.getElem?_cons_succ, wipeE, backE]; exact rfl) | exact rfl)
  | ((with_reducible refine nm_of (ρ' := ?_) ?_ ?_); rotate_left; · first | (dsimp only [List.set, back, Val.put, List.getElem?_cons_zero, List.getElem?_cons_succ, wipeE, backE]; exact rfl) | exact rfl)
  | ((with_reducible refine fwN (ys := ?_) ?_ ?_); rotate_left; · (dsimp only [List.filterMap_cons, List.filterMap_nil, List.getElem?_cons_zero, List.getElem?_cons_succ]; exact rfl))
  | (with_reducible refine go_rt ?_)
  | (with_reducible refine and_bd (by omega) (by omega) ?_)
  | (with_reducible refine and_rg (by omega) (by omega) ?_)
  | (with_reducible refine and_lk (by first | omega | (simp only [rangeD_len, List.length_map, List.length_cons, List.length_nil]; omega)) ?_)
  | (with_reducible refine and_ix (by first | omega | (simp only [List.length_set]; omega)) ?_)
  | (with_reducible refine tr_of ?_)
  | (with_reducible refine end_dat ?_)
  | (with_reducible refine end_own ?_)
  | (with_reducible refine end_nx ?_)
  | (with_reducible refine turn_nx ?_)
  | (with_reducible refine turn_rt ?_)
  | ((with_reducible refine gEx ?_); first | (refine ⟨_, _, rfl, ?_⟩) | (refine ⟨_, rfl, ?_⟩) | (refine ⟨_, _, rfl, rfl, ?_⟩))
  | ((with_reducible refine gAn ?_); first | (refine ⟨Nat.le_of_ble_eq_true rfl, ?_⟩) | (refine ⟨rfl, ?_⟩))
  | (with_reducible refine w_pl ?_)
  | (with_reducible refine w_seqX ?_)
  | (with_reducible refine w_ifX ?_)
  | (with_reducible refine w_forX ?_)
  | (with_reducible refine w_raise ?_)
  | (with_reducible refine w_setX ?_)
  | (with_reducible refine w_lst2X ?_)
  | (with_reducible refine w_try ?_)
  | (with_reducible refine w_callE ?_)
  | (with_reducible refine gox_rt ?_)
  | (with_reducible refine gox_ex ?_)
  | (with_reducible refine endx_dat ?_)
  | (with_reducible refine endx_own ?_)
  | (with_reducible refine endx_nx ?_)
  | (with_reducible refine endx_ex ?_)
  | (with_reducible refine turnx_ex ?_)
  | (with_reducible refine turnx_nx ?_)
  | (with_reducible refine tryo_ex ?_)
  | (with_reducible refine tryo_fl ?_)
  | (with_reducible refine seto_v ?_)
  | (with_reducible refine seto_x ?_)
  | (with_reducible refine lst2_d ?_)
  | (with_reducible refine lst2_o ?_)
  | (with_reducible refine lst2_x ?_)
  | (with_reducible refine w_told ⟨Nat.le_of_ble_eq_true rfl, by decide⟩ ?_)
  | ((with_reducible refine gox_nx (w_norm (ρ' := ?_) ?_ ?_)); rotate_left; · first | (dsimp only [List.set, back, Val.put, List.getElem?_cons_zero, List.getElem?_cons_succ, wipeE, backE]; exact rfl) | exact rfl))
local macro_rules | `(tactic| trivial) => `(tactic| ((with_reducible refine gFw ?_); first
  | (with_reducible refine fw_is_integer ?_)
  | (with_reducible refine fw_is_within ?_)
  | (with_reducible refine fw_want_row (by assumption) ?_)
  | (with_reducible refine fw_want_as_many (by first | assumption | omega) ?_)
  | (with_reducible refine fw_want_like (by assumption) (by assumption) (by first | assumption | omega) (by first | assumption | omega) ?_)
  | (with_reducible refine fw_shape_of (by first | assumption | exact RowOk.le (by assumption) | omega) ?_)
  | (with_reducible refine fw_heads_of (by first | assumption | exact RowOk.le (by assumption) | omega) ?_)
  | (with_reducible refine fw_law_shape (by first | assumption | exact RowOk.le (by assumption) | omega) ?_)
  | (with_reducible refine fw_law_heads (by first | assumption | exact RowOk.le (by assumption) | omega) ?_)
  | (with_reducible refine fw_law_is_evener (by first | assumption | exact RowOk.le (by assumption) | omega) (by first | assumption | omega) ?_)
  ))
theorem isD_tup {d : PD} (h : isD "tuple" d = true) : ∃ a, d = .tuple a := by
  cases d <;> first | exact ⟨_, rfl⟩ | exact absurd h Bool.false_ne_true
def itemsT : PD → List PD
  | .tuple a => a
  | _ => []
theorem rows_of : ∀ {rest : List PD}, (rest.all fun d => isD "tuple" d) = true → (rest.all fun d => (itemsT d).all isI) = true → ∃ R : List (List Int), rest = R.map rowD
  | [], _, _ => ⟨[], rfl⟩
  | d :: rest, h1, h2 => by
    rw [List.all_cons, Bool.and_eq_true] at h1 h2
    obtain ⟨a, rfl⟩ := isD_tup h1.1
    obtain ⟨R, rfl⟩ := rows_of h1.2 h2.2
    exact ⟨a.map toI :: R, by
      have e : a = numL (a.map toI) := allI_nums h2.1
      show PyData.tuple a :: _ = PyData.tuple (numL (a.map toI)) :: _
      rw [← e]⟩
theorem paperV_tup {r s : List Int} {x : PD} {rest : List PD} (h : (rest.all fun d => isD "tuple" d) = false) : paperV r s (.tuple (x :: rest)) = false := by
  cases q : paperV r s (.tuple (x :: rest)) with
  | false => rfl
  | true =>
    unfold paperV at q
    split at q
    · rename_i e; cases e; cases h
    · rename_i e; cases e; cases h
    · cases q
theorem paperV_ints {r s : List Int} {x : PD} {rest : List PD} (h : (rest.all fun d => (itemsT d).all isI) = false) : paperV r s (.tuple (x :: rest)) = false := by
  cases q : paperV r s (.tuple (x :: rest)) with
  | false => rfl
  | true =>
    unfold paperV at q
    split at q
    · rename_i x a b e
      cases e
      simp only [headsV, Bool.and_eq_true] at q
      have : ([PyData.tuple a, PyData.tuple b].all fun d => (itemsT d).all isI) = true := by
        simp only [List.all_cons, List.all_nil, itemsT, q.2.1.1.1.1, q.2.1.1.1.2, Bool.and_self]
      rw [this] at h; cases h
    · rename_i x a e
      cases e
      simp only [partV, Bool.and_eq_true] at q
      have : ([PyData.tuple a].all fun d => (itemsT d).all isI) = true := by
        simp only [List.all_cons, List.all_nil, itemsT, allW_I q.2.1.2, Bool.and_self]
      rw [this] at h; cases h
    · cases q
theorem eqv_rowsD : ∀ R S : List (List Int), PyData.eqvAll (R.map rowD) (S.map rowD) = decide (R = S)
  | [], [] => by simp [PyData.eqvAll]
  | [], _ :: _ => by simp [PyData.eqvAll]
  | _ :: _, [] => by simp [PyData.eqvAll]
  | a :: R, b :: S => by
    have ih := eqv_rowsD R S
    simp only [List.map_cons, PyData.eqvAll, eqv_row, ih, List.cons.injEq, Bool.decide_and]
theorem shaped_rowsT (R : List (List Int)) : SeqAt.shaped (.tuple (R.map rowD)) = true := by
  have h1 : ∀ R : List (List Int), PyData.canLayAll0 (R.map rowD) = true := fun R => by
    induction R with
    | nil => rfl
    | cons x r ih =>
      have := row_shaped x
      simp only [SeqAt.shaped, Bool.and_eq_true] at this
      simp only [List.map_cons, PyData.canLayAll0, this.1, ih, Bool.and_self]
  have h3 : PyData.depthAll (R.map rowD) ≤ 1 := depthAll_le fun d hd => by
    obtain ⟨v, _, rfl⟩ := List.mem_map.mp hd
    have h4 : PyData.depthAll (numL v) ≤ 0 := depthAll_le fun d hd => by
      obtain ⟨v, _, rfl⟩ := numL_mem hd
      simp [PyData.depth]
    simp only [PyData.depth]
    omega
  have h5 : (PyData.tuple (R.map rowD)).depth ≤ 2 := by simp only [PyData.depth]; omega
  simp only [SeqAt.shaped, PyData.canLay0, h1 R, Bool.true_and, decide_eq_true_eq]
  omega
theorem op_eqRowsT {R S : List (List Int)} {Q : RV → Prop} (z : Q (.dat (.bool (decide (R = S))))) : Op (equD (.tuple (R.map rowD)) (.tuple (S.map rowD))) Q := op_eq (shaped_rowsT R) (shaped_rowsT S) (by
  rw [show PyData.eqv (.tuple (R.map rowD)) (.tuple (S.map rowD)) = PyData.eqvAll (R.map rowD) (S.map rowD) by simp only [PyData.eqv], eqv_rowsD]
  exact z)
theorem numL_isI (ls : List Int) : (numL ls).all isI = true := List.all_eq_true.mpr fun x hx => by
  obtain ⟨v, _, rfl⟩ := numL_mem hx
  rfl
theorem paperV_heads {r s : List Int} {x : Str} {R : List (List Int)} (h : PyData.eqv (.str x) (.str "heads") = true) : paperV r s (.tuple (.str x :: R.map rowD)) = (decide (R = [headsL r, headsL s]) && evB r s) := by
  match R with
  | [] => rfl
  | [a] =>
    have := paperV_n2 (r := r) (s := s) (x := .str x) (y := rowD a) h
    rw [show ([a].map rowD) = [rowD a] from rfl, this]
    simp
  | [a, b] =>
    show (PyData.eqv (.str x) (.str "heads") && headsV r s (numL a) (numL b)) = _
    rw [h]
    simp only [headsV, numL_isI, toI_numL, Bool.true_and, List.cons.injEq, and_true, Bool.decide_and]
  | a :: b :: c :: t =>
    rw [show ((a :: b :: c :: t).map rowD) = rowD a :: rowD b :: rowD c :: t.map rowD from rfl, paperV_long]
    simp
theorem fw_law_are_sides {ls : List Int} {n : Int} {Q : RV → List Val → Prop} (hl : ls.length ≤ 4000) (z : Q (.dat (.bool ((numL ls).all fun x => isW x 0 (n - 1)))) [.dat (rowD ls), .dat (.int n)]) : Fw m__law_are_sides [.dat (rowD ls), .dat (.int n)] Q := by
  refine fb__law_are_sides ?_
  unfold b__law_are_sides
  repeat trivial
  refine w_lc_t (enc := id) (l := numL ls) (fun x => .bool (isW x 0 (n - 1))) (by simp) (fun y hy => ?_) ?_
  · obtain ⟨i, _, rfl⟩ := numL_mem hy
    repeat trivial
    refine br_dec (fun c => ?_) (fun c => ?_)
    · repeat trivial
      refine ⟨congrArg PyData.bool ?_, rfl⟩
      rw [Bool.eq_iff_iff]
      simp only [isW, Bool.and_eq_true, decide_eq_true_eq]
      exact ⟨fun c2 => ⟨c, by omega⟩, fun c2 => by omega⟩
    · repeat trivial
      refine ⟨congrArg PyData.bool ?_, rfl⟩
      show false = (decide (0 ≤ i) && _)
      rw [decide_eq_false c]; rfl
  repeat trivial
  refine op_all ?_
  repeat trivial
theorem paperV_other {r s : List Int} {x : Str} {R : List (List Int)} (h1 : PyData.eqv (.str x) (.str "heads") = false) (h : R.length ≠ 1) : paperV r s (.tuple (.str x :: R.map rowD)) = false := by
  match R with
  | [] => rfl
  | [a] => exact absurd rfl h
  | [a, b] =>
    show (PyData.eqv (.str x) (.str "heads") && headsV r s (numL a) (numL b)) = _
    rw [h1]; rfl
  | a :: b :: c :: t => exact paperV_long
theorem fw_law_is_paper {r s : List Int} {d : PD} {Q : RV → List Val → Prop} (hr : RowOk r) (hs : RowOk s) (hl : r.length = s.length) (hn : d.weight ≤ 4000) (z : Q (.dat (.bool (paperV r s d))) [.dat (rowD r), .dat (rowD s), .dat d]) : Fw m__law_is_paper [.dat (rowD r), .dat (rowD s), .dat d] Q := by
  have rl := hr.le
  have sl := hs.le
  have h6 := hr.l2
  refine fb__law_is_paper ?_
  unfold b__law_is_paper
  cases d with
  | tuple ds =>
    match ds with
    | [] => repeat trivial
    | [x] =>
      have e : paperV r s (.tuple [x]) = false := by cases x <;> rfl
      rw [e] at z
      repeat trivial
    | x :: y :: t =>
      have hl2 : 2 ≤ (x :: y :: t).length := by simp only [List.length_cons]; omega
      have hw : (y :: t).length ≤ 4000 ∧ ∀ d ∈ y :: t, d.weight ≤ 4000 := by
        have h0 : PyData.weightAll (x :: y :: t) ≤ 4000 := by simpa only [PyData.weight] using hn
        simp only [PyData.weightAll] at h0
        have h1 := weightAll_len (y :: t)
        simp only [PyData.weightAll] at h1
        refine ⟨by omega, fun d hd => ?_⟩
        have := weightAll_mem hd
        simp only [PyData.weightAll] at this
        omega
      have ix0 : ∀ {P : RV → Prop}, P (.dat x) → Op (ixD (.tuple (x :: y :: t)) (.int 0)) P := fun {P} h => op_ixT (atI_nat (k := 0) rfl) h
      repeat trivial
      refine ix0 ?_
      cases x with
      | str x =>
        have hz : ∀ b, (∀ rest, rest = y :: t → paperV r s (.tuple (.str x :: rest)) = b) → Q (.dat (.bool b)) [.dat (rowD r), .dat (rowD s), .dat (.tuple (.str x :: y :: t))] := fun b e => by rw [← e _ rfl]; exact z
        clear z hn
        have hlen : (.str x :: y :: t).length = (y :: t).length + 1 := rfl
        have d1 : (PyData.str x :: y :: t).drop (Int.toNat 1) = y :: t := rfl
        have ix1 : ∀ {P : RV → Prop}, P (.dat y) → Op (ixD (.tuple (.str x :: y :: t)) (.int 1)) P := fun {P} h => op_ixT (atI_nat (k := 1) rfl) h
        obtain ⟨hw1, hw2⟩ := hw
        generalize (PyData.str x :: y :: t) = L at ix0 ix1 hz hlen hl2 d1 ⊢
        generalize hrest : y :: t = rest at *
        repeat trivial
        rw [d1]
        refine and_lk (by omega) ?_
        repeat trivial
        refine w_lc_t (enc := id) (l := rest) (fun d => .bool (isD "tuple" d)) (by simp) (fun d hd => ?_) ?_
        · repeat trivial
        repeat trivial
        refine op_all ?_
        repeat trivial
        refine br_bool (fun h1 => ?_) (fun h1 => ?_)
        · repeat trivial
          rw [d1]
          refine and_lk (by omega) ?_
          repeat trivial
          refine w_lc_t (enc := id) (l := rest) (fun d => .bool ((itemsT d).all isI)) (by simp) (fun d hd => ?_) ?_
          · obtain ⟨a, rfl⟩ := isD_tup (List.all_eq_true.mp h1 d hd)
            have ha : a.length ≤ 4000 := by
              have h2 := hw2 _ hd
              have h3 := weightAll_len a
              simp only [PyData.weight] at h2
              omega
            repeat trivial
            refine w_lc_t (enc := id) (l := a) (fun e => .bool (isI e)) (by simp) (fun e he => ?_) ?_
            · cases e <;> (repeat trivial)
            repeat trivial
            refine op_all ?_
            repeat trivial
          repeat trivial
          refine op_all ?_
          repeat trivial
          refine br_bool (fun h2 => ?_) (fun h2 => ?_)
          · have hex := rows_of h1 h2
            repeat trivial
            refine ix0 ?_
            repeat trivial
            refine op_eqS ?_
            refine tr_of ?_
            refine br_bool (fun h3 => ?_) (fun h3 => ?_)
            · repeat trivial
              rw [d1]
              have ht : ∀ {P : RV → Prop}, (∀ b : Bool, paperV r s (.tuple (.str x :: rest)) = (b && evB r s) → P (.dat (.bool b))) → Op (equD (.tuple rest) (.tuple [rowD (headsL r), rowD (headsL s)])) P := fun {P} h => by
                obtain ⟨R, hR⟩ := hex
                have e := paperV_heads (r := r) (s := s) (R := R) h3
                rw [← hR] at e
                rw [hR]
                exact op_eqRowsT (S := [headsL r, headsL s]) (h _ (by rw [hR] at e ⊢; exact e))
              refine ht fun b hb => ?_
              have z := hz (b && evB r s) fun rest' e => by subst e; exact hb
              refine tr_of ?_
              refine br_bool (fun h4 => ?_) (fun h4 => ?_)
              · rw [h4, Bool.true_and] at z
                repeat trivial
              · rw [h4, Bool.false_and] at z
                repeat trivial
            · repeat trivial
              refine ix0 ?_
              repeat trivial
              refine op_eqS ?_
              refine tr_of ?_
              refine br_not ?_
              refine br_bool (fun h4 => ?_) (fun h4 => ?_)
              · by_cases h5 : L.length = 2
                · obtain ⟨R, hR⟩ := hex
                  have h6 : R.length = 1 := by
                    have := congrArg List.length hR
                    rw [List.length_map] at this
                    omega
                  match R, h6 with
                  | [ls], _ =>
                    have ey : y = rowD ls := by
                      rw [← hrest] at hR
                      exact Option.some.inj (congrArg List.head? hR)
                    have e : paperV r s (.tuple (.str x :: rest)) = partV r s (numL ls) := by
                      rw [hR]
                      show (PyData.eqv (.str x) (.str "sides") && partV r s (numL ls)) = _
                      rw [h4, Bool.true_and]
                    have z := hz (partV r s (numL ls)) fun rest' e2 => by subst e2; exact e
                    have hn2 : ls.length ≤ 4000 := by
                      have h2 := hw2 y (by rw [← hrest]; exact List.mem_cons_self ..)
                      have h3 := weightAll_len (numL ls)
                      rw [ey] at h2
                      simp only [PyData.weight] at h2
                      rw [List.length_map] at h3
                      omega
                    rw [ey] at ix1
                    clear hR hrest ey e hz
                    repeat trivial
                    refine ix1 ?_
                    repeat trivial
                    cases q : (numL ls).isEmpty with
                    | true =>
                      have z : Q (.dat (.bool false)) [.dat (rowD r), .dat (rowD s), .dat (.tuple L)] := by simpa [partV, q] using z
                      repeat trivial
                    | false =>
                      repeat trivial
                      refine ix1 ?_
                      repeat trivial
                      refine fw_law_are_sides hn2 ?_
                      refine tr_of ?_
                      refine br_not ?_
                      refine br_bool (fun h7 => ?_) (fun h7 => ?_)
                      · have hne : ls ≠ [] := fun h => by subst h; cases q
                        have g : ∀ x ∈ ls, 0 ≤ x ∧ x < r.length := fun x hx => by
                          obtain ⟨i, e, g1, g2⟩ := isW_inv (List.all_eq_true.mp h7 (.int x) (List.mem_map.mpr ⟨x, hx, rfl⟩))
                          cases e
                          omega
                        have hd := dedL_few (n := r.length) (ls := ls) g
                        have z : Q (.dat (.bool (sidesV r s ls))) [.dat (rowD r), .dat (rowD s), .dat (.tuple L)] := by
                          simpa only [partV, q, h7, toI_numL, Bool.not_false, Bool.true_and] using z
                        repeat trivial
                        refine ix1 ?_
                        repeat trivial
                        refine ix1 ?_
                        repeat trivial
                        refine op_sortedSetT hn2 (by omega) ?_
                        repeat trivial
                        refine op_eqLists ?_
                        refine tr_of ?_
                        refine br_dec (fun h8 => ?_) (fun h8 => ?_)
                        · have hlen := ascL_len (n := r.length) g h8
                          have hpos := List.length_pos_iff.mpr hne
                          have hh := headsL_len s
                          have z : Q (.dat (.bool (decide (gI (headsL s) ((ls.length : Int) - 1) < (ls.map fun i => gI r i).sum)))) [.dat (rowD r), .dat (rowD s), .dat (.tuple L)] := by
                            simpa only [sidesV, decide_eq_true h8, Bool.true_and] using z
                          repeat trivial
                          refine ix1 ?_
                          repeat trivial
                          refine w_lc_i (enc := fun i : Int => PyData.int i) (l := ls) (fun i => gI r i) rfl (fun i hi => ?_) ?_
                          · have := g i hi
                            repeat trivial
                          repeat trivial
                          refine ix1 ?_
                          repeat trivial
                        · have z : Q (.dat (.bool false)) [.dat (rowD r), .dat (rowD s), .dat (.tuple L)] := by
                            simpa only [sidesV, decide_eq_false h8, Bool.false_and] using z
                          repeat trivial
                      · have z : Q (.dat (.bool false)) [.dat (rowD r), .dat (rowD s), .dat (.tuple L)] := by
                          simpa only [partV, q, h7, Bool.not_false, Bool.true_and, Bool.false_and] using z
                        repeat trivial
                · have z := hz false (fun rest' e => by
                    obtain ⟨R, hR⟩ := hex
                    rw [e, hR]
                    exact paperV_other h3 (by
                      have := congrArg List.length hR
                      rw [List.length_map] at this
                      omega))
                  repeat trivial
              · have z := hz false fun rest' e => by rw [e]; exact paperV_str h3 h4
                repeat trivial
          · have z := hz false fun rest' e => by rw [e]; exact paperV_ints h2
            repeat trivial
        · have z := hz false fun rest' e => by rw [e]; exact paperV_tup h1
          repeat trivial
      | _ => repeat trivial
  | _ => repeat trivial
end HD
namespace HD
open PySem L2 DL
local macro_rules | `(tactic| trivial) => `(tactic| first
  | ((with_reducible refine gRV ?_); first
    | (with_reducible refine w_c ?_)
    | ((with_reducible refine w_var (d := ?_) ?_ ?_); rotate_left; · exact rfl)
    | ((with_reducible refine w_varO (ds := ?_) ?_ ?_); rotate_left; · exact rfl)
    | ((with_reducible refine w_varR (ds := ?_) ?_ ?_); rotate_left; · exact rfl)
    | (with_reducible refine w_bin ?_)
    | (with_reducible refine w_blt ?_)
    | (with_reducible refine w_un ?_)
    | (with_reducible refine w_tup ?_)
    | (with_reducible refine w_lst ?_)
    | (with_reducible refine w_if ?_)
    | (with_reducible refine w_mut rfl ?_)
    | (with_reducible refine w_comp ?_)
    | (with_reducible refine w_slice ?_)
    | (with_reducible refine w_chain ?_)
    | (with_reducible refine w_andV ?_)
    | (with_reducible refine w_orV ?_)
    | (with_reducible refine w_notV ?_)
    | (with_reducible refine w_ofB ?_)
    | ((with_reducible refine w_varS (ds := ?_) ?_ ?_); rotate_left; · exact rfl)
    | ((with_reducible refine w_lenScr (ds := ?_) ?_ ?_); rotate_left; · exact rfl)
    | ((with_reducible refine w_ixScr (ds := ?_) ?_ ?_); rotate_left; · exact rfl)
    | (with_reducible refine w_rg1 ?_)
    | (with_reducible refine w_rg2 ?_)
    | (with_reducible refine w_read ?_)
    | ((with_reducible refine w_slScr (ds := ?_) ?_ ?_); rotate_left; · exact rfl)
    | ((with_reducible refine w_call ?_ ?_); rotate_left; (· exact hand_of _ _ _))
    | ((with_reducible refine w_callP ?_ ?_); rotate_left; (· exact hand_of _ _ _))
    | ((with_reducible refine w_callK ?_ ?_); rotate_left; (· exact hand_of _ _ _))
    | (with_reducible refine w_callN ?_))
  | ((with_reducible refine gRL ?_); first
    | (with_reducible refine w_cons ?_)
    | (with_reducible refine w_nil ?_))
  | ((with_reducible refine gFl ?_); first
    | (with_reducible refine w_seq ?_)
    | (with_reducible refine w_set ?_)
    | (with_reducible refine w_ifS ?_)
    | (with_reducible refine w_ret ?_)
    | (with_reducible refine w_asg ?_)
    | (with_reducible refine w_drop ?_)
    | (with_reducible refine w_par ?_)
    | (with_reducible refine w_for ?_)
    | (with_reducible refine w_next ?_))
  | ((with_reducible refine gBo ?_); first
    | (with_reducible refine w_truth ?_)
    | (with_reducible refine w_not ?_)
    | (with_reducible refine w_and ?_)
    | (with_reducible refine w_or ?_)
    | (with_reducible refine w_if ?_)
    | (with_reducible refine w_thawT ?_)
    | (with_reducible refine w_yes ?_))
  | ((with_reducible refine gPL ?_); first
    | (with_reducible refine w_args ?_)
    | (with_reducible refine w_items ?_)
    | (with_reducible refine w_range1 ?_)
    | (with_reducible refine w_range2 ?_)
    | (with_reducible refine w_enum ?_)
    | (with_reducible refine w_zip ?_))
  | ((with_reducible refine gOI ?_); first
    | (with_reducible refine w_partN ?_)
    | (with_reducible refine w_partS ?_))
  | ((with_reducible refine gO2 ?_); first
    | (with_reducible refine op2_tdC ?_)
    | (with_reducible refine op2_tdN ?_)
    | (with_reducible refine op2_tvC ?_)
    | (with_reducible refine op2_tvN ?_)
    | (refine op2_of rfl ?_))
  | ((with_reducible refine gOp ?_); first
    | (with_reducible refine op_bName ?_)
    | (with_reducible refine op_bTup rfl ?_)
    | (with_reducible refine op_bTup2 rfl ?_)
    | (with_reducible refine op_bTup2L rfl ?_)
    | (with_reducible refine op_bCons ?_)
    | (with_reducible refine op_bNil ?_)
    | ((with_reducible refine op_subR (r := ?_) ?_ ?_); rotate_left; · exact rfl)
    | (with_reducible refine op_resC ?_)
    | (with_reducible refine op_resN ?_)
    | (with_reducible refine op_addI ?_)
    | (with_reducible refine op_subI ?_)
    | (with_reducible refine op_lt ?_)
    | (with_reducible refine op_le ?_)
    | (with_reducible refine op_gt ?_)
    | (with_reducible refine op_ge ?_)
    | (with_reducible refine op_eqI ?_)
    | (with_reducible refine op_neI ?_)
    | (with_reducible refine op_int ?_)
    | (with_reducible refine op_eqB ?_)
    | (with_reducible refine op_neB ?_)
    | (with_reducible refine op_isB ?_)
    | (with_reducible refine op_notB ?_)
    | (with_reducible refine op_neSS ?_)
    | (with_reducible refine op_eqSS ?_)
    | (with_reducible refine op_eqSx (by decide +kernel) ?_)
    | (with_reducible refine op_neSx (by decide +kernel) ?_)
    | (with_reducible refine op_max2 ?_)
    | (with_reducible refine op_min2 ?_)
    | (with_reducible refine op_abs ?_)
    | (with_reducible refine op_lenR ?_)
    | (with_reducible refine op_lenRL ?_)
    | (with_reducible refine op_rev2R ?_)
    | (with_reducible refine op_rev2T ?_)
    | (with_reducible refine op_listR ?_)
    | (with_reducible refine op_sumR ?_)
    | (with_reducible refine op_sumRL ?_)
    | (with_reducible refine op_takeRL (by omega) ?_)
    | (with_reducible refine op_takeR (by omega) ?_)
    | (with_reducible refine op_dropRL (by omega) ?_)
    | (with_reducible refine op_dropR (by omega) ?_)
    | (with_reducible refine op_takePL (by omega) ?_)
    | (with_reducible refine op_dropPL (by omega) ?_)
    | (with_reducible refine op_takePT (by omega) ?_)
    | (with_reducible refine op_dropPT (by omega) ?_)
    | (with_reducible refine op_ixR (by first | omega | (simp only [List.length_set]; omega)) ?_)
    | (with_reducible refine op_ixRL (by first | omega | (simp only [List.length_set]; omega)) ?_)
    | (with_reducible refine op_mod (by first | decide | omega) ?_)
    | (with_reducible refine op_fdiv (by first | decide | omega) ?_)
    | (with_reducible refine op_mulI (by first | decide | omega) ?_)
    | (with_reducible refine op_mul2I (by first | decide | omega) ?_)
    | (with_reducible refine op_mul3I (by first | decide | omega) ?_)
    | (with_reducible refine op_divmod (by first | decide | omega) ?_)
    | (with_reducible refine op_divmod3 (by first | decide | omega) ?_)
    | (with_reducible refine op_pow (by first | decide | omega) ?_)
    | ((with_reducible apply op_reprG); (· (repeat (first | assumption | exact gl_nil | exact gd_none | exact gd_bool _ | exact gd_int (by omega) | exact gd_str | apply gl_cons | apply gd_l | apply gd_t))); (· decide); (· decide))
    | (with_reducible refine op_dbl ?_)
    | (with_reducible refine op_numT ?_)
    | (refine op_of rfl ?_))
  | ((with_reducible refine gBr ?_); first
    | (with_reducible refine br_tt ?_)
    | (with_reducible refine br_ff ?_)
    | (with_reducible refine br_f bne_self ?_)
    | (with_reducible refine br_not ?_)
    | (with_reducible refine br_yes (by first | decide | omega) ?_)
    | (with_reducible refine br_no (by first | decide | omega) ?_)
    | (with_reducible refine br_t (isW_t (by omega)) ?_)
    | (refine br_t (by rfl) ?_)
    | (refine br_f (by rfl) ?_))
  | ((with_reducible refine go_nx (w_norm (ρ' := ?_) ?_ ?_)); rotate_left; · first | (dsimp only [List.set, back, Val.put, List.getElem?_cons_zero, List.getElem?_cons_succ, wipeE, backE]; exact rfl) | exact rfl)
  | ((with_reducible refine nm_of (ρ' := ?_) ?_ ?_); rotate_left; · first | (dsimp only [List.set, back, Val.put, List.getElem?_cons_zero, List.getElem?_cons_succ, wipeE, backE]; exact rfl) | exact rfl)
  | ((with_reducible refine fwN (ys := ?_) ?_ ?_); rotate_left; · (dsimp only [List.filterMap_cons, List.filterMap_nil, List.getElem?_cons_zero, List.getElem?_cons_succ]; exact rfl))
  | (with_reducible refine go_rt ?_)
  | (with_reducible refine and_bd (by omega) (by omega) ?_)
  | (with_reducible refine and_rg (by omega) (by omega) ?_)
  | (with_reducible refine and_lk (by first | omega | (simp only [rangeD_len, List.length_map, List.length_cons, List.length_nil]; omega)) ?_)
  | (with_reducible refine and_ix (by first | omega | (simp only [List.length_set]; omega)) ?_)
  | (with_reducible refine tr_of ?_)
  | (with_reducible refine end_dat ?_)
  | (with_reducible refine end_own ?_)
  | (with_reducible refine end_nx ?_)
  | (with_reducible refine turn_nx ?_)
  | (with_reducible refine turn_rt ?_)
  | ((with_reducible refine gEx ?_); first | (refine ⟨_, _, rfl, ?_⟩) | (refine ⟨_, rfl, ?_⟩) | (refine ⟨_, _, rfl, rfl, ?_⟩))
  | ((with_reducible refine gAn ?_); first | (refine ⟨Nat.le_of_ble_eq_true rfl, ?_⟩) | (refine ⟨rfl, ?_⟩))
  | (with_reducible refine w_pl ?_)
  | (with_reducible refine w_seqX ?_)
  | (with_reducible refine w_ifX ?_)
  | (with_reducible refine w_forX ?_)
  | (with_reducible refine w_raise ?_)
  | (with_reducible refine w_setX ?_)
  | (with_reducible refine w_lst2X ?_)
  | (with_reducible refine w_try ?_)
  | (with_reducible refine w_callE ?_)
  | (with_reducible refine gox_rt ?_)
  | (with_reducible refine gox_ex ?_)
  | (with_reducible refine endx_dat ?_)
  | (with_reducible refine endx_own ?_)
  | (with_reducible refine endx_nx ?_)
  | (with_reducible refine endx_ex ?_)
  | (with_reducible refine turnx_ex ?_)
  | (with_reducible refine turnx_nx ?_)
  | (with_reducible refine tryo_ex ?_)
  | (with_reducible refine tryo_fl ?_)
  | (with_reducible refine seto_v ?_)
  | (with_reducible refine seto_x ?_)
  | (with_reducible refine lst2_d ?_)
  | (with_reducible refine lst2_o ?_)
  | (with_reducible refine lst2_x ?_)
  | (with_reducible refine w_told ⟨Nat.le_of_ble_eq_true rfl, by decide⟩ ?_)
  | ((with_reducible refine gox_nx (w_norm (ρ' := ?_) ?_ ?_)); rotate_left; · first | (dsimp only [List.set, back, Val.put, List.getElem?_cons_zero, List.getElem?_cons_succ, wipeE, backE]; exact rfl) | exact rfl))
local macro_rules | `(tactic| trivial) => `(tactic| ((with_reducible refine gFw ?_); first
  | (with_reducible refine fw_is_integer ?_)
  | (with_reducible refine fw_is_within ?_)
  | (with_reducible refine fw_want_row (by assumption) ?_)
  | (with_reducible refine fw_want_as_many (by first | assumption | omega) ?_)
  | (with_reducible refine fw_want_like (by assumption) (by assumption) (by first | assumption | omega) (by first | assumption | omega) ?_)
  | (with_reducible refine fw_shape_of (by first | assumption | exact RowOk.le (by assumption) | omega) ?_)
  | (with_reducible refine fw_heads_of (by first | assumption | exact RowOk.le (by assumption) | omega) ?_)
  | (with_reducible refine fw_law_shape (by first | assumption | exact RowOk.le (by assumption) | omega) ?_)
  | (with_reducible refine fw_law_heads (by first | assumption | exact RowOk.le (by assumption) | omega) ?_)
  | (with_reducible refine fw_law_is_evener (by first | assumption | exact RowOk.le (by assumption) | omega) (by first | assumption | omega) ?_)
  ))
/-! steps down -/
def dnL (r : List Int) (a b : Nat) : List Int := (r.set a (gI r a - 1)).set b (gI r b + 1)
theorem dnL_len (r : List Int) (a b : Nat) : (dnL r a b).length = r.length := by simp [dnL]
theorem gI_dn {r : List Int} {a b k : Nat} (ha : a < r.length) (hb : b < r.length) (ne : a ≠ b) : gI (dnL r a b) k = if k = b then gI r b + 1 else if k = a then gI r a - 1 else gI r k := by
  unfold dnL
  rw [gI_setN (by simpa using hb), gI_setN ha]
def okS (r : List Int) (a b : Nat) (q : List Int) : Bool := decide (a < b) && decide (q = dnL r a b) && decide (q = shapeL q) && (decide (b = a + 1) || decide (gI r a - gI r b = 2))
def stepB (r q : List Int) : Bool := (List.range r.length).any fun a => (List.range r.length).any fun b => okS r a b q
theorem stepB_iff {r q : List Int} : stepB r q = true ↔ ∃ a b : Nat, a < b ∧ b < r.length ∧ q = dnL r a b ∧ q = shapeL q ∧ (b = a + 1 ∨ gI r a - gI r b = 2) := by
  simp only [stepB, okS, List.any_eq_true, Bool.and_eq_true, Bool.or_eq_true, decide_eq_true_eq, List.mem_range]
  constructor
  · rintro ⟨a, ha, b, hb, ⟨⟨h1, h2⟩, h3⟩, h4⟩
    exact ⟨a, b, h1, hb, h2, h3, h4⟩
  · rintro ⟨a, b, h1, hb, h2, h3, h4⟩
    exact ⟨a, by omega, b, hb, ⟨⟨h1, h2⟩, h3⟩, h4⟩
def movL (r q : List Int) : List Int := (r.zip q).map fun p => p.1 - p.2
theorem movL_len {r q : List Int} (h : q.length = r.length) : (movL r q).length = r.length := by simp [movL, h]
theorem gI_mov {r q : List Int} (h : q.length = r.length) {k : Nat} (hk : k < r.length) : gI (movL r q) k = gI r k - gI q k := by
  rw [gI_get (by rw [movL_len h]; exact hk), gI_get hk, gI_get (by omega)]
  simp [movL]
def tgtL (n : Nat) : List Int := -1 :: (List.replicate (n - 2) 0 ++ [1])
theorem tgt_sorted (n : Nat) : (tgtL n).Pairwise fun a b => a ≤ b := by
  unfold tgtL
  refine List.pairwise_cons.mpr ⟨fun x hx => ?_, List.pairwise_append.mpr ⟨?_, by simp, fun x hx y hy => ?_⟩⟩
  · rcases List.mem_append.mp hx with h | h
    · rw [(List.mem_replicate.mp h).2]; decide
    · rw [List.mem_singleton.mp h]; decide
  · exact List.pairwise_replicate.mpr (.inr (Int.le_refl _))
  · rw [(List.mem_replicate.mp hx).2, List.mem_singleton.mp hy]; decide
theorem sort_tgt {l : List Int} {n : Nat} : sortI l = tgtL n ↔ l.Perm (tgtL n) := by
  constructor
  · intro h
    rw [← h]
    exact (sortI_perm l).symm
  · intro h
    have hs := List.pairwise_mergeSort (le := fun a b : Int => decide (a ≤ b)) (fun a b c g1 g2 => by simp at *; omega) (fun a b => by simp; omega) l
    exact List.Perm.eq_of_pairwise (le := fun a b => a ≤ b) (fun a b _ _ g1 g2 => by omega) (hs.imp fun h => of_decide_eq_true h) (tgt_sorted n) ((sortI_perm l).trans h)
theorem cnt2 {v : Int} : ∀ {l : List Int} {i j : Nat}, i < j → l[i]? = some v → l[j]? = some v → 2 ≤ l.count v
  | [], _, _, _, h, _ => by simp at h
  | x :: l, 0, j + 1, _, h1, h2 => by
    have e : x = v := by simpa using h1
    have h2 : l[j]? = some v := by simpa using h2
    have := List.count_pos_iff.mpr (List.mem_of_getElem? h2)
    subst e
    rw [List.count_cons_self]
    omega
  | x :: l, i + 1, j + 1, h, h1, h2 => by
    have := cnt2 (l := l) (i := i) (j := j) (by omega) (by simpa using h1) (by simpa using h2)
    rw [List.count_cons]
    omega
theorem cnt_one {v : Int} {l : List Int} (h : l.count v = 1) {i j : Nat} (h1 : l[i]? = some v) (h2 : l[j]? = some v) : i = j := by
  apply Classical.byContradiction
  intro ne
  rcases Nat.lt_or_gt_of_ne ne with c | c
  · have := cnt2 c h1 h2; omega
  · have := cnt2 c h2 h1; omega
theorem tgt_count {n : Nat} : (tgtL n).count 1 = 1 ∧ (tgtL n).count (-1) = 1 ∧ ∀ x ∈ tgtL n, x = 1 ∨ x = -1 ∨ x = 0 := by
  refine ⟨?_, ?_, fun x hx => ?_⟩
  · unfold tgtL
    rw [List.count_cons, List.count_append, List.count_replicate]
    simp
  · unfold tgtL
    rw [List.count_cons, List.count_append, List.count_replicate]
    simp
  · rcases List.mem_cons.mp hx with rfl | h
    · exact .inr (.inl rfl)
    · rcases List.mem_append.mp h with h | h
      · exact .inr (.inr (List.mem_replicate.mp h).2)
      · exact .inl (List.mem_singleton.mp h)
theorem getQ {l : List Int} {k : Nat} (h : k < l.length) : l[k]? = some (gI l k) := by rw [gI_get h, List.getElem?_eq_getElem h]
/-- what moved tells the gift of one unit -/
theorem mov_iff {r q : List Int} (h : q.length = r.length) (hn : 1 ≤ r.length) : (movL r q).Perm (tgtL r.length) → (1 : Int) ∈ movL r q ∧ (-1 : Int) ∈ movL r q ∧ (movL r q).idxOf 1 < r.length ∧ (movL r q).idxOf (-1) < r.length ∧ (movL r q).idxOf 1 ≠ (movL r q).idxOf (-1) ∧ q = dnL r ((movL r q).idxOf 1) ((movL r q).idxOf (-1)) := by
  intro p
  obtain ⟨c1, c2, c3⟩ := tgt_count (n := r.length)
  rw [← p.count_eq] at c1 c2
  have m1 : (1 : Int) ∈ movL r q := List.count_pos_iff.mp (by omega)
  have m2 : (-1 : Int) ∈ movL r q := List.count_pos_iff.mp (by omega)
  have ml := movL_len h
  have l1 := List.idxOf_lt_length_iff.mpr m1
  have l2 := List.idxOf_lt_length_iff.mpr m2
  have e1 : (movL r q)[(movL r q).idxOf 1]? = some 1 := by rw [List.getElem?_eq_getElem l1, List.getElem_idxOf]
  have e2 : (movL r q)[(movL r q).idxOf (-1)]? = some (-1) := by rw [List.getElem?_eq_getElem l2, List.getElem_idxOf]
  generalize (movL r q).idxOf 1 = a at *
  generalize (movL r q).idxOf (-1) = b at *
  have ne : a ≠ b := fun e => by rw [e, e2] at e1; cases e1
  refine ⟨m1, m2, by omega, by omega, ne, ?_⟩
  refine List.ext_getElem (by rw [dnL_len, h]) fun k h1 h2 => ?_
  rw [← gI_get h1, ← gI_get h2, gI_dn (by omega) (by omega) ne]
  have hk : k < r.length := by omega
  have g := gI_mov h hk
  have gk := getQ (l := movL r q) (k := k) (by omega)
  by_cases k1 : k = b
  · subst k1
    rw [e2] at gk
    have := Option.some.inj gk
    rw [if_pos rfl]; omega
  · rw [if_neg k1]
    by_cases k2 : k = a
    · subst k2
      rw [e1] at gk
      have := Option.some.inj gk
      rw [if_pos rfl]; omega
    · rw [if_neg k2]
      rcases c3 _ (p.subset (List.mem_of_getElem? gk)) with c | c | c
      · rw [c] at gk
        exact absurd (cnt_one c1 gk e1) k2
      · rw [c] at gk
        exact absurd (cnt_one c2 gk e2) k1
      · omega
theorem set_perm {l : List Int} {i : Nat} {x : Int} (hi : i < l.length) : (l.set i x).Perm (x :: l.eraseIdx i) := by
  rw [List.set_eq_take_append_cons_drop, if_pos hi, List.eraseIdx_eq_take_drop_succ]
  exact List.perm_middle
theorem mov_dn {r : List Int} {a b : Nat} (ha : a < r.length) (hb : b < r.length) (ne : a ≠ b) : (movL r (dnL r a b)).Perm (tgtL r.length) ∧ (movL r (dnL r a b)).idxOf 1 = a ∧ (movL r (dnL r a b)).idxOf (-1) = b := by
  have hq := dnL_len r a b
  have ml := movL_len hq
  have gm : ∀ k, k < r.length → gI (movL r (dnL r a b)) k = if k = b then -1 else if k = a then 1 else 0 := fun k hk => by
    rw [gI_mov hq hk, gI_dn ha hb ne]
    by_cases k1 : k = b
    · subst k1; rw [if_pos rfl, if_pos rfl]; omega
    · rw [if_neg k1, if_neg k1]
      by_cases k2 : k = a
      · subst k2; rw [if_pos rfl, if_pos rfl]; omega
      · rw [if_neg k2, if_neg k2]; omega
  have e : movL r (dnL r a b) = ((List.replicate r.length (0 : Int)).set a 1).set b (-1) := by
    refine List.ext_getElem (by simp [ml]) fun k h1 h2 => ?_
    rw [← gI_get h1, gm k (by omega), List.getElem_set, List.getElem_set, List.getElem_replicate]
    by_cases k1 : k = b
    · rw [if_pos k1, if_pos k1.symm]
    · have k3 : ¬ b = k := fun h => k1 h.symm
      rw [if_neg k1, if_neg k3]
      by_cases k2 : k = a
      · rw [if_pos k2, if_pos k2.symm]
      · have k4 : ¬ a = k := fun h => k2 h.symm
        rw [if_neg k2, if_neg k4]
  have p : (movL r (dnL r a b)).Perm (tgtL r.length) := by
    rw [e]
    have l1 : a < (List.replicate r.length (0 : Int)).length := by simpa using ha
    have p1 := set_perm (x := (1 : Int)) l1
    have l2 : b < ((List.replicate r.length (0 : Int)).set a 1).length := by simpa using hb
    have p2 := set_perm (x := (-1 : Int)) l2
    have p3 := set_perm (x := ((List.replicate r.length (0 : Int)).set a 1)[b]) l2
    rw [List.set_getElem_self, List.getElem_set, if_neg ne, List.getElem_replicate] at p3
    rw [List.eraseIdx_replicate, if_pos ha] at p1
    have hn2 : r.length - 1 = (r.length - 2) + 1 := by omega
    rw [hn2, List.replicate_succ] at p1
    have p4 := (p3.symm.trans p1).trans (List.Perm.swap _ _ _)
    have p5 := (List.perm_cons _).mp p4
    refine p2.trans ((List.Perm.cons _ p5).trans (List.Perm.cons _ ?_))
    exact (List.perm_append_singleton _ _).symm
  obtain ⟨m1, m2, i1, i2, i3, i4⟩ := mov_iff hq (by omega) p
  have l1 := List.idxOf_lt_length_iff.mpr m1
  have l2 := List.idxOf_lt_length_iff.mpr m2
  have e1 : gI (movL r (dnL r a b)) ((movL r (dnL r a b)).idxOf 1 : Nat) = 1 := by rw [gI_get l1, List.getElem_idxOf]
  have e2 : gI (movL r (dnL r a b)) ((movL r (dnL r a b)).idxOf (-1) : Nat) = -1 := by rw [gI_get l2, List.getElem_idxOf]
  rw [gm _ i1] at e1
  rw [gm _ i2] at e2
  refine ⟨p, ?_, ?_⟩
  · split at e1
    · omega
    · split at e1
      · assumption
      · omega
  · split at e2
    · assumption
    · split at e2
      · omega
      · omega
/-- the law's own look -/
theorem step_law {r q : List Int} (h : q.length = r.length) (hn : 1 ≤ r.length) : stepB r q = (decide (q = shapeL q) && (decide (sortI (movL r q) = tgtL r.length) && (!decide ((((movL r q).idxOf (-1) : Nat) : Int) < ((movL r q).idxOf 1 : Nat)) && (decide ((((movL r q).idxOf (-1) : Nat) : Int) = ((movL r q).idxOf 1 : Nat) + 1) || decide (gI r ((movL r q).idxOf 1 : Nat) - gI r ((movL r q).idxOf (-1) : Nat) = 2))))) := by
  rw [Bool.eq_iff_iff, stepB_iff]
  simp only [Bool.and_eq_true, Bool.or_eq_true, Bool.not_eq_true', decide_eq_true_eq, decide_eq_false_iff_not, sort_tgt]
  constructor
  · rintro ⟨a, b, h1, hb, h2, h3, h4⟩
    obtain ⟨p, i1, i2⟩ := mov_dn (r := r) (a := a) (b := b) (by omega) hb (by omega)
    rw [← h2] at p i1 i2
    rw [i1, i2]
    exact ⟨h3, p, by omega, by omega⟩
  · rintro ⟨h3, p, h1, h4⟩
    obtain ⟨m1, m2, i1, i2, i3, i4⟩ := mov_iff h hn p
    exact ⟨_, _, by omega, i2, i4, h3, by omega⟩
end HD
namespace HD
open PySem L2 DL
local macro_rules | `(tactic| trivial) => `(tactic| first
  | ((with_reducible refine gRV ?_); first
    | (with_reducible refine w_c ?_)
    | ((with_reducible refine w_var (d := ?_) ?_ ?_); rotate_left; · exact rfl)
    | ((with_reducible refine w_varO (ds := ?_) ?_ ?_); rotate_left; · exact rfl)
    | ((with_reducible refine w_varR (ds := ?_) ?_ ?_); rotate_left; · exact rfl)
    | (with_reducible refine w_bin ?_)
    | (with_reducible refine w_blt ?_)
    | (with_reducible refine w_un ?_)
    | (with_reducible refine w_tup ?_)
    | (with_reducible refine w_lst ?_)
    | (with_reducible refine w_if ?_)
    | (with_reducible refine w_mut rfl ?_)
    | (with_reducible refine w_comp ?_)
    | (with_reducible refine w_slice ?_)
    | (with_reducible refine w_chain ?_)
    | (with_reducible refine w_andV ?_)
    | (with_reducible refine w_orV ?_)
    | (with_reducible refine w_notV ?_)
    | (with_reducible refine w_ofB ?_)
    | ((with_reducible refine w_varS (ds := ?_) ?_ ?_); rotate_left; · exact rfl)
    | ((with_reducible refine w_lenScr (ds := ?_) ?_ ?_); rotate_left; · exact rfl)
    | ((with_reducible refine w_ixScr (ds := ?_) ?_ ?_); rotate_left; · exact rfl)
    | (with_reducible refine w_rg1 ?_)
    | (with_reducible refine w_rg2 ?_)
    | (with_reducible refine w_read ?_)
    | ((with_reducible refine w_slScr (ds := ?_) ?_ ?_); rotate_left; · exact rfl)
    | ((with_reducible refine w_call ?_ ?_); rotate_left; (· exact hand_of _ _ _))
    | ((with_reducible refine w_callP ?_ ?_); rotate_left; (· exact hand_of _ _ _))
    | ((with_reducible refine w_callK ?_ ?_); rotate_left; (· exact hand_of _ _ _))
    | (with_reducible refine w_callN ?_))
  | ((with_reducible refine gRL ?_); first
    | (with_reducible refine w_cons ?_)
    | (with_reducible refine w_nil ?_))
  | ((with_reducible refine gFl ?_); first
    | (with_reducible refine w_seq ?_)
    | (with_reducible refine w_set ?_)
    | (with_reducible refine w_ifS ?_)
    | (with_reducible refine w_ret ?_)
    | (with_reducible refine w_asg ?_)
    | (with_reducible refine w_drop ?_)
    | (with_reducible refine w_par ?_)
    | (with_reducible refine w_for ?_)
    | (with_reducible refine w_next ?_))
  | ((with_reducible refine gBo ?_); first
    | (with_reducible refine w_truth ?_)
    | (with_reducible refine w_not ?_)
    | (with_reducible refine w_and ?_)
    | (with_reducible refine w_or ?_)
    | (with_reducible refine w_if ?_)
    | (with_reducible refine w_thawT ?_)
    | (with_reducible refine w_yes ?_))
  | ((with_reducible refine gPL ?_); first
    | (with_reducible refine w_args ?_)
    | (with_reducible refine w_items ?_)
    | (with_reducible refine w_range1 ?_)
    | (with_reducible refine w_range2 ?_)
    | (with_reducible refine w_enum ?_)
    | (with_reducible refine w_zip ?_))
  | ((with_reducible refine gOI ?_); first
    | (with_reducible refine w_partN ?_)
    | (with_reducible refine w_partS ?_))
  | ((with_reducible refine gO2 ?_); first
    | (with_reducible refine op2_tdC ?_)
    | (with_reducible refine op2_tdN ?_)
    | (with_reducible refine op2_tvC ?_)
    | (with_reducible refine op2_tvN ?_)
    | (refine op2_of rfl ?_))
  | ((with_reducible refine gOp ?_); first
    | (with_reducible refine op_bName ?_)
    | (with_reducible refine op_bTup rfl ?_)
    | (with_reducible refine op_bTup2 rfl ?_)
    | (with_reducible refine op_bTup2L rfl ?_)
    | (with_reducible refine op_bCons ?_)
    | (with_reducible refine op_bNil ?_)
    | ((with_reducible refine op_subR (r := ?_) ?_ ?_); rotate_left; · exact rfl)
    | (with_reducible refine op_resC ?_)
    | (with_reducible refine op_resN ?_)
    | (with_reducible refine op_addI ?_)
    | (with_reducible refine op_subI ?_)
    | (with_reducible refine op_lt ?_)
    | (with_reducible refine op_le ?_)
    | (with_reducible refine op_gt ?_)
    | (with_reducible refine op_ge ?_)
    | (with_reducible refine op_eqI ?_)
    | (with_reducible refine op_neI ?_)
    | (with_reducible refine op_int ?_)
    | (with_reducible refine op_eqB ?_)
    | (with_reducible refine op_neB ?_)
    | (with_reducible refine op_isB ?_)
    | (with_reducible refine op_notB ?_)
    | (with_reducible refine op_neSS ?_)
    | (with_reducible refine op_eqSS ?_)
    | (with_reducible refine op_eqSx (by decide +kernel) ?_)
    | (with_reducible refine op_neSx (by decide +kernel) ?_)
    | (with_reducible refine op_max2 ?_)
    | (with_reducible refine op_min2 ?_)
    | (with_reducible refine op_abs ?_)
    | (with_reducible refine op_lenR ?_)
    | (with_reducible refine op_lenRL ?_)
    | (with_reducible refine op_rev2R ?_)
    | (with_reducible refine op_rev2T ?_)
    | (with_reducible refine op_listR ?_)
    | (with_reducible refine op_sumR ?_)
    | (with_reducible refine op_sumRL ?_)
    | (with_reducible refine op_takeRL (by omega) ?_)
    | (with_reducible refine op_takeR (by omega) ?_)
    | (with_reducible refine op_dropRL (by omega) ?_)
    | (with_reducible refine op_dropR (by omega) ?_)
    | (with_reducible refine op_takePL (by omega) ?_)
    | (with_reducible refine op_dropPL (by omega) ?_)
    | (with_reducible refine op_takePT (by omega) ?_)
    | (with_reducible refine op_dropPT (by omega) ?_)
    | (with_reducible refine op_ixR (by first | omega | (simp only [List.length_set]; omega)) ?_)
    | (with_reducible refine op_ixRL (by first | omega | (simp only [List.length_set]; omega)) ?_)
    | (with_reducible refine op_mod (by first | decide | omega) ?_)
    | (with_reducible refine op_fdiv (by first | decide | omega) ?_)
    | (with_reducible refine op_mulI (by first | decide | omega) ?_)
    | (with_reducible refine op_mul2I (by first | decide | omega) ?_)
    | (with_reducible refine op_mul3I (by first | decide | omega) ?_)
    | (with_reducible refine op_divmod (by first | decide | omega) ?_)
    | (with_reducible refine op_divmod3 (by first | decide | omega) ?_)
    | (with_reducible refine op_pow (by first | decide | omega) ?_)
    | ((with_reducible apply op_reprG); (· (repeat (first | assumption | exact gl_nil | exact gd_none | exact gd_bool _ | exact gd_int (by omega) | exact gd_str | apply gl_cons | apply gd_l | apply gd_t))); (· decide); (· decide))
    | (with_reducible refine op_dbl ?_)
    | (with_reducible refine op_numT ?_)
    | (refine op_of rfl ?_))
  | ((with_reducible refine gBr ?_); first
    | (with_reducible refine br_tt ?_)
    | (with_reducible refine br_ff ?_)
    | (with_reducible refine br_f bne_self ?_)
    | (with_reducible refine br_not ?_)
    | (with_reducible refine br_yes (by first | decide | omega) ?_)
    | (with_reducible refine br_no (by first | decide | omega) ?_)
    | (with_reducible refine br_t (isW_t (by omega)) ?_)
    | (refine br_t (by rfl) ?_)
    | (refine br_f (by rfl) ?_))
  | ((with_reducible refine go_nx (w_norm (ρ' := ?_) ?_ ?_)); rotate_left; · first | (dsimp only [List.set, back, Val.put, List.getElem?_cons_zero, List.getElem?_cons_succ, wipeE, backE]; exact rfl) | exact rfl)
  | ((with_reducible refine nm_of (ρ' := ?_) ?_ ?_); rotate_left; · first | (dsimp only [List.set, back, Val.put, List.getElem?_cons_zero, List.getElem?_cons_succ, wipeE, backE]; exact rfl) | exact rfl)
  | ((with_reducible refine fwN (ys := ?_) ?_ ?_); rotate_left; · (dsimp only [List.filterMap_cons, List.filterMap_nil, List.getElem?_cons_zero, List.getElem?_cons_succ]; exact rfl))
  | (with_reducible refine go_rt ?_)
  | (with_reducible refine and_bd (by omega) (by omega) ?_)
  | (with_reducible refine and_rg (by omega) (by omega) ?_)
  | (with_reducible refine and_lk (by first | omega | (simp only [rangeD_len, List.length_map, List.length_cons, List.length_nil]; omega)) ?_)
  | (with_reducible refine and_ix (by first | omega | (simp only [List.length_set]; omega)) ?_)
  | (with_reducible refine tr_of ?_)
  | (with_reducible refine end_dat ?_)
  | (with_reducible refine end_own ?_)
  | (with_reducible refine end_nx ?_)
  | (with_reducible refine turn_nx ?_)
  | (with_reducible refine turn_rt ?_)
  | ((with_reducible refine gEx ?_); first | (refine ⟨_, _, rfl, ?_⟩) | (refine ⟨_, rfl, ?_⟩) | (refine ⟨_, _, rfl, rfl, ?_⟩))
  | ((with_reducible refine gAn ?_); first | (refine ⟨Nat.le_of_ble_eq_true rfl, ?_⟩) | (refine ⟨rfl, ?_⟩))
  | (with_reducible refine w_pl ?_)
  | (with_reducible refine w_seqX ?_)
  | (with_reducible refine w_ifX ?_)
  | (with_reducible refine w_forX ?_)
  | (with_reducible refine w_raise ?_)
  | (with_reducible refine w_setX ?_)
  | (with_reducible refine w_lst2X ?_)
  | (with_reducible refine w_try ?_)
  | (with_reducible refine w_callE ?_)
  | (with_reducible refine gox_rt ?_)
  | (with_reducible refine gox_ex ?_)
  | (with_reducible refine endx_dat ?_)
  | (with_reducible refine endx_own ?_)
  | (with_reducible refine endx_nx ?_)
  | (with_reducible refine endx_ex ?_)
  | (with_reducible refine turnx_ex ?_)
  | (with_reducible refine turnx_nx ?_)
  | (with_reducible refine tryo_ex ?_)
  | (with_reducible refine tryo_fl ?_)
  | (with_reducible refine seto_v ?_)
  | (with_reducible refine seto_x ?_)
  | (with_reducible refine lst2_d ?_)
  | (with_reducible refine lst2_o ?_)
  | (with_reducible refine lst2_x ?_)
  | (with_reducible refine w_told ⟨Nat.le_of_ble_eq_true rfl, by decide⟩ ?_)
  | ((with_reducible refine gox_nx (w_norm (ρ' := ?_) ?_ ?_)); rotate_left; · first | (dsimp only [List.set, back, Val.put, List.getElem?_cons_zero, List.getElem?_cons_succ, wipeE, backE]; exact rfl) | exact rfl))
local macro_rules | `(tactic| trivial) => `(tactic| ((with_reducible refine gFw ?_); first
  | (with_reducible refine fw_is_integer ?_)
  | (with_reducible refine fw_is_within ?_)
  | (with_reducible refine fw_want_row (by assumption) ?_)
  | (with_reducible refine fw_want_as_many (by first | assumption | omega) ?_)
  | (with_reducible refine fw_want_like (by assumption) (by assumption) (by first | assumption | omega) (by first | assumption | omega) ?_)
  | (with_reducible refine fw_shape_of (by first | assumption | exact RowOk.le (by assumption) | omega) ?_)
  | (with_reducible refine fw_heads_of (by first | assumption | exact RowOk.le (by assumption) | omega) ?_)
  | (with_reducible refine fw_law_shape (by first | assumption | exact RowOk.le (by assumption) | omega) ?_)
  | (with_reducible refine fw_law_heads (by first | assumption | exact RowOk.le (by assumption) | omega) ?_)
  | (with_reducible refine fw_law_is_evener (by first | assumption | exact RowOk.le (by assumption) | omega) (by first | assumption | omega) ?_)
  ))
theorem tgt_data (n : Nat) : [PyData.int (-1)] ++ repD ((n : Int) - 2).toNat [PyData.int 0] ++ [PyData.int 1] = numL (tgtL n) := by
  have e : ((n : Int) - 2).toNat = n - 2 := by omega
  have e2 : ∀ k, repD k [PyData.int 0] = numL (List.replicate k 0) := fun k => by
    induction k with
    | zero => rfl
    | succ k ih => 
      show [PyData.int 0] ++ repD k [PyData.int 0] = _
      rw [ih]; rfl
  rw [e, e2]
  simp [tgtL, numL]
theorem step_ok {r q : List Int} (hr : RowOk r) (h : stepB r q = true) : q.length = r.length ∧ ∀ x ∈ q, 0 ≤ x ∧ x < 1000000 := by
  obtain ⟨a, b, h1, hb, e, h3, _⟩ := stepB_iff.mp h
  have hl : q.length = r.length := by rw [e, dnL_len]
  refine ⟨hl, fun x hx => ?_⟩
  obtain ⟨k, hk, rfl⟩ := List.getElem_of_mem hx
  have gk := gI_dn (r := r) (a := a) (b := b) (k := k) (by omega) hb (by omega)
  have gl := gI_dn (r := r) (a := a) (b := b) (k := r.length - 1) (by omega) hb (by omega)
  rw [← e] at gk gl
  have bd : ∀ k : Nat, k < r.length → 0 ≤ gI r k ∧ gI r k ≤ 60 := fun k hk => by
    rw [gI_get hk]; exact hr.el _ (List.getElem_mem hk)
  have b1 := bd k (by omega)
  have b2 := bd a (by omega)
  have b3 := bd b hb
  have b4 := bd (r.length - 1) (by omega)
  have an := shape_anti (r := q) (i := k) (j := r.length - 1) (by omega) (by omega)
  rw [← h3, gl, gk] at an
  rw [← gI_get hk, gk]
  by_cases k1 : k = b
  · rw [if_pos k1]; omega
  · rw [if_neg k1]
    rw [if_neg k1] at an
    by_cases k2 : k = a
    · rw [if_pos k2]
      rw [if_pos k2] at an
      by_cases k3 : r.length - 1 = b
      · rw [if_pos k3] at an; omega
      · rw [if_neg k3, if_neg (by omega)] at an; omega
    · rw [if_neg k2]; omega
theorem fw_law_is_step {r q : List Int} {Q : RV → List Val → Prop} (hr : RowOk r) (h : q.length = r.length) (z : Q (.dat (.bool (stepB r q))) [.dat (rowD r), .dat (rowD q)]) : Fw m__law_is_step [.dat (rowD r), .dat (rowD q)] Q := by
  have l1 := hr.l1
  have l2 := hr.l2
  have ql : q.length ≤ 1000 := by omega
  obtain ⟨m, hm, hm1, hm2⟩ := minL_ex (r := q) (by omega)
  by_cases m0 : m < 0
  · have e : stepB r q = false := by
      cases e : stepB r q with
      | false => rfl
      | true => have := (step_ok hr e).2 m hm1; omega
    rw [e] at z
    refine fb__law_is_step ?_
    unfold b__law_is_step
    repeat trivial
    refine op_sortedR (by omega) ?_
    repeat trivial
    refine op_neLists ?_
    refine tr_of ?_
    refine br_not ?_
    refine br_bool (fun c1 => ?_) (fun c1 => ?_)
    · repeat trivial
      refine op_minR hm ?_
      repeat trivial
    · repeat trivial
  have ml := movL_len h
  rw [step_law h l1] at z
  refine fb__law_is_step ?_
  unfold b__law_is_step
  repeat trivial
  refine op_sortedR (by omega) ?_
  repeat trivial
  refine op_neLists ?_
  refine tr_of ?_
  refine br_not ?_
  refine br_dec (fun c1 => ?_) (fun c1 => ?_)
  · have c1 : q = shapeL q := c1
    rw [decide_eq_true c1, Bool.true_and] at z
    repeat trivial
    refine op_minR hm ?_
    repeat trivial
    rw [zipD_nums]
    refine and_lk (by simp; omega) ?_
    repeat trivial
    refine w_lc_i (enc := fun p : Int × Int => PyData.tuple [.int p.1, .int p.2]) (l := r.zip q) (fun p => p.1 - p.2) rfl (fun p hp => ?_) ?_
    · repeat trivial
    rw [show (r.zip q).map (fun p => p.1 - p.2) = movL r q from rfl]
    generalize hmv : movL r q = mv at *
    repeat trivial
    refine op_sortedRL (by omega) ?_
    repeat trivial
    refine op_mul2L ⟨by simp, by omega, by omega⟩ ?_
    have lr : (repD ((r.length : Int) - 2).toNat [PyData.int 0]).length ≤ 10 := by
      simp only [repD, List.length_flatten, List.map_replicate, List.sum_replicate_nat, List.length_cons, List.length_nil]
      omega
    have td := tgt_data r.length
    generalize repD ((r.length : Int) - 2).toNat [PyData.int 0] = rp at *
    repeat trivial
    refine op_addL (by simp; omega) ?_
    repeat trivial
    refine op_addL (by simp; omega) ?_
    repeat trivial
    rw [td]
    refine op_neLists ?_
    refine tr_of ?_
    refine br_not ?_
    refine br_dec (fun c2 => ?_) (fun c2 => ?_)
    · obtain ⟨m1, m2, i1, i2, i3, i4⟩ := mov_iff h l1 (by rw [hmv]; exact sort_tgt.mp c2)
      rw [hmv] at m1 m2 i1 i2 i3
      rw [decide_eq_true c2, Bool.true_and] at z
      repeat trivial
      refine op_index m1 ?_
      repeat trivial
      refine op_index m2 ?_
      repeat trivial
      refine br_dec (fun c3 => ?_) (fun c3 => ?_)
      · rw [decide_eq_true c3, Bool.not_true, Bool.false_and] at z
        repeat trivial
      · rw [decide_eq_false c3, Bool.not_false, Bool.true_and] at z
        repeat trivial
        refine op_index m1 ?_
        repeat trivial
        refine op_index m2 ?_
        repeat trivial
        refine br_dec (fun c4 => ?_) (fun c4 => ?_)
        · rw [decide_eq_true c4, Bool.true_or] at z
          repeat trivial
        · rw [decide_eq_false c4, Bool.false_or] at z
          repeat trivial
    · rw [decide_eq_false c2, Bool.false_and] at z
      repeat trivial
  · have c1 : ¬ q = shapeL q := c1
    rw [decide_eq_false c1, Bool.false_and] at z
    repeat trivial
theorem steps_okT {r : List Int} {ls : List (List Int)} (hr : RowOk r) (h1 : ls.length ≤ 36) (h0 : ∀ q ∈ ls, stepB r q = true) : okT ls = true := by
  have h2 : ∀ q ∈ ls, q.length = r.length ∧ ∀ x ∈ q, 0 ≤ x ∧ x < 1000000 := fun q hq => step_ok hr (h0 q hq)
  have h3 := hr.l1
  have w : wideT ls = 1 ∨ wideT ls = r.length := by
    cases e : ls with
    | nil => exact .inl rfl
    | cons q t => exact .inr (h2 q (by rw [e]; exact List.mem_cons_self ..)).1
  have h4 : ∀ q ∈ ls, q.length = wideT ls := fun q hq => by
    cases e : ls with
    | nil => rw [e] at hq; cases hq
    | cons p t =>
      rw [(h2 q hq).1]
      exact ((h2 p (by rw [e]; exact List.mem_cons_self ..)).1).symm
  simp only [okT, Bool.and_eq_true, decide_eq_true_eq, List.all_eq_true]
  exact ⟨⟨by omega, by omega⟩, fun q hq => ⟨h4 q hq, fun x hx => (h2 q hq).2 x hx⟩⟩
theorem mem_sortR {ls : List (List Int)} {q : List Int} : q ∈ sortR ls ↔ q ∈ ls := by
  unfold sortR
  rw [(List.mergeSort_perm ..).mem_iff, mem_dedR]
end HD
namespace HD
open PySem L2 DL
local macro_rules | `(tactic| trivial) => `(tactic| first
  | ((with_reducible refine gRV ?_); first
    | (with_reducible refine w_c ?_)
    | ((with_reducible refine w_var (d := ?_) ?_ ?_); rotate_left; · exact rfl)
    | ((with_reducible refine w_varO (ds := ?_) ?_ ?_); rotate_left; · exact rfl)
    | ((with_reducible refine w_varR (ds := ?_) ?_ ?_); rotate_left; · exact rfl)
    | (with_reducible refine w_bin ?_)
    | (with_reducible refine w_blt ?_)
    | (with_reducible refine w_un ?_)
    | (with_reducible refine w_tup ?_)
    | (with_reducible refine w_lst ?_)
    | (with_reducible refine w_if ?_)
    | (with_reducible refine w_mut rfl ?_)
    | (with_reducible refine w_comp ?_)
    | (with_reducible refine w_slice ?_)
    | (with_reducible refine w_chain ?_)
    | (with_reducible refine w_andV ?_)
    | (with_reducible refine w_orV ?_)
    | (with_reducible refine w_notV ?_)
    | (with_reducible refine w_ofB ?_)
    | ((with_reducible refine w_varS (ds := ?_) ?_ ?_); rotate_left; · exact rfl)
    | ((with_reducible refine w_lenScr (ds := ?_) ?_ ?_); rotate_left; · exact rfl)
    | ((with_reducible refine w_ixScr (ds := ?_) ?_ ?_); rotate_left; · exact rfl)
    | (with_reducible refine w_rg1 ?_)
    | (with_reducible refine w_rg2 ?_)
    | (with_reducible refine w_read ?_)
    | ((with_reducible refine w_slScr (ds := ?_) ?_ ?_); rotate_left; · exact rfl)
    | ((with_reducible refine w_call ?_ ?_); rotate_left; (· exact hand_of _ _ _))
    | ((with_reducible refine w_callP ?_ ?_); rotate_left; (· exact hand_of _ _ _))
    | ((with_reducible refine w_callK ?_ ?_); rotate_left; (· exact hand_of _ _ _))
    | (with_reducible refine w_callN ?_))
  | ((with_reducible refine gRL ?_); first
    | (with_reducible refine w_cons ?_)
    | (with_reducible refine w_nil ?_))
  | ((with_reducible refine gFl ?_); first
    | (with_reducible refine w_seq ?_)
    | (with_reducible refine w_set ?_)
    | (with_reducible refine w_ifS ?_)
    | (with_reducible refine w_ret ?_)
    | (with_reducible refine w_asg ?_)
    | (with_reducible refine w_drop ?_)
    | (with_reducible refine w_par ?_)
    | (with_reducible refine w_for ?_)
    | (with_reducible refine w_next ?_))
  | ((with_reducible refine gBo ?_); first
    | (with_reducible refine w_truth ?_)
    | (with_reducible refine w_not ?_)
    | (with_reducible refine w_and ?_)
    | (with_reducible refine w_or ?_)
    | (with_reducible refine w_if ?_)
    | (with_reducible refine w_thawT ?_)
    | (with_reducible refine w_yes ?_))
  | ((with_reducible refine gPL ?_); first
    | (with_reducible refine w_args ?_)
    | (with_reducible refine w_items ?_)
    | (with_reducible refine w_range1 ?_)
    | (with_reducible refine w_range2 ?_)
    | (with_reducible refine w_enum ?_)
    | (with_reducible refine w_zip ?_))
  | ((with_reducible refine gOI ?_); first
    | (with_reducible refine w_partN ?_)
    | (with_reducible refine w_partS ?_))
  | ((with_reducible refine gO2 ?_); first
    | (with_reducible refine op2_tdC ?_)
    | (with_reducible refine op2_tdN ?_)
    | (with_reducible refine op2_tvC ?_)
    | (with_reducible refine op2_tvN ?_)
    | (refine op2_of rfl ?_))
  | ((with_reducible refine gOp ?_); first
    | (with_reducible refine op_bName ?_)
    | (with_reducible refine op_bTup rfl ?_)
    | (with_reducible refine op_bTup2 rfl ?_)
    | (with_reducible refine op_bTup2L rfl ?_)
    | (with_reducible refine op_bCons ?_)
    | (with_reducible refine op_bNil ?_)
    | ((with_reducible refine op_subR (r := ?_) ?_ ?_); rotate_left; · exact rfl)
    | (with_reducible refine op_resC ?_)
    | (with_reducible refine op_resN ?_)
    | (with_reducible refine op_addI ?_)
    | (with_reducible refine op_subI ?_)
    | (with_reducible refine op_lt ?_)
    | (with_reducible refine op_le ?_)
    | (with_reducible refine op_gt ?_)
    | (with_reducible refine op_ge ?_)
    | (with_reducible refine op_eqI ?_)
    | (with_reducible refine op_neI ?_)
    | (with_reducible refine op_int ?_)
    | (with_reducible refine op_eqB ?_)
    | (with_reducible refine op_neB ?_)
    | (with_reducible refine op_isB ?_)
    | (with_reducible refine op_notB ?_)
    | (with_reducible refine op_neSS ?_)
    | (with_reducible refine op_eqSS ?_)
    | (with_reducible refine op_eqSx (by decide +kernel) ?_)
    | (with_reducible refine op_neSx (by decide +kernel) ?_)
    | (with_reducible refine op_max2 ?_)
    | (with_reducible refine op_min2 ?_)
    | (with_reducible refine op_abs ?_)
    | (with_reducible refine op_lenR ?_)
    | (with_reducible refine op_lenRL ?_)
    | (with_reducible refine op_rev2R ?_)
    | (with_reducible refine op_rev2T ?_)
    | (with_reducible refine op_listR ?_)
    | (with_reducible refine op_sumR ?_)
    | (with_reducible refine op_sumRL ?_)
    | (with_reducible refine op_takeRL (by omega) ?_)
    | (with_reducible refine op_takeR (by omega) ?_)
    | (with_reducible refine op_dropRL (by omega) ?_)
    | (with_reducible refine op_dropR (by omega) ?_)
    | (with_reducible refine op_takePL (by omega) ?_)
    | (with_reducible refine op_dropPL (by omega) ?_)
    | (with_reducible refine op_takePT (by omega) ?_)
    | (with_reducible refine op_dropPT (by omega) ?_)
    | (with_reducible refine op_ixR (by first | omega | (simp only [List.length_set]; omega)) ?_)
    | (with_reducible refine op_ixRL (by first | omega | (simp only [List.length_set]; omega)) ?_)
    | (with_reducible refine op_mod (by first | decide | omega) ?_)
    | (with_reducible refine op_fdiv (by first | decide | omega) ?_)
    | (with_reducible refine op_mulI (by first | decide | omega) ?_)
    | (with_reducible refine op_mul2I (by first | decide | omega) ?_)
    | (with_reducible refine op_mul3I (by first | decide | omega) ?_)
    | (with_reducible refine op_divmod (by first | decide | omega) ?_)
    | (with_reducible refine op_divmod3 (by first | decide | omega) ?_)
    | (with_reducible refine op_pow (by first | decide | omega) ?_)
    | ((with_reducible apply op_reprG); (· (repeat (first | assumption | exact gl_nil | exact gd_none | exact gd_bool _ | exact gd_int (by omega) | exact gd_str | apply gl_cons | apply gd_l | apply gd_t))); (· decide); (· decide))
    | (with_reducible refine op_dbl ?_)
    | (with_reducible refine op_numT ?_)
    | (refine op_of rfl ?_))
  | ((with_reducible refine gBr ?_); first
    | (with_reducible refine br_tt ?_)
    | (with_reducible refine br_ff ?_)
    | (with_reducible refine br_f bne_self ?_)
    | (with_reducible refine br_not ?_)
    | (with_reducible refine br_yes (by first | decide | omega) ?_)
    | (with_reducible refine br_no (by first | decide | omega) ?_)
    | (with_reducible refine br_t (isW_t (by omega)) ?_)
    | (refine br_t (by rfl) ?_)
    | (refine br_f (by rfl) ?_))
  | ((with_reducible refine go_nx (w_norm (ρ' := ?_) ?_ ?_)); rotate_left; · first | (dsimp only [List.set, back, Val.put, List.getElem?_cons_zero, List.getElem?_cons_succ, wipeE, backE]; exact rfl) | exact rfl)
  | ((with_reducible refine nm_of (ρ' := ?_) ?_ ?_); rotate_left; · first | (dsimp only [List.set, back, Val.put, List.getElem?_cons_zero, List.getElem?_cons_succ, wipeE, backE]; exact rfl) | exact rfl)
  | ((with_reducible refine fwN (ys := ?_) ?_ ?_); rotate_left; · (dsimp only [List.filterMap_cons, List.filterMap_nil, List.getElem?_cons_zero, List.getElem?_cons_succ]; exact rfl))
  | (with_reducible refine go_rt ?_)
  | (with_reducible refine and_bd (by omega) (by omega) ?_)
  | (with_reducible refine and_rg (by omega) (by omega) ?_)
  | (with_reducible refine and_lk (by first | omega | (simp only [rangeD_len, List.length_map, List.length_cons, List.length_nil]; omega)) ?_)
  | (with_reducible refine and_ix (by first | omega | (simp only [List.length_set]; omega)) ?_)
  | (with_reducible refine tr_of ?_)
  | (with_reducible refine end_dat ?_)
  | (with_reducible refine end_own ?_)
  | (with_reducible refine end_nx ?_)
  | (with_reducible refine turn_nx ?_)
  | (with_reducible refine turn_rt ?_)
  | ((with_reducible refine gEx ?_); first | (refine ⟨_, _, rfl, ?_⟩) | (refine ⟨_, rfl, ?_⟩) | (refine ⟨_, _, rfl, rfl, ?_⟩))
  | ((with_reducible refine gAn ?_); first | (refine ⟨Nat.le_of_ble_eq_true rfl, ?_⟩) | (refine ⟨rfl, ?_⟩))
  | (with_reducible refine w_pl ?_)
  | (with_reducible refine w_seqX ?_)
  | (with_reducible refine w_ifX ?_)
  | (with_reducible refine w_forX ?_)
  | (with_reducible refine w_raise ?_)
  | (with_reducible refine w_setX ?_)
  | (with_reducible refine w_lst2X ?_)
  | (with_reducible refine w_try ?_)
  | (with_reducible refine w_callE ?_)
  | (with_reducible refine gox_rt ?_)
  | (with_reducible refine gox_ex ?_)
  | (with_reducible refine endx_dat ?_)
  | (with_reducible refine endx_own ?_)
  | (with_reducible refine endx_nx ?_)
  | (with_reducible refine endx_ex ?_)
  | (with_reducible refine turnx_ex ?_)
  | (with_reducible refine turnx_nx ?_)
  | (with_reducible refine tryo_ex ?_)
  | (with_reducible refine tryo_fl ?_)
  | (with_reducible refine seto_v ?_)
  | (with_reducible refine seto_x ?_)
  | (with_reducible refine lst2_d ?_)
  | (with_reducible refine lst2_o ?_)
  | (with_reducible refine lst2_x ?_)
  | (with_reducible refine w_told ⟨Nat.le_of_ble_eq_true rfl, by decide⟩ ?_)
  | ((with_reducible refine gox_nx (w_norm (ρ' := ?_) ?_ ?_)); rotate_left; · first | (dsimp only [List.set, back, Val.put, List.getElem?_cons_zero, List.getElem?_cons_succ, wipeE, backE]; exact rfl) | exact rfl))
local macro_rules | `(tactic| trivial) => `(tactic| ((with_reducible refine gFw ?_); first
  | (with_reducible refine fw_is_integer ?_)
  | (with_reducible refine fw_is_within ?_)
  | (with_reducible refine fw_want_row (by assumption) ?_)
  | (with_reducible refine fw_want_as_many (by first | assumption | omega) ?_)
  | (with_reducible refine fw_want_like (by assumption) (by assumption) (by first | assumption | omega) (by first | assumption | omega) ?_)
  | (with_reducible refine fw_shape_of (by first | assumption | exact RowOk.le (by assumption) | omega) ?_)
  | (with_reducible refine fw_heads_of (by first | assumption | exact RowOk.le (by assumption) | omega) ?_)
  | (with_reducible refine fw_law_shape (by first | assumption | exact RowOk.le (by assumption) | omega) ?_)
  | (with_reducible refine fw_law_heads (by first | assumption | exact RowOk.le (by assumption) | omega) ?_)
  | (with_reducible refine fw_law_is_evener (by first | assumption | exact RowOk.le (by assumption) | omega) (by first | assumption | omega) ?_)
  ))
theorem rowsD_rows : ∀ ls : List (List Int), rowsD (ls.map rowD) = some ls
  | [] => rfl
  | l :: ls => by
    show (match intsOf (numL l) with
      | some ns => (match rowsD (ls.map rowD) with
        | some ls => some (ns :: ls)
        | none => none)
      | none => none) = _
    rw [intsOf_map, rowsD_rows ls]
theorem dedR_le : ∀ ns : List (List Int), (dedR ns).length ≤ ns.length
  | [] => by simp [dedR]
  | a :: ns => by
    have ih := dedR_le ns
    show (if a ∈ dedR ns then dedR ns else a :: dedR ns).length ≤ _
    split <;> simp <;> omega
theorem op_sortedSetR {ls : List (List Int)} {Q : RV → Prop} (h : okT ls = true) (z : Q (.own ((sortR ls).map rowD))) : Op (sortedSetTF [.list (ls.map rowD)]) Q := op_of (by
  have e : sortedSetTF [.list (ls.map rowD)] = if okT ls = true then some (.own ((sortR ls).map fun ns => PyData.tuple (ns.map PyData.int))) else none := by
    simp only [sortedSetTF, rowsD_rows]
  rw [e, if_pos h]) z
theorem rangeD_getN {lo : Int} {n j : Nat} {x : PD} (h : (rangeD lo n)[j]? = some x) : j < n ∧ x = .int (lo + (j : Nat)) := by
  unfold rangeD at h
  rw [List.getElem?_map] at h
  cases q : (List.range n)[j]? with
  | none => rw [q] at h; cases h
  | some v =>
    rw [q] at h
    obtain ⟨hj, e⟩ := List.getElem?_eq_some_iff.mp q
    rw [List.getElem_range] at e
    cases h
    rw [List.length_range] at hj
    exact ⟨hj, by rw [e]⟩
theorem fw_steps_down_of {r : List Int} {Q : RV → List Val → Prop} (hr : RowOk r) (z : ∀ ls : List (List Int), ls.length ≤ 36 → (∀ q, q ∈ ls ↔ stepB r q = true) → Q (.own (ls.map rowD)) [.dat (rowD r)]) : Fw m_steps_down_of [.dat (rowD r)] Q := by
  have l1 := hr.l1
  have l2 := hr.l2
  refine fb_steps_down_of ?_
  unfold b_steps_down_of
  repeat trivial
  refine w_for_at (fun i ρ => ∃ (fl : List (List Int)) (o2 o3 o4 : Option Val), fl.length ≤ 6 * i ∧ (∀ q, q ∈ fl ↔ ∃ a b : Nat, a < i ∧ b < r.length ∧ okS r a b q = true) ∧ ρ = [some (.dat (rowD r)), some (.own (fl.map rowD)), o2, o3, o4]) ⟨[], none, none, none, Nat.le_refl _, fun q => ⟨fun h => (List.not_mem_nil h).elim, fun ⟨a, b, h, _⟩ => absurd h (Nat.not_lt_zero _)⟩, rfl⟩ ?_ ?_
  · rintro i x ρ hx ⟨fl, o2, o3, o4, fl1, fl2, rfl⟩
    obtain ⟨hi, rfl⟩ := rangeD_get0 hx
    repeat trivial
    refine w_for_at (fun j ρ => ∃ (gl : List (List Int)) (o3 o4 : Option Val), gl.length ≤ 6 * i + j ∧ (∀ q, q ∈ gl ↔ (q ∈ fl ∨ ∃ b : Nat, b < i + 1 + j ∧ b < r.length ∧ okS r i b q = true)) ∧ ρ = [some (.dat (rowD r)), some (.own (gl.map rowD)), some (.dat (.int (i : Nat))), o3, o4]) ⟨fl, o3, o4, by omega, fun q => ⟨.inl, fun h => h.elim id fun ⟨b, h1, _, h2⟩ => by
      simp only [okS, Bool.and_eq_true, decide_eq_true_eq] at h2
      omega⟩, rfl⟩ ?_ ?_
    · rintro j x ρ hx ⟨gl, o3, o4, gl1, gl2, rfl⟩
      obtain ⟨hj, rfl⟩ := rangeD_getN hx
      have hb : i + 1 + j < r.length := by omega
      rw [show ((i : Nat) : Int) + 1 + (j : Nat) = ((i + 1 + j : Nat) : Int) by omega]
      generalize hbb : i + 1 + j = b at *
      have fin : ∀ gl' : List (List Int), gl'.length ≤ gl.length + 1 → (∀ q, q ∈ gl' ↔ (q ∈ gl ∨ okS r i b q = true)) → gl'.length ≤ 6 * i + (j + 1) ∧ ∀ q, q ∈ gl' ↔ (q ∈ fl ∨ ∃ b : Nat, b < i + 1 + (j + 1) ∧ b < r.length ∧ okS r i b q = true) := fun gl' h1 h2 => by
        refine ⟨by omega, fun q => ?_⟩
        rw [h2 q, gl2 q]
        constructor
        · rintro ((h | ⟨b', e1, e2, e3⟩) | h)
          · exact .inl h
          · exact .inr ⟨b', by omega, e2, e3⟩
          · exact .inr ⟨b, by omega, hb, h⟩
        · rintro (h | ⟨b', e1, e2, e3⟩)
          · exact .inl (.inl h)
          · by_cases e : b' = b
            · subst e; exact .inr e3
            · exact .inl (.inr ⟨b', by omega, e2, e3⟩)
      have gll : gl.length ≤ 36 := by omega
      repeat trivial
      have ed : (r.set ((i : Nat) : Int).toNat (gI r i - 1)).set ((b : Nat) : Int).toNat (gI r b + 1) = dnL r i b := by simp only [Int.toNat_natCast, dnL]
      rw [ed]
      have dl := dnL_len r i b
      refine op_sortedRL (by omega) ?_
      repeat trivial
      rw [show (sortI (dnL r i b)).reverse = shapeL (dnL r i b) from rfl]
      refine op_eqLists ?_
      refine tr_of ?_
      have skip : okS r i b (dnL r i b) = false → (∀ q, q ∈ gl ↔ (q ∈ gl ∨ okS r i b q = true)) := fun h q => by
        refine ⟨.inl, fun g => g.elim id fun e => ?_⟩
        have e2 : q = dnL r i b := by
          simp only [okS, Bool.and_eq_true, decide_eq_true_eq] at e
          exact e.1.1.2
        rw [e2, h] at e; cases e
      have add : okS r i b (dnL r i b) = true → (∀ q, q ∈ gl ++ [dnL r i b] ↔ (q ∈ gl ∨ okS r i b q = true)) := fun h q => by
        rw [List.mem_append, List.mem_singleton]
        refine ⟨fun g => g.elim .inl fun e => .inr (by rw [e]; exact h), fun g => g.elim .inl fun e => .inr ?_⟩
        simp only [okS, Bool.and_eq_true, decide_eq_true_eq] at e
        exact e.1.1.2
      have ib : i < b := by omega
      refine br_dec (fun c1 => ?_) (fun c1 => ?_)
      · repeat trivial
        refine br_dec (fun c2 => ?_) (fun c2 => ?_)
        · have ok : okS r i b (dnL r i b) = true := by
            simp only [okS, Bool.and_eq_true, Bool.or_eq_true, decide_eq_true_eq]
            exact ⟨⟨⟨ib, trivial⟩, c1⟩, .inl (by omega)⟩
          repeat trivial
          refine op_append (by simp; omega) ?_
          repeat trivial
          obtain ⟨f1, f2⟩ := fin _ (by simp) (add ok)
          exact ⟨gl ++ [dnL r i b], _, _, f1, f2, by rw [List.map_append]; rfl⟩
        · repeat trivial
          refine br_dec (fun c3 => ?_) (fun c3 => ?_)
          · have ok : okS r i b (dnL r i b) = true := by
              simp only [okS, Bool.and_eq_true, Bool.or_eq_true, decide_eq_true_eq]
              exact ⟨⟨⟨ib, trivial⟩, c1⟩, .inr c3⟩
            repeat trivial
            refine op_append (by simp; omega) ?_
            repeat trivial
            obtain ⟨f1, f2⟩ := fin _ (by simp) (add ok)
            exact ⟨gl ++ [dnL r i b], _, _, f1, f2, by rw [List.map_append]; rfl⟩
          · have no : okS r i b (dnL r i b) = false := by
              cases q : okS r i b (dnL r i b) with
              | false => rfl
              | true =>
                simp only [okS, Bool.and_eq_true, Bool.or_eq_true, decide_eq_true_eq] at q
                omega
            repeat trivial
            obtain ⟨f1, f2⟩ := fin gl (by omega) (skip no)
            exact ⟨gl, _, _, f1, f2, rfl⟩
      · have no : okS r i b (dnL r i b) = false := by
          cases q : okS r i b (dnL r i b) with
          | false => rfl
          | true =>
            simp only [okS, Bool.and_eq_true, Bool.or_eq_true, decide_eq_true_eq] at q
            exact absurd q.1.2 c1
        repeat trivial
        obtain ⟨f1, f2⟩ := fin gl (by omega) (skip no)
        exact ⟨gl, _, _, f1, f2, rfl⟩
    · rintro ρ ⟨gl, o3, o4, gl1, gl2, rfl⟩
      rw [rangeD_len] at gl1 gl2
      refine ⟨gl, _, _, _, by omega, fun q => ?_, rfl⟩
      rw [gl2 q, fl2 q]
      constructor
      · rintro (⟨a, b, h1, h2, h3⟩ | ⟨b, h1, h2, h3⟩)
        · exact ⟨a, b, by omega, h2, h3⟩
        · exact ⟨i, b, by omega, h2, h3⟩
      · rintro ⟨a, b, h1, h2, h3⟩
        by_cases e : a = i
        · subst e
          exact .inr ⟨b, by omega, h2, h3⟩
        · exact .inl ⟨a, b, by omega, h2, h3⟩
  · rintro ρ ⟨fl, o2, o3, o4, fl1, fl2, rfl⟩
    rw [rangeD_len] at fl1 fl2
    have hm : ∀ q, q ∈ fl ↔ stepB r q = true := fun q => by
      rw [fl2 q]
      simp only [stepB, List.any_eq_true, List.mem_range]
      constructor
      · rintro ⟨a, b, h1, h2, h3⟩
        exact ⟨a, by omega, b, h2, h3⟩
      · rintro ⟨a, h1, b, h2, h3⟩
        exact ⟨a, b, by omega, h2, h3⟩
    have hf : fl.length ≤ 36 := by omega
    repeat trivial
    refine op_sortedSetR (steps_okT hr hf fun q hq => (hm q).mp hq) ?_
    repeat trivial
    refine z (sortR fl) ?_ fun q => ?_
    · unfold sortR
      rw [List.length_mergeSort]
      exact Nat.le_trans (dedR_le fl) hf
    · rw [mem_sortR]; exact hm q
end HD
namespace HD
open PySem L2 DL
local macro_rules | `(tactic| trivial) => `(tactic| first
  | ((with_reducible refine gRV ?_); first
    | (with_reducible refine w_c ?_)
    | ((with_reducible refine w_var (d := ?_) ?_ ?_); rotate_left; · exact rfl)
    | ((with_reducible refine w_varO (ds := ?_) ?_ ?_); rotate_left; · exact rfl)
    | ((with_reducible refine w_varR (ds := ?_) ?_ ?_); rotate_left; · exact rfl)
    | (with_reducible refine w_bin ?_)
    | (with_reducible refine w_blt ?_)
    | (with_reducible refine w_un ?_)
    | (with_reducible refine w_tup ?_)
    | (with_reducible refine w_lst ?_)
    | (with_reducible refine w_if ?_)
    | (with_reducible refine w_mut rfl ?_)
    | (with_reducible refine w_comp ?_)
    | (with_reducible refine w_slice ?_)
    | (with_reducible refine w_chain ?_)
    | (with_reducible refine w_andV ?_)
    | (with_reducible refine w_orV ?_)
    | (with_reducible refine w_notV ?_)
    | (with_reducible refine w_ofB ?_)
    | ((with_reducible refine w_varS (ds := ?_) ?_ ?_); rotate_left; · exact rfl)
    | ((with_reducible refine w_lenScr (ds := ?_) ?_ ?_); rotate_left; · exact rfl)
    | ((with_reducible refine w_ixScr (ds := ?_) ?_ ?_); rotate_left; · exact rfl)
    | (with_reducible refine w_rg1 ?_)
    | (with_reducible refine w_rg2 ?_)
    | (with_reducible refine w_read ?_)
    | ((with_reducible refine w_slScr (ds := ?_) ?_ ?_); rotate_left; · exact rfl)
    | ((with_reducible refine w_call ?_ ?_); rotate_left; (· exact hand_of _ _ _))
    | ((with_reducible refine w_callP ?_ ?_); rotate_left; (· exact hand_of _ _ _))
    | ((with_reducible refine w_callK ?_ ?_); rotate_left; (· exact hand_of _ _ _))
    | (with_reducible refine w_callN ?_))
  | ((with_reducible refine gRL ?_); first
    | (with_reducible refine w_cons ?_)
    | (with_reducible refine w_nil ?_))
  | ((with_reducible refine gFl ?_); first
    | (with_reducible refine w_seq ?_)
    | (with_reducible refine w_set ?_)
    | (with_reducible refine w_ifS ?_)
    | (with_reducible refine w_ret ?_)
    | (with_reducible refine w_asg ?_)
    | (with_reducible refine w_drop ?_)
    | (with_reducible refine w_par ?_)
    | (with_reducible refine w_for ?_)
    | (with_reducible refine w_next ?_))
  | ((with_reducible refine gBo ?_); first
    | (with_reducible refine w_truth ?_)
    | (with_reducible refine w_not ?_)
    | (with_reducible refine w_and ?_)
    | (with_reducible refine w_or ?_)
    | (with_reducible refine w_if ?_)
    | (with_reducible refine w_thawT ?_)
    | (with_reducible refine w_yes ?_))
  | ((with_reducible refine gPL ?_); first
    | (with_reducible refine w_args ?_)
    | (with_reducible refine w_items ?_)
    | (with_reducible refine w_range1 ?_)
    | (with_reducible refine w_range2 ?_)
    | (with_reducible refine w_enum ?_)
    | (with_reducible refine w_zip ?_))
  | ((with_reducible refine gOI ?_); first
    | (with_reducible refine w_partN ?_)
    | (with_reducible refine w_partS ?_))
  | ((with_reducible refine gO2 ?_); first
    | (with_reducible refine op2_tdC ?_)
    | (with_reducible refine op2_tdN ?_)
    | (with_reducible refine op2_tvC ?_)
    | (with_reducible refine op2_tvN ?_)
    | (refine op2_of rfl ?_))
  | ((with_reducible refine gOp ?_); first
    | (with_reducible refine op_bName ?_)
    | (with_reducible refine op_bTup rfl ?_)
    | (with_reducible refine op_bTup2 rfl ?_)
    | (with_reducible refine op_bTup2L rfl ?_)
    | (with_reducible refine op_bCons ?_)
    | (with_reducible refine op_bNil ?_)
    | ((with_reducible refine op_subR (r := ?_) ?_ ?_); rotate_left; · exact rfl)
    | (with_reducible refine op_resC ?_)
    | (with_reducible refine op_resN ?_)
    | (with_reducible refine op_addI ?_)
    | (with_reducible refine op_subI ?_)
    | (with_reducible refine op_lt ?_)
    | (with_reducible refine op_le ?_)
    | (with_reducible refine op_gt ?_)
    | (with_reducible refine op_ge ?_)
    | (with_reducible refine op_eqI ?_)
    | (with_reducible refine op_neI ?_)
    | (with_reducible refine op_int ?_)
    | (with_reducible refine op_eqB ?_)
    | (with_reducible refine op_neB ?_)
    | (with_reducible refine op_isB ?_)
    | (with_reducible refine op_notB ?_)
    | (with_reducible refine op_neSS ?_)
    | (with_reducible refine op_eqSS ?_)
    | (with_reducible refine op_eqSx (by decide +kernel) ?_)
    | (with_reducible refine op_neSx (by decide +kernel) ?_)
    | (with_reducible refine op_max2 ?_)
    | (with_reducible refine op_min2 ?_)
    | (with_reducible refine op_abs ?_)
    | (with_reducible refine op_lenR ?_)
    | (with_reducible refine op_lenRL ?_)
    | (with_reducible refine op_rev2R ?_)
    | (with_reducible refine op_rev2T ?_)
    | (with_reducible refine op_listR ?_)
    | (with_reducible refine op_sumR ?_)
    | (with_reducible refine op_sumRL ?_)
    | (with_reducible refine op_takeRL (by omega) ?_)
    | (with_reducible refine op_takeR (by omega) ?_)
    | (with_reducible refine op_dropRL (by omega) ?_)
    | (with_reducible refine op_dropR (by omega) ?_)
    | (with_reducible refine op_takePL (by omega) ?_)
    | (with_reducible refine op_dropPL (by omega) ?_)
    | (with_reducible refine op_takePT (by omega) ?_)
    | (with_reducible refine op_dropPT (by omega) ?_)
    | (with_reducible refine op_ixR (by first | omega | (simp only [List.length_set]; omega)) ?_)
    | (with_reducible refine op_ixRL (by first | omega | (simp only [List.length_set]; omega)) ?_)
    | (with_reducible refine op_mod (by first | decide | omega) ?_)
    | (with_reducible refine op_fdiv (by first | decide | omega) ?_)
    | (with_reducible refine op_mulI (by first | decide | omega) ?_)
    | (with_reducible refine op_mul2I (by first | decide | omega) ?_)
    | (with_reducible refine op_mul3I (by first | decide | omega) ?_)
    | (with_reducible refine op_divmod (by first | decide | omega) ?_)
    | (with_reducible refine op_divmod3 (by first | decide | omega) ?_)
    | (with_reducible refine op_pow (by first | decide | omega) ?_)
    | ((with_reducible apply op_reprG); (· (repeat (first | assumption | exact gl_nil | exact gd_none | exact gd_bool _ | exact gd_int (by omega) | exact gd_str | apply gl_cons | apply gd_l | apply gd_t))); (· decide); (· decide))
    | (with_reducible refine op_dbl ?_)
    | (with_reducible refine op_numT ?_)
    | (refine op_of rfl ?_))
  | ((with_reducible refine gBr ?_); first
    | (with_reducible refine br_tt ?_)
    | (with_reducible refine br_ff ?_)
    | (with_reducible refine br_f bne_self ?_)
    | (with_reducible refine br_not ?_)
    | (with_reducible refine br_yes (by first | decide | omega) ?_)
    | (with_reducible refine br_no (by first | decide | omega) ?_)
    | (with_reducible refine br_t (isW_t (by omega)) ?_)
    | (refine br_t (by rfl) ?_)
    | (refine br_f (by rfl) ?_))
  | ((with_reducible refine go_nx (w_norm (ρ' := ?_) ?_ ?_)); rotate_left; · first | (dsimp only [List.set, back, Val.put, List.getElem?_cons_zero, List.getElem?_cons_succ, wipeE, backE]; exact rfl) | exact rfl)
  | ((with_reducible refine nm_of (ρ' := ?_) ?_ ?_); rotate_left; · first | (dsimp only [List.set, back, Val.put, List.getElem?_cons_zero, List.getElem?_cons_succ, wipeE, backE]; exact rfl) | exact rfl)
  | ((with_reducible refine fwN (ys := ?_) ?_ ?_); rotate_left; · (dsimp only [List.filterMap_cons, List.filterMap_nil, List.getElem?_cons_zero, List.getElem?_cons_succ]; exact rfl))
  | (with_reducible refine go_rt ?_)
  | (with_reducible refine and_bd (by omega) (by omega) ?_)
  | (with_reducible refine and_rg (by omega) (by omega) ?_)
  | (with_reducible refine and_lk (by first | omega | (simp only [rangeD_len, List.length_map, List.length_cons, List.length_nil]; omega)) ?_)
  | (with_reducible refine and_ix (by first | omega | (simp only [List.length_set]; omega)) ?_)
  | (with_reducible refine tr_of ?_)
  | (with_reducible refine end_dat ?_)
  | (with_reducible refine end_own ?_)
  | (with_reducible refine end_nx ?_)
  | (with_reducible refine turn_nx ?_)
  | (with_reducible refine turn_rt ?_)
  | ((with_reducible refine gEx ?_); first | (refine ⟨_, _, rfl, ?_⟩) | (refine ⟨_, rfl, ?_⟩) | (refine ⟨_, _, rfl, rfl, ?_⟩))
  | ((with_reducible refine gAn ?_); first | (refine ⟨Nat.le_of_ble_eq_true rfl, ?_⟩) | (refine ⟨rfl, ?_⟩))
  | (with_reducible refine w_pl ?_)
  | (with_reducible refine w_seqX ?_)
  | (with_reducible refine w_ifX ?_)
  | (with_reducible refine w_forX ?_)
  | (with_reducible refine w_raise ?_)
  | (with_reducible refine w_setX ?_)
  | (with_reducible refine w_lst2X ?_)
  | (with_reducible refine w_try ?_)
  | (with_reducible refine w_callE ?_)
  | (with_reducible refine gox_rt ?_)
  | (with_reducible refine gox_ex ?_)
  | (with_reducible refine endx_dat ?_)
  | (with_reducible refine endx_own ?_)
  | (with_reducible refine endx_nx ?_)
  | (with_reducible refine endx_ex ?_)
  | (with_reducible refine turnx_ex ?_)
  | (with_reducible refine turnx_nx ?_)
  | (with_reducible refine tryo_ex ?_)
  | (with_reducible refine tryo_fl ?_)
  | (with_reducible refine seto_v ?_)
  | (with_reducible refine seto_x ?_)
  | (with_reducible refine lst2_d ?_)
  | (with_reducible refine lst2_o ?_)
  | (with_reducible refine lst2_x ?_)
  | (with_reducible refine w_told ⟨Nat.le_of_ble_eq_true rfl, by decide⟩ ?_)
  | ((with_reducible refine gox_nx (w_norm (ρ' := ?_) ?_ ?_)); rotate_left; · first | (dsimp only [List.set, back, Val.put, List.getElem?_cons_zero, List.getElem?_cons_succ, wipeE, backE]; exact rfl) | exact rfl))
local macro_rules | `(tactic| trivial) => `(tactic| ((with_reducible refine gFw ?_); first
  | (with_reducible refine fw_is_integer ?_)
  | (with_reducible refine fw_is_within ?_)
  | (with_reducible refine fw_want_row (by assumption) ?_)
  | (with_reducible refine fw_want_as_many (by first | assumption | omega) ?_)
  | (with_reducible refine fw_want_like (by assumption) (by assumption) (by first | assumption | omega) (by first | assumption | omega) ?_)
  | (with_reducible refine fw_shape_of (by first | assumption | exact RowOk.le (by assumption) | omega) ?_)
  | (with_reducible refine fw_heads_of (by first | assumption | exact RowOk.le (by assumption) | omega) ?_)
  | (with_reducible refine fw_law_shape (by first | assumption | exact RowOk.le (by assumption) | omega) ?_)
  | (with_reducible refine fw_law_heads (by first | assumption | exact RowOk.le (by assumption) | omega) ?_)
  | (with_reducible refine fw_law_is_evener (by first | assumption | exact RowOk.le (by assumption) | omega) (by first | assumption | omega) ?_)
  ))
/-! any value as a chain -/
def isRV : PD → Bool
  | .tuple ds => decide (1 ≤ (ds.length : Int)) && decide ((ds.length : Int) ≤ 6) && ds.all fun x => isW x 0 60
  | _ => false
theorem fw_is_row_valueV {d : PD} {Q : RV → List Val → Prop} (hn : d.weight ≤ 1000000) (z : Q (.dat (.bool (isRV d))) [.dat d]) : Fw m_is_row_value [.dat d] Q := by
  refine fb_is_row_value ?_
  unfold b_is_row_value
  cases d with
  | tuple ds =>
    have hl : ds.length ≤ 1000000 := by
      have := weightAll_len ds
      simp only [PyData.weight] at hn
      omega
    have e : isRV (.tuple ds) = (decide (1 ≤ (ds.length : Int)) && decide ((ds.length : Int) ≤ 6) && ds.all fun x => isW x 0 60) := rfl
    rw [e] at z
    repeat trivial
    refine br_dec (fun h1 => ?_) (fun h1 => ?_)
    · rw [decide_eq_true h1, Bool.true_and] at z
      repeat trivial
      refine br_dec (fun h2 => ?_) (fun h2 => ?_)
      · rw [decide_eq_true h2, Bool.true_and] at z
        repeat trivial
        refine w_lc_t (enc := id) (l := ds) (fun x => .bool (isW x 0 60)) (by simp) (fun x hx => ?_) ?_
        · repeat trivial
        repeat trivial
        refine op_all ?_
        repeat trivial
      · rw [decide_eq_false h2, Bool.false_and] at z
        repeat trivial
    · rw [decide_eq_false h1, Bool.false_and, Bool.false_and] at z
      repeat trivial
  | _ => repeat trivial
def elemV (n : Nat) (d : PD) : Bool := isRV d && (match d with
  | .tuple ds => decide ((ds.length : Int) = n)
  | _ => false)
theorem elems_of {n : Nat} : ∀ {ds : List PD}, (ds.all (elemV n)) = true → ∃ R : List (List Int), ds = R.map rowD ∧ ∀ q ∈ R, RowOk q ∧ q.length = n
  | [], _ => ⟨[], rfl, fun _ h => nomatch h⟩
  | d :: ds, h => by
    rw [List.all_cons, Bool.and_eq_true] at h
    obtain ⟨R, rfl, g⟩ := elems_of h.2
    have h1 := h.1
    cases d <;> first | exact absurd h1 Bool.false_ne_true | skip
    rename_i a
    simp only [elemV, isRV, Bool.and_eq_true, decide_eq_true_eq] at h1
    obtain ⟨e, g2⟩ := allW_nums h1.1.2
    have hl : (a.map toI).length = a.length := List.length_map _
    refine ⟨a.map toI :: R, ?_, fun q hq => ?_⟩
    · show PyData.tuple a :: _ = PyData.tuple (numL (a.map toI)) :: _
      rw [← e]
    · rcases List.mem_cons.mp hq with rfl | hq
      · exact ⟨⟨by omega, by omega, g2⟩, by omega⟩
      · exact g q hq
def pairsV (R : List (List Int)) : Bool := (R.zip (R.drop 1)).all fun p => stepB p.1 p.2
def rowsV (r s : List Int) (R : List (List Int)) : Bool := decide (R.head? = some (shapeL s)) && decide (R.getLast? = some (shapeL r)) && pairsV R
def toR : PD → List Int
  | .tuple a => a.map toI
  | _ => []
def seqV (r s : List Int) (ds : List PD) : Bool := !ds.isEmpty && ds.all (elemV r.length) && rowsV r s (ds.map toR)
def chainV (r s : List Int) : PD → Bool
  | .list ds => seqV r s ds
  | .tuple ds => seqV r s ds
  | _ => false
theorem toR_rows : ∀ R : List (List Int), (R.map rowD).map toR = R
  | [] => rfl
  | q :: R => by
    rw [List.map_cons, List.map_cons, toR_rows R]
    show (numL q).map toI :: R = _
    rw [toI_numL]
theorem zip_rows (R S : List (List Int)) : zipD (R.map rowD) (S.map rowD) = (R.zip S).map fun p => PyData.tuple [rowD p.1, rowD p.2] := by
  unfold zipD
  rw [List.zipWith_map, List.map_zip_eq_zipWith]
  rfl
theorem inL_rows {q : List Int} {ls : List (List Int)} : inL (rowD q) (ls.map rowD) = decide (q ∈ ls) := by
  unfold inL
  rw [List.any_map, Bool.eq_iff_iff, List.any_eq_true, decide_eq_true_eq]
  constructor
  · rintro ⟨x, hx, e⟩
    have e : PyData.eqv (rowD x) (rowD q) = true := e
    rw [eqv_row, decide_eq_true_eq] at e
    rw [← e]; exact hx
  · intro h
    refine ⟨q, h, ?_⟩
    show PyData.eqv (rowD q) (rowD q) = true
    rw [eqv_row]; simp
theorem shaped_rowsL (R : List (List Int)) : SeqAt.shaped (.list (R.map rowD)) = true := by
  have h := shaped_rowsT R
  simp only [SeqAt.shaped, PyData.canLay0, PyData.depth] at h ⊢
  exact h
theorem op_inRows {q : List Int} {ls : List (List Int)} {Q : RV → Prop} (z : Q (.dat (.bool (decide (q ∈ ls))))) : Op (inD id (rowD q) (.list (ls.map rowD))) Q := op_of (by
  have e : inD id (rowD q) (.list (ls.map rowD)) = if SeqAt.shaped (rowD q) = true ∧ SeqAt.shaped (.list (ls.map rowD)) = true then some (.dat (.bool (id (inL (rowD q) (ls.map rowD))))) else none := rfl
  rw [e, if_pos ⟨row_shaped q, shaped_rowsL ls⟩, inL_rows]; rfl) z
theorem op_neRows {q r : List Int} {Q : RV → Prop} (z : Q (.dat (.bool (!decide (q = r))))) : Op (neqD (rowD q) (rowD r)) Q := op_eq (row_shaped q) (row_shaped r) (by
  show Q (.dat (.bool (!PyData.eqv (rowD q) (rowD r))))
  rw [eqv_row]; exact z)
theorem fw_is_chainV {r s : List Int} {d : PD} {Q : RV → List Val → Prop} (hr : RowOk r) (hs : RowOk s) (hl : r.length = s.length) (he : r.sum = s.sum) (hn : d.weight ≤ 100000) (z : Q (.dat (.bool (chainV r s d))) [.dat (rowD r), .dat (rowD s), .dat d]) : Fw m_is_chain [.dat (rowD r), .dat (rowD s), .dat d] Q := by
  have seq : ∀ ds : List PD, (d = .list ds ∨ d = .tuple ds) → Fw m_is_chain [.dat (rowD r), .dat (rowD s), .dat d] Q := fun ds hv => by
    have hz : chainV r s d = seqV r s ds := by rcases hv with rfl | rfl <;> rfl
    rw [hz] at z
    have hw : ds.length ≤ 100000 ∧ ∀ e ∈ ds, e.weight ≤ 100000 := by
      have h0 : PyData.weightAll ds ≤ 100000 := by
        rcases hv with rfl | rfl <;> simpa only [PyData.weight] using hn
      refine ⟨Nat.le_trans (weightAll_len ds) h0, fun e h => ?_⟩
      have := weightAll_mem h
      omega
    have hlen : ∀ {P : RV → Prop}, P (.dat (.int ds.length)) → Op (lenF [d]) P := fun {P} h => by
      rcases hv with rfl | rfl <;> exact op_of rfl h
    have hit : ∀ {P : List PD → Prop}, P ds → Op (itemsOf d) P := fun {P} h => by
      rcases hv with rfl | rfl <;> exact op_of rfl h
    have hix : ∀ {P : RV → Prop} {i : Int} {x : PD}, atI ds i = some x → P (.dat x) → Op (ixD d (.int i)) P := fun {P i x} h0 h => by
      rcases hv with rfl | rfl
      · exact op_ixL h0 h
      · exact op_ixT h0 h
    have hsl : ∀ {P : RV → Prop}, (∀ e, (e = RV.own (ds.drop 1) ∨ e = RV.dat (.tuple (ds.drop 1))) → P e) → Op (sliceD d (some 1) none) P := fun {P} h => by
      rcases hv with rfl | rfl
      · exact op_dropPL (by decide) (h _ (.inl rfl))
      · exact op_dropPT (by decide) (h _ (.inr rfl))
    refine fb_is_chain ?_
    unfold b_is_chain
    repeat trivial
    refine br_t (by rcases hv with rfl | rfl <;> rfl) ?_
    repeat trivial
    refine hlen ?_
    repeat trivial
    refine br_dec (fun c0 => ?_) (fun c0 => ?_)
    · have e : seqV r s ds = false := by
        have : ds = [] := List.length_eq_zero_iff.mp (by omega)
        rw [this]; rfl
      rw [e] at z
      repeat trivial
    have hne : ds.isEmpty = false := by
      cases ds with
      | nil => exact absurd rfl c0
      | cons _ _ => rfl
    repeat trivial
    refine hit ?_
    refine and_lk (by omega) ?_
    repeat trivial
    refine w_lc_t (enc := id) (l := ds) (fun x => .bool (elemV r.length x)) (by simp) (fun x hx => ?_) ?_
    · repeat trivial
      refine fw_is_row_valueV (Nat.le_trans (hw.2 x hx) (by decide)) ?_
      repeat trivial
      cases x with
      | tuple a =>
        have e : elemV r.length (.tuple a) = (isRV (.tuple a) && decide ((a.length : Int) = r.length)) := rfl
        refine br_bool (fun h1 => ?_) (fun h1 => ?_)
        · have h1 : isRV (.tuple a) = true := h1
          rw [e, h1, Bool.true_and]
          repeat trivial
        · have h1 : isRV (.tuple a) = false := h1
          rw [e, h1, Bool.false_and]
          repeat trivial
      | _ => repeat trivial
    repeat trivial
    refine op_all ?_
    repeat trivial
    refine br_bool (fun c1 => ?_) (fun c1 => ?_)
    · obtain ⟨R, hR, hRe⟩ := elems_of c1
      have z : Q (.dat (.bool (rowsV r s R))) [.dat (rowD r), .dat (rowD s), .dat d] := by
        have e : seqV r s ds = rowsV r s R := by
          simp only [seqV, hne, c1, Bool.not_false, Bool.true_and]
          rw [hR, toR_rows]
        rw [e] at z; exact z
      have hRl : R.length = ds.length := by rw [hR, List.length_map]
      have hRne : R ≠ [] := fun h => by rw [h] at hR; rw [hR] at hne; cases hne
      obtain ⟨p0, hp0⟩ : ∃ p0, R.head? = some p0 := ⟨R.head hRne, List.head?_eq_some_head hRne⟩
      obtain ⟨pl, hpl⟩ : ∃ pl, R.getLast? = some pl := ⟨R.getLast hRne, List.getLast?_eq_some_getLast hRne⟩
      have d0 : atI ds 0 = some (rowD p0) := atI_nat (k := 0) (by rw [hR, List.getElem?_map, ← List.head?_eq_getElem?, hp0]; rfl)
      have dl : atI ds (-1) = some (rowD pl) := atI_last (by rw [hR, List.getLast?_map, hpl]; rfl)
      have zv : rowsV r s R = (decide (p0 = shapeL s) && decide (pl = shapeL r) && pairsV R) := by
        simp only [rowsV, hp0, hpl, Option.some.injEq]
      rw [zv] at z
      have rl := hr.le
      have sl := hs.le
      have dr : ds.drop 1 = (R.drop 1).map rowD := by rw [hR, List.map_drop]
      have zr : zipD ds (ds.drop 1) = (R.zip (R.drop 1)).map fun p => PyData.tuple [rowD p.1, rowD p.2] := by
        rw [dr, hR, zip_rows]
      have zl : (R.zip (R.drop 1)).length ≤ 100000 := by
        rw [List.length_zip]; omega
      clear hR
      repeat trivial
      refine hix d0 ?_
      repeat trivial
      refine op_neRows ?_
      refine tr_of ?_
      refine br_not ?_
      refine br_dec (fun c2 => ?_) (fun c2 => ?_)
      · rw [decide_eq_true c2, Bool.true_and] at z
        repeat trivial
        refine hix dl ?_
        repeat trivial
        refine op_neRows ?_
        refine tr_of ?_
        refine br_not ?_
        refine br_dec (fun c3 => ?_) (fun c3 => ?_)
        · rw [decide_eq_true c3, Bool.true_and] at z
          repeat trivial
          refine hsl fun e he => ?_
          rcases he with rfl | rfl
          · repeat trivial
            refine hit ?_
            repeat trivial
            rw [zr]
            refine and_lk (by rw [List.length_map]; omega) ?_
            repeat trivial
            refine w_lc_t (enc := fun p : List Int × List Int => PyData.tuple [rowD p.1, rowD p.2]) (l := R.zip (R.drop 1)) (fun p => .bool (stepB p.1 p.2)) rfl (fun p hp => ?_) ?_
            · have hm := List.of_mem_zip hp
              repeat trivial
              refine fw_steps_down_of (hRe p.1 hm.1).1 fun ls l36 lm => ?_
              repeat trivial
              refine op_inRows ?_
              have e : decide (p.2 ∈ ls) = stepB p.1 p.2 := by rw [Bool.eq_iff_iff, decide_eq_true_eq, lm]
              rw [e]
              repeat trivial
            repeat trivial
            refine op_all ?_
            repeat trivial
          · repeat trivial
            refine hit ?_
            repeat trivial
            rw [zr]
            refine and_lk (by rw [List.length_map]; omega) ?_
            repeat trivial
            refine w_lc_t (enc := fun p : List Int × List Int => PyData.tuple [rowD p.1, rowD p.2]) (l := R.zip (R.drop 1)) (fun p => .bool (stepB p.1 p.2)) rfl (fun p hp => ?_) ?_
            · have hm := List.of_mem_zip hp
              repeat trivial
              refine fw_steps_down_of (hRe p.1 hm.1).1 fun ls l36 lm => ?_
              repeat trivial
              refine op_inRows ?_
              have e : decide (p.2 ∈ ls) = stepB p.1 p.2 := by rw [Bool.eq_iff_iff, decide_eq_true_eq, lm]
              rw [e]
              repeat trivial
            repeat trivial
            refine op_all ?_
            repeat trivial
        · rw [decide_eq_false c3, Bool.false_and] at z
          repeat trivial
      · rw [decide_eq_false c2, Bool.false_and, Bool.false_and] at z
        repeat trivial
    · have e : seqV r s ds = false := by simp only [seqV, c1, Bool.and_false, Bool.false_and]
      rw [e] at z
      repeat trivial
  cases d with
  | list ds => exact seq ds (.inl rfl)
  | tuple ds => exact seq ds (.inr rfl)
  | _ =>
    refine fb_is_chain ?_
    unfold b_is_chain
    repeat trivial
def elemL (n : Nat) (d : PD) : Bool := isD "tuple" d && (match d with
  | .tuple ds => decide ((ds.length : Int) = n)
  | _ => false)
theorem elem_split {n : Nat} (h1 : 1 ≤ n) (h6 : n ≤ 6) (d : PD) : elemV n d = (elemL n d && (itemsT d).all fun x => isW x 0 60) := by
  cases d <;> try rfl
  rename_i a
  show ((decide (1 ≤ (a.length : Int)) && decide ((a.length : Int) ≤ 6) && a.all fun x => isW x 0 60) && decide ((a.length : Int) = n)) = (true && decide ((a.length : Int) = n) && a.all fun x => isW x 0 60)
  by_cases e : (a.length : Int) = n
  · rw [decide_eq_true e, decide_eq_true (show 1 ≤ (a.length : Int) by omega), decide_eq_true (show (a.length : Int) ≤ 6 by omega)]
    simp
  · rw [decide_eq_false e]; simp
theorem all_split {n : Nat} (h1 : 1 ≤ n) (h6 : n ≤ 6) (ds : List PD) : ds.all (elemV n) = ((ds.all (elemL n)) && ds.all fun d => (itemsT d).all fun x => isW x 0 60) := by
  induction ds with
  | nil => rfl
  | cons d ds ih =>
    rw [List.all_cons, List.all_cons, List.all_cons, ih, elem_split h1 h6 d]
    cases elemL n d <;> cases (itemsT d).all (fun x => isW x 0 60) <;> simp
theorem fw_law_is_chainV {r s : List Int} {d : PD} {Q : RV → List Val → Prop} (hr : RowOk r) (hs : RowOk s) (hl : r.length = s.length) (hn : d.weight ≤ 100000) (z : Q (.dat (.bool (chainV r s d))) [.dat (rowD r), .dat (rowD s), .dat d]) : Fw m__law_is_chain [.dat (rowD r), .dat (rowD s), .dat d] Q := by
  have seq : ∀ ds : List PD, (d = .list ds ∨ d = .tuple ds) → Fw m__law_is_chain [.dat (rowD r), .dat (rowD s), .dat d] Q := fun ds hv => by
    have hz : chainV r s d = seqV r s ds := by rcases hv with rfl | rfl <;> rfl
    rw [hz] at z
    have hw : ds.length ≤ 100000 ∧ ∀ e ∈ ds, e.weight ≤ 100000 := by
      have h0 : PyData.weightAll ds ≤ 100000 := by
        rcases hv with rfl | rfl <;> simpa only [PyData.weight] using hn
      refine ⟨Nat.le_trans (weightAll_len ds) h0, fun e h => ?_⟩
      have := weightAll_mem h
      omega
    have hlen : ∀ {P : RV → Prop}, P (.dat (.int ds.length)) → Op (lenF [d]) P := fun {P} h => by
      rcases hv with rfl | rfl <;> exact op_of rfl h
    have hit : ∀ {P : List PD → Prop}, P ds → Op (itemsOf d) P := fun {P} h => by
      rcases hv with rfl | rfl <;> exact op_of rfl h
    have hix : ∀ {P : RV → Prop} {i : Int} {x : PD}, atI ds i = some x → P (.dat x) → Op (ixD d (.int i)) P := fun {P i x} h0 h => by
      rcases hv with rfl | rfl
      · exact op_ixL h0 h
      · exact op_ixT h0 h
    have hsl : ∀ {P : RV → Prop}, (∀ e, (e = RV.own (ds.drop 1) ∨ e = RV.dat (.tuple (ds.drop 1))) → P e) → Op (sliceD d (some 1) none) P := fun {P} h => by
      rcases hv with rfl | rfl
      · exact op_dropPL (by decide) (h _ (.inl rfl))
      · exact op_dropPT (by decide) (h _ (.inr rfl))
    have asp := all_split hr.l1 hr.l2 ds
    refine fb__law_is_chain ?_
    unfold b__law_is_chain
    repeat trivial
    refine br_t (by rcases hv with rfl | rfl <;> rfl) ?_
    repeat trivial
    refine hlen ?_
    repeat trivial
    refine br_dec (fun c0 => ?_) (fun c0 => ?_)
    · have e : seqV r s ds = false := by
        have : ds = [] := List.length_eq_zero_iff.mp (by omega)
        rw [this]; rfl
      rw [e] at z
      repeat trivial
    have hne : ds.isEmpty = false := by
      cases ds with
      | nil => exact absurd rfl c0
      | cons _ _ => rfl
    repeat trivial
    refine hit ?_
    refine and_lk (by omega) ?_
    repeat trivial
    refine w_lc_t (enc := id) (l := ds) (fun x => .bool (elemL r.length x)) (by simp) (fun x hx => ?_) ?_
    · cases x <;> (repeat trivial)
    repeat trivial
    refine op_all ?_
    repeat trivial
    refine br_bool (fun c4 => ?_) (fun c4 => ?_)
    · rw [c4, Bool.true_and] at asp
      repeat trivial
      refine hit ?_
      refine and_lk (by omega) ?_
      repeat trivial
      refine w_lc_t (enc := id) (l := ds) (fun d => .bool ((itemsT d).all fun x => isW x 0 60)) (by simp) (fun x hx => ?_) ?_
      · have h1 := List.all_eq_true.mp c4 x hx
        have hwx := hw.2 x hx
        cases x with
        | tuple a =>
          have ha : a.length ≤ 100000 := by
            have h3 := weightAll_len a
            simp only [PyData.weight] at hwx
            omega
          repeat trivial
          refine w_lc_t (enc := id) (l := a) (fun e => .bool (isW e 0 60)) (by simp) (fun e he => ?_) ?_
          · cases e with
            | int i =>
              repeat trivial
              refine br_dec (fun c => ?_) (fun c => ?_)
              · repeat trivial
                refine ⟨congrArg PyData.bool ?_, rfl⟩
                show decide (i ≤ 60) = (decide (0 ≤ i) && decide (i ≤ 60))
                rw [decide_eq_true c, Bool.true_and]
              · repeat trivial
                refine ⟨congrArg PyData.bool ?_, rfl⟩
                show false = (decide (0 ≤ i) && _)
                rw [decide_eq_false c]; rfl
            | _ => repeat trivial
          repeat trivial
          refine op_all ?_
          repeat trivial
        | _ => exact absurd h1 Bool.false_ne_true
      repeat trivial
      refine op_all ?_
      repeat trivial
      refine br_bool (fun c1' => ?_) (fun c1' => ?_)
      · rw [c1'] at asp
        have c1 := asp
        obtain ⟨R, hR, hRe⟩ := elems_of c1
        have z : Q (.dat (.bool (rowsV r s R))) [.dat (rowD r), .dat (rowD s), .dat d] := by
          have e : seqV r s ds = rowsV r s R := by
            simp only [seqV, hne, c1, Bool.not_false, Bool.true_and]
            rw [hR, toR_rows]
          rw [e] at z; exact z
        have hRl : R.length = ds.length := by rw [hR, List.length_map]
        have hRne : R ≠ [] := fun h => by rw [h] at hR; rw [hR] at hne; cases hne
        obtain ⟨p0, hp0⟩ : ∃ p0, R.head? = some p0 := ⟨R.head hRne, List.head?_eq_some_head hRne⟩
        obtain ⟨pl, hpl⟩ : ∃ pl, R.getLast? = some pl := ⟨R.getLast hRne, List.getLast?_eq_some_getLast hRne⟩
        have d0 : atI ds 0 = some (rowD p0) := atI_nat (k := 0) (by rw [hR, List.getElem?_map, ← List.head?_eq_getElem?, hp0]; rfl)
        have dl : atI ds (-1) = some (rowD pl) := atI_last (by rw [hR, List.getLast?_map, hpl]; rfl)
        have zv : rowsV r s R = (decide (p0 = shapeL s) && decide (pl = shapeL r) && pairsV R) := by
          simp only [rowsV, hp0, hpl, Option.some.injEq]
        rw [zv] at z
        have rl := hr.le
        have sl := hs.le
        have dr : ds.drop 1 = (R.drop 1).map rowD := by rw [hR, List.map_drop]
        have zr : zipD ds (ds.drop 1) = (R.zip (R.drop 1)).map fun p => PyData.tuple [rowD p.1, rowD p.2] := by
          rw [dr, hR, zip_rows]
        have zl : (R.zip (R.drop 1)).length ≤ 100000 := by
          rw [List.length_zip]; omega
        clear hR
        repeat trivial
        refine hix d0 ?_
        repeat trivial
        refine op_neRows ?_
        refine tr_of ?_
        refine br_not ?_
        refine br_dec (fun c2 => ?_) (fun c2 => ?_)
        · rw [decide_eq_true c2, Bool.true_and] at z
          repeat trivial
          refine hix dl ?_
          repeat trivial
          refine op_neRows ?_
          refine tr_of ?_
          refine br_not ?_
          refine br_dec (fun c3 => ?_) (fun c3 => ?_)
          · rw [decide_eq_true c3, Bool.true_and] at z
            repeat trivial
            refine hsl fun e he => ?_
            rcases he with rfl | rfl
            · repeat trivial
              refine hit ?_
              repeat trivial
              rw [zr]
              refine and_lk (by rw [List.length_map]; omega) ?_
              repeat trivial
              refine w_lc_t (enc := fun p : List Int × List Int => PyData.tuple [rowD p.1, rowD p.2]) (l := R.zip (R.drop 1)) (fun p => .bool (stepB p.1 p.2)) rfl (fun p hp => ?_) ?_
              · have hm := List.of_mem_zip hp
                repeat trivial
                have h1 := hRe p.1 hm.1
                have h2 := hRe p.2 (List.mem_of_mem_drop hm.2)
                refine fw_law_is_step h1.1 (by omega) ?_
                repeat trivial
              repeat trivial
              refine op_all ?_
              repeat trivial
            · repeat trivial
              refine hit ?_
              repeat trivial
              rw [zr]
              refine and_lk (by rw [List.length_map]; omega) ?_
              repeat trivial
              refine w_lc_t (enc := fun p : List Int × List Int => PyData.tuple [rowD p.1, rowD p.2]) (l := R.zip (R.drop 1)) (fun p => .bool (stepB p.1 p.2)) rfl (fun p hp => ?_) ?_
              · have hm := List.of_mem_zip hp
                repeat trivial
                have h1 := hRe p.1 hm.1
                have h2 := hRe p.2 (List.mem_of_mem_drop hm.2)
                refine fw_law_is_step h1.1 (by omega) ?_
                repeat trivial
              repeat trivial
              refine op_all ?_
              repeat trivial
          · rw [decide_eq_false c3, Bool.false_and] at z
            repeat trivial
        · rw [decide_eq_false c2, Bool.false_and, Bool.false_and] at z
          repeat trivial
      · rw [c1'] at asp
        have e : seqV r s ds = false := by simp only [seqV, asp, Bool.and_false, Bool.false_and]
        rw [e] at z
        repeat trivial
    · rw [c4, Bool.false_and] at asp
      have e : seqV r s ds = false := by simp only [seqV, asp, Bool.and_false, Bool.false_and]
      rw [e] at z
      repeat trivial
  cases d with
  | list ds => exact seq ds (.inl rfl)
  | tuple ds => exact seq ds (.inr rfl)
  | _ =>
    refine fb__law_is_chain ?_
    unfold b__law_is_chain
    repeat trivial
end HD
namespace HD
open PySem L2 DL
local macro_rules | `(tactic| trivial) => `(tactic| first
  | ((with_reducible refine gRV ?_); first
    | (with_reducible refine w_c ?_)
    | ((with_reducible refine w_var (d := ?_) ?_ ?_); rotate_left; · exact rfl)
    | ((with_reducible refine w_varO (ds := ?_) ?_ ?_); rotate_left; · exact rfl)
    | ((with_reducible refine w_varR (ds := ?_) ?_ ?_); rotate_left; · exact rfl)
    | (with_reducible refine w_bin ?_)
    | (with_reducible refine w_blt ?_)
    | (with_reducible refine w_un ?_)
    | (with_reducible refine w_tup ?_)
    | (with_reducible refine w_lst ?_)
    | (with_reducible refine w_if ?_)
    | (with_reducible refine w_mut rfl ?_)
    | (with_reducible refine w_comp ?_)
    | (with_reducible refine w_slice ?_)
    | (with_reducible refine w_chain ?_)
    | (with_reducible refine w_andV ?_)
    | (with_reducible refine w_orV ?_)
    | (with_reducible refine w_notV ?_)
    | (with_reducible refine w_ofB ?_)
    | ((with_reducible refine w_varS (ds := ?_) ?_ ?_); rotate_left; · exact rfl)
    | ((with_reducible refine w_lenScr (ds := ?_) ?_ ?_); rotate_left; · exact rfl)
    | ((with_reducible refine w_ixScr (ds := ?_) ?_ ?_); rotate_left; · exact rfl)
    | (with_reducible refine w_rg1 ?_)
    | (with_reducible refine w_rg2 ?_)
    | (with_reducible refine w_read ?_)
    | ((with_reducible refine w_slScr (ds := ?_) ?_ ?_); rotate_left; · exact rfl)
    | ((with_reducible refine w_call ?_ ?_); rotate_left; (· exact hand_of _ _ _))
    | ((with_reducible refine w_callP ?_ ?_); rotate_left; (· exact hand_of _ _ _))
    | ((with_reducible refine w_callK ?_ ?_); rotate_left; (· exact hand_of _ _ _))
    | (with_reducible refine w_callN ?_))
  | ((with_reducible refine gRL ?_); first
    | (with_reducible refine w_cons ?_)
    | (with_reducible refine w_nil ?_))
  | ((with_reducible refine gFl ?_); first
    | (with_reducible refine w_seq ?_)
    | (with_reducible refine w_set ?_)
    | (with_reducible refine w_ifS ?_)
    | (with_reducible refine w_ret ?_)
    | (with_reducible refine w_asg ?_)
    | (with_reducible refine w_drop ?_)
    | (with_reducible refine w_par ?_)
    | (with_reducible refine w_for ?_)
    | (with_reducible refine w_next ?_))
  | ((with_reducible refine gBo ?_); first
    | (with_reducible refine w_truth ?_)
    | (with_reducible refine w_not ?_)
    | (with_reducible refine w_and ?_)
    | (with_reducible refine w_or ?_)
    | (with_reducible refine w_if ?_)
    | (with_reducible refine w_thawT ?_)
    | (with_reducible refine w_yes ?_))
  | ((with_reducible refine gPL ?_); first
    | (with_reducible refine w_args ?_)
    | (with_reducible refine w_items ?_)
    | (with_reducible refine w_range1 ?_)
    | (with_reducible refine w_range2 ?_)
    | (with_reducible refine w_enum ?_)
    | (with_reducible refine w_zip ?_))
  | ((with_reducible refine gOI ?_); first
    | (with_reducible refine w_partN ?_)
    | (with_reducible refine w_partS ?_))
  | ((with_reducible refine gO2 ?_); first
    | (with_reducible refine op2_tdC ?_)
    | (with_reducible refine op2_tdN ?_)
    | (with_reducible refine op2_tvC ?_)
    | (with_reducible refine op2_tvN ?_)
    | (refine op2_of rfl ?_))
  | ((with_reducible refine gOp ?_); first
    | (with_reducible refine op_bName ?_)
    | (with_reducible refine op_bTup rfl ?_)
    | (with_reducible refine op_bTup2 rfl ?_)
    | (with_reducible refine op_bTup2L rfl ?_)
    | (with_reducible refine op_bCons ?_)
    | (with_reducible refine op_bNil ?_)
    | ((with_reducible refine op_subR (r := ?_) ?_ ?_); rotate_left; · exact rfl)
    | (with_reducible refine op_resC ?_)
    | (with_reducible refine op_resN ?_)
    | (with_reducible refine op_addI ?_)
    | (with_reducible refine op_subI ?_)
    | (with_reducible refine op_lt ?_)
    | (with_reducible refine op_le ?_)
    | (with_reducible refine op_gt ?_)
    | (with_reducible refine op_ge ?_)
    | (with_reducible refine op_eqI ?_)
    | (with_reducible refine op_neI ?_)
    | (with_reducible refine op_int ?_)
    | (with_reducible refine op_eqB ?_)
    | (with_reducible refine op_neB ?_)
    | (with_reducible refine op_isB ?_)
    | (with_reducible refine op_notB ?_)
    | (with_reducible refine op_neSS ?_)
    | (with_reducible refine op_eqSS ?_)
    | (with_reducible refine op_eqSx (by decide +kernel) ?_)
    | (with_reducible refine op_neSx (by decide +kernel) ?_)
    | (with_reducible refine op_max2 ?_)
    | (with_reducible refine op_min2 ?_)
    | (with_reducible refine op_abs ?_)
    | (with_reducible refine op_lenR ?_)
    | (with_reducible refine op_lenRL ?_)
    | (with_reducible refine op_rev2R ?_)
    | (with_reducible refine op_rev2T ?_)
    | (with_reducible refine op_listR ?_)
    | (with_reducible refine op_sumR ?_)
    | (with_reducible refine op_sumRL ?_)
    | (with_reducible refine op_takeRL (by omega) ?_)
    | (with_reducible refine op_takeR (by omega) ?_)
    | (with_reducible refine op_dropRL (by omega) ?_)
    | (with_reducible refine op_dropR (by omega) ?_)
    | (with_reducible refine op_takePL (by omega) ?_)
    | (with_reducible refine op_dropPL (by omega) ?_)
    | (with_reducible refine op_takePT (by omega) ?_)
    | (with_reducible refine op_dropPT (by omega) ?_)
    | (with_reducible refine op_ixR (by first | omega | (simp only [List.length_set]; omega)) ?_)
    | (with_reducible refine op_ixRL (by first | omega | (simp only [List.length_set]; omega)) ?_)
    | (with_reducible refine op_mod (by first | decide | omega) ?_)
    | (with_reducible refine op_fdiv (by first | decide | omega) ?_)
    | (with_reducible refine op_mulI (by first | decide | omega) ?_)
    | (with_reducible refine op_mul2I (by first | decide | omega) ?_)
    | (with_reducible refine op_mul3I (by first | decide | omega) ?_)
    | (with_reducible refine op_divmod (by first | decide | omega) ?_)
    | (with_reducible refine op_divmod3 (by first | decide | omega) ?_)
    | (with_reducible refine op_pow (by first | decide | omega) ?_)
    | ((with_reducible apply op_reprG); (· (repeat (first | assumption | exact gl_nil | exact gd_none | exact gd_bool _ | exact gd_int (by omega) | exact gd_str | apply gl_cons | apply gd_l | apply gd_t))); (· decide); (· decide))
    | (with_reducible refine op_dbl ?_)
    | (with_reducible refine op_numT ?_)
    | (refine op_of rfl ?_))
  | ((with_reducible refine gBr ?_); first
    | (with_reducible refine br_tt ?_)
    | (with_reducible refine br_ff ?_)
    | (with_reducible refine br_f bne_self ?_)
    | (with_reducible refine br_not ?_)
    | (with_reducible refine br_yes (by first | decide | omega) ?_)
    | (with_reducible refine br_no (by first | decide | omega) ?_)
    | (with_reducible refine br_t (isW_t (by omega)) ?_)
    | (refine br_t (by rfl) ?_)
    | (refine br_f (by rfl) ?_))
  | ((with_reducible refine go_nx (w_norm (ρ' := ?_) ?_ ?_)); rotate_left; · first | (dsimp only [List.set, back, Val.put, List.getElem?_cons_zero, List.getElem?_cons_succ, wipeE, backE]; exact rfl) | exact rfl)
  | ((with_reducible refine nm_of (ρ' := ?_) ?_ ?_); rotate_left; · first | (dsimp only [List.set, back, Val.put, List.getElem?_cons_zero, List.getElem?_cons_succ, wipeE, backE]; exact rfl) | exact rfl)
  | ((with_reducible refine fwN (ys := ?_) ?_ ?_); rotate_left; · (dsimp only [List.filterMap_cons, List.filterMap_nil, List.getElem?_cons_zero, List.getElem?_cons_succ]; exact rfl))
  | (with_reducible refine go_rt ?_)
  | (with_reducible refine and_bd (by omega) (by omega) ?_)
  | (with_reducible refine and_rg (by omega) (by omega) ?_)
  | (with_reducible refine and_lk (by first | omega | (simp only [rangeD_len, List.length_map, List.length_cons, List.length_nil]; omega)) ?_)
  | (with_reducible refine and_ix (by first | omega | (simp only [List.length_set]; omega)) ?_)
  | (with_reducible refine tr_of ?_)
  | (with_reducible refine end_dat ?_)
  | (with_reducible refine end_own ?_)
  | (with_reducible refine end_nx ?_)
  | (with_reducible refine turn_nx ?_)
  | (with_reducible refine turn_rt ?_)
  | ((with_reducible refine gEx ?_); first | (refine ⟨_, _, rfl, ?_⟩) | (refine ⟨_, rfl, ?_⟩) | (refine ⟨_, _, rfl, rfl, ?_⟩))
  | ((with_reducible refine gAn ?_); first | (refine ⟨Nat.le_of_ble_eq_true rfl, ?_⟩) | (refine ⟨rfl, ?_⟩))
  | (with_reducible refine w_pl ?_)
  | (with_reducible refine w_seqX ?_)
  | (with_reducible refine w_ifX ?_)
  | (with_reducible refine w_forX ?_)
  | (with_reducible refine w_raise ?_)
  | (with_reducible refine w_setX ?_)
  | (with_reducible refine w_lst2X ?_)
  | (with_reducible refine w_try ?_)
  | (with_reducible refine w_callE ?_)
  | (with_reducible refine gox_rt ?_)
  | (with_reducible refine gox_ex ?_)
  | (with_reducible refine endx_dat ?_)
  | (with_reducible refine endx_own ?_)
  | (with_reducible refine endx_nx ?_)
  | (with_reducible refine endx_ex ?_)
  | (with_reducible refine turnx_ex ?_)
  | (with_reducible refine turnx_nx ?_)
  | (with_reducible refine tryo_ex ?_)
  | (with_reducible refine tryo_fl ?_)
  | (with_reducible refine seto_v ?_)
  | (with_reducible refine seto_x ?_)
  | (with_reducible refine lst2_d ?_)
  | (with_reducible refine lst2_o ?_)
  | (with_reducible refine lst2_x ?_)
  | (with_reducible refine w_told ⟨Nat.le_of_ble_eq_true rfl, by decide⟩ ?_)
  | ((with_reducible refine gox_nx (w_norm (ρ' := ?_) ?_ ?_)); rotate_left; · first | (dsimp only [List.set, back, Val.put, List.getElem?_cons_zero, List.getElem?_cons_succ, wipeE, backE]; exact rfl) | exact rfl))
local macro_rules | `(tactic| trivial) => `(tactic| ((with_reducible refine gFw ?_); first
  | (with_reducible refine fw_is_integer ?_)
  | (with_reducible refine fw_is_within ?_)
  | (with_reducible refine fw_want_row (by assumption) ?_)
  | (with_reducible refine fw_want_as_many (by first | assumption | omega) ?_)
  | (with_reducible refine fw_want_like (by assumption) (by assumption) (by first | assumption | omega) (by first | assumption | omega) ?_)
  | (with_reducible refine fw_shape_of (by first | assumption | exact RowOk.le (by assumption) | omega) ?_)
  | (with_reducible refine fw_heads_of (by first | assumption | exact RowOk.le (by assumption) | omega) ?_)
  | (with_reducible refine fw_law_shape (by first | assumption | exact RowOk.le (by assumption) | omega) ?_)
  | (with_reducible refine fw_law_heads (by first | assumption | exact RowOk.le (by assumption) | omega) ?_)
  | (with_reducible refine fw_law_is_evener (by first | assumption | exact RowOk.le (by assumption) | omega) (by first | assumption | omega) ?_)
  ))
theorem str_vl {i : Int} (h : i.natAbs < 1000000000000) : Vl 0 20 (.str (toString i)) := by
  have e := int_text_length_le10 (a := i) (k := 12) (by decide) (by omega)
  have l : (Str.ofString (toString i)).cps.size ≤ 13 := by
    have := PyProof.Rows.ofString_length (toString i)
    have h2 : (Str.ofString (toString i)).cps.size = (toString i).toList.length := this
    rw [h2, String.length_toList]
    exact e
  refine ⟨by simp [PyData.depth], ?_, ?_⟩
  · simp only [PyData.weight]
    exact Nat.le_trans l (by decide)
  · show (Str.ofString (toString i)).cps.all (· < 0x110000) = true
    rw [PySem.Str.ofString_eq_toList]
    simp only [List.all_toArray, List.all_map, List.all_eq_true]
    intro c _
    have := c.valid
    simp only [Function.comp, decide_eq_true_eq]
    have h3 : c.toNat < 0x110000 := by
      rcases this with h | h
      · exact Nat.lt_trans h (by decide)
      · exact h.2
    exact h3
def odd1 : List PD := [.none, .tuple [], .list [], .dict [], .int 0, .str "heads", .str "sides", .str "Sides"]
theorem odd1_vl : ∀ x ∈ odd1, Vl 1 40 x := fun x hx => by
  have : ∀ x ∈ odd1, x.depth ≤ 1 ∧ x.weight ≤ 40 ∧ fit x = true := by decide +kernel
  obtain ⟨h1, h2, h3⟩ := this x hx
  exact ⟨h1, h2, h3⟩
mutual
def smD : PD → Bool
  | .int i => decide (i.natAbs < 1000000000000)
  | .str _ => true
  | .list xs | .tuple xs => smL xs
  | _ => false
def smL : List PD → Bool
  | [] => true
  | x :: xs => smD x && smL xs
end
theorem smL_mem : ∀ {xs : List PD}, smL xs = true ↔ ∀ x ∈ xs, smD x = true
  | [] => by simp [smL]
  | x :: xs => by simp [smL, smL_mem (xs := xs)]
theorem hand_bent : ∀ n, Hand (r__law_bent n)
  | 0 => fun _ _ _ e => nomatch e
  | _ + 1 => hand_of _ _ _
theorem mem_weight {j k w w' : Nat} {ds : List PD} {d : PD} {i : Nat} (h : VL j w ds) (hi : i < ds.length) (hd : Vl k (2 * (ds[i]).weight + 100) d) : VL (max k j) (2 * w + 100) (ds.set i d) := by
  have pm : (ds.set i d).Perm (d :: ds.eraseIdx i) := by
    rw [List.set_eq_take_append_cons_drop, if_pos hi, List.eraseIdx_eq_take_drop_succ]
    exact List.perm_middle
  have pm2 : ds.Perm (ds[i] :: ds.eraseIdx i) := by
    have : ds.set i ds[i] = ds := List.set_getElem_self hi
    have e : (ds.set i ds[i]).Perm (ds[i] :: ds.eraseIdx i) := by
      rw [List.set_eq_take_append_cons_drop, if_pos hi, List.eraseIdx_eq_take_drop_succ]
      exact List.perm_middle
    rwa [this] at e
  have w1 := h.wt
  rw [weightAll_perm pm2] at w1
  simp only [PyData.weightAll] at w1
  have h2 := h.sub (List.eraseIdx_sublist ds i)
  have h3 : VL j (PyData.weightAll (ds.eraseIdx i)) (ds.eraseIdx i) := ⟨h2.dp, Nat.le_refl _, h2.ok⟩
  exact ((vL_cons hd h3).mono (Nat.le_refl _) (by omega)).perm pm
theorem fw_law_bentV : ∀ (f : Nat) {p : List PD} {d : PD} {k w : Nat} {Q : RV → List Val → Prop}, k < f → Pot p → Vl k w d → smD d = true → w ≤ 100000 →
    (∀ p' r d', Pot p' → (r = .dat d' ∨ ∃ ds, r = .own ds ∧ d' = .list ds) → Vl (k + 1) (2 * w + 100) d' → Q r [.ref p', .dat d]) → Fw (r__law_bent f) [.ref p, .dat d] Q := by
  intro f
  induction f with
  | zero => intro p d k w Q hf; exact absurd hf (Nat.not_lt_zero _)
  | succ f ih =>
    intro p d k w Q hf hp hd hn hw z
    refine fb__law_bent ?_
    unfold b__law_bent
    have ov := odd1_vl
    have ol : 0 < odd1.length ∧ odd1.length < 1000000 := by decide
    have ne1 : odd1 ≠ [] := by decide
    have pick : ∀ p' x, Pot p' → x ∈ odd1 → Q (.dat x) [.ref p', .dat d] := fun p' x hp' hx => z p' _ x hp' (.inl rfl) ((ov x hx).mono (by omega) (by omega))
    cases d with
    | int i =>
      have hi : i.natAbs < 1000000000000 := by simpa [smD] using hn
      repeat trivial
      have hsz : i.natAbs < 1000000000000000000 := by omega
      refine op_of (if_pos hsz) ?_
      repeat trivial
      refine fw_pick hp (by simp) (by simp) fun p' x hp' hx => ?_
      repeat trivial
      refine z p' _ x hp' (.inl rfl) ?_
      have g : ∀ j : Int, j.natAbs < 10000000000000 → Vl 1 60 (.int j) := fun j hj => ⟨by simp [PyData.depth], by
          simp only [PyData.weight]
          split
          · omega
          · rename_i h0
            have := (Nat.log2_lt (n := j.natAbs) (k := 45) (by
              intro e
              exact h0 (by rw [Int.natAbs_eq_zero.mp e]; rfl))).mpr (by omega)
            omega, by simp only [fit]; exact decide_eq_true (by omega)⟩
      have key : Vl 1 70 x := by
        simp only [List.mem_cons, List.not_mem_nil, or_false] at hx
        rcases hx with rfl | rfl | rfl | rfl | rfl | rfl | rfl | rfl | rfl | rfl
        · exact (g _ (by omega)).mono (by decide) (by decide)
        · exact (g _ (by omega)).mono (by decide) (by decide)
        · exact (g _ (by decide)).mono (by decide) (by decide)
        · exact (g _ (by decide)).mono (by decide) (by decide)
        · exact (gd_bool true).vl.mono (by decide) (by decide)
        · exact gd_none.vl.mono (by decide) (by decide)
        · exact (g _ (by decide)).mono (by decide) (by decide)
        · exact (g _ (by decide)).mono (by decide) (by decide)
        · exact (str_vl hi).mono (by decide) (by decide)
        · have g0 : Vl 0 60 (.int i) := ⟨by simp [PyData.depth], (g i (by omega)).wt, (g i (by omega)).ok⟩
          exact (vl_t (vL_cons g0 vL_nil)).mono (by decide) (by decide)
      exact key.mono (by omega) (by omega)
    | list ds =>
      have hn2 : ∀ x ∈ ds, smD x = true := smL_mem.mp (by simpa [smD] using hn)
      obtain ⟨j, hj, hv⟩ := hd.items (.inl rfl)
      have hlw := hv.len
      have hk : 1 ≤ k := by
        have := hd.dp
        simp only [PyData.depth] at this
        omega
      repeat trivial
      refine br_dec (fun c0 => ?_) (fun c0 => ?_)
      · repeat trivial
        refine fw_draw hp (by omega) (by omega) fun p1 n hp1 n1 n2 => ?_
        repeat trivial
        refine br_dec (fun c => ?_) (fun c => ?_)
        · repeat trivial
          refine fw_draw hp1 (by omega) (by omega) fun p2 at_ hp2 a1 a2 => ?_
          repeat trivial
          refine fw_draw hp2 (by omega) (by omega) fun p3 way hp3 b1 b2 => ?_
          repeat trivial
          have t1 := hv.take at_.toNat
          have t2 := hv.drop at_.toNat
          have t3 := hv.take (at_ + 1).toNat
          have t4 := hv.drop (at_ + 1).toNat
          have n1 := t1.len
          have n2 := t2.len
          have n3 := t3.len
          have n4 := t4.len
          refine br_dec (fun e1 => ?_) (fun e1 => ?_)
          · repeat trivial
            refine op_addL (by omega) ?_
            repeat trivial
            exact z p3 _ (.list _) hp3 (.inr ⟨_, rfl, rfl⟩) ((vl_l (vL_append t1 t4)).mono (by omega) (by omega))
          repeat trivial
          refine br_dec (fun e2 => ?_) (fun e2 => ?_)
          · have t5 : VL j w (cutD ds (some at_) (some (at_ + 1))) := hv.sub ((List.take_sublist _ _).trans (List.drop_sublist _ _))
            have n5 := t5.len
            have pm : (ds.take at_.toNat ++ cutD ds (some at_) (some (at_ + 1)) ++ ds.drop at_.toNat).Perm (cutD ds (some at_) (some (at_ + 1)) ++ ds) := by
              refine (List.Perm.append_right _ List.perm_append_comm).trans ?_
              rw [List.append_assoc, List.take_append_drop]
            have key := (vL_append t5 hv).perm pm
            repeat trivial
            refine op_addL (by omega) ?_
            repeat trivial
            refine op_addL (by rw [List.length_append]; omega) ?_
            repeat trivial
            exact z p3 _ (.list _) hp3 (.inr ⟨_, rfl, rfl⟩) ((vl_l key).mono (by omega) (by omega))
          repeat trivial
          refine br_dec (fun e4 => ?_) (fun e4 => ?_)
          · repeat trivial
            exact z p3 _ (.tuple ds) hp3 (.inl rfl) ((vl_t hv).mono (by omega) (by omega))
          repeat trivial
          refine br_dec (fun e3 => ?_) (fun e3 => ?_)
          · repeat trivial
            exact z p3 _ (.list _) hp3 (.inr ⟨_, rfl, rfl⟩) ((vl_l hv.reverse).mono (by omega) (by omega))
          have hat : at_.toNat < ds.length := by omega
          repeat trivial
          refine w_callP ?_ (hand_bent f)
          repeat trivial
          refine op_ixL (d := ds[at_.toNat]) (atI_int a1 (List.getElem?_eq_getElem hat)) ?_
          repeat trivial
          have hm := hv.mem (List.getElem_mem hat)
          refine ih (k := j) (w := (ds[at_.toNat]).weight) (by omega) hp3 ⟨hm.dp, Nat.le_refl _, hm.ok⟩ (hn2 _ (List.getElem_mem hat)) (Nat.le_trans hm.wt hw) fun p4 r d' hp4 hr hd' => ?_
          have key := mem_weight (w' := 0) hv hat hd'
          have kl := key.len
          rcases hr with rfl | ⟨es, rfl, rfl⟩
          · repeat trivial
            refine op_sub ⟨_, rfl⟩ ?_
            repeat trivial
            refine ⟨_, _, _, at_.toNat, rfl, rfl, rfl, ixN_int a1 a2, ?_⟩
            repeat trivial
            exact z p4 _ _ hp4 (.inr ⟨_, rfl, rfl⟩) ((vl_l key).mono (by omega) (by omega))
          · repeat trivial
            refine op_sub ⟨_, rfl⟩ ?_
            repeat trivial
            refine ⟨_, _, _, at_.toNat, rfl, rfl, rfl, ixN_int a1 a2, ?_⟩
            repeat trivial
            exact z p4 _ _ hp4 (.inr ⟨_, rfl, rfl⟩) ((vl_l key).mono (by omega) (by omega))
        · repeat trivial
          refine fw_pick (some_ := odd1) hp1 ne1 ol.2 fun p' x hp' hx => ?_
          repeat trivial
          exact pick p' x hp' hx
      · repeat trivial
        refine fw_pick (some_ := odd1) hp ne1 ol.2 fun p' x hp' hx => ?_
        repeat trivial
        exact pick p' x hp' hx
    | tuple ds =>
      have hn2 : ∀ x ∈ ds, smD x = true := smL_mem.mp (by simpa [smD] using hn)
      obtain ⟨j, hj, hv⟩ := hd.items (.inr rfl)
      have hlw := hv.len
      have hk : 1 ≤ k := by
        have := hd.dp
        simp only [PyData.depth] at this
        omega
      repeat trivial
      refine br_dec (fun c0 => ?_) (fun c0 => ?_)
      · repeat trivial
        refine fw_draw hp (by omega) (by omega) fun p1 n hp1 n1 n2 => ?_
        repeat trivial
        refine br_dec (fun c => ?_) (fun c => ?_)
        · repeat trivial
          refine fw_draw hp1 (by omega) (by omega) fun p2 at_ hp2 a1 a2 => ?_
          repeat trivial
          refine fw_draw hp2 (by omega) (by omega) fun p3 way hp3 b1 b2 => ?_
          repeat trivial
          have t1 := hv.take at_.toNat
          have t2 := hv.drop at_.toNat
          have t3 := hv.take (at_ + 1).toNat
          have t4 := hv.drop (at_ + 1).toNat
          have n1 := t1.len
          have n2 := t2.len
          have n3 := t3.len
          have n4 := t4.len
          refine br_dec (fun e1 => ?_) (fun e1 => ?_)
          · repeat trivial
            refine op_addT (by omega) ?_
            repeat trivial
            exact z p3 _ (.tuple _) hp3 (.inl rfl) ((vl_t (vL_append t1 t4)).mono (by omega) (by omega))
          repeat trivial
          refine br_dec (fun e2 => ?_) (fun e2 => ?_)
          · have t5 : VL j w (cutD ds (some at_) (some (at_ + 1))) := hv.sub ((List.take_sublist _ _).trans (List.drop_sublist _ _))
            have n5 := t5.len
            have pm : (ds.take at_.toNat ++ cutD ds (some at_) (some (at_ + 1)) ++ ds.drop at_.toNat).Perm (cutD ds (some at_) (some (at_ + 1)) ++ ds) := by
              refine (List.Perm.append_right _ List.perm_append_comm).trans ?_
              rw [List.append_assoc, List.take_append_drop]
            have key := (vL_append t5 hv).perm pm
            repeat trivial
            refine op_addT (by omega) ?_
            repeat trivial
            refine op_addT (by rw [List.length_append]; omega) ?_
            repeat trivial
            exact z p3 _ (.tuple _) hp3 (.inl rfl) ((vl_t key).mono (by omega) (by omega))
          repeat trivial
          refine br_dec (fun e4 => ?_) (fun e4 => ?_)
          · repeat trivial
            exact z p3 _ (.list ds) hp3 (.inr ⟨_, rfl, rfl⟩) ((vl_l hv).mono (by omega) (by omega))
          repeat trivial
          refine br_dec (fun e3 => ?_) (fun e3 => ?_)
          · repeat trivial
            exact z p3 _ (.tuple _) hp3 (.inl rfl) ((vl_t hv.reverse).mono (by omega) (by omega))
          have hat : at_.toNat < ds.length := by omega
          repeat trivial
          refine w_callP ?_ (hand_bent f)
          repeat trivial
          refine op_ixT (d := ds[at_.toNat]) (atI_int a1 (List.getElem?_eq_getElem hat)) ?_
          repeat trivial
          have hm := hv.mem (List.getElem_mem hat)
          refine ih (k := j) (w := (ds[at_.toNat]).weight) (by omega) hp3 ⟨hm.dp, Nat.le_refl _, hm.ok⟩ (hn2 _ (List.getElem_mem hat)) (Nat.le_trans hm.wt hw) fun p4 r d' hp4 hr hd' => ?_
          have key := mem_weight (w' := 0) hv hat hd'
          have kl := key.len
          rcases hr with rfl | ⟨es, rfl, rfl⟩
          · repeat trivial
            refine op_sub ⟨_, rfl⟩ ?_
            repeat trivial
            refine ⟨_, _, _, at_.toNat, rfl, rfl, rfl, ixN_int a1 a2, ?_⟩
            repeat trivial
            exact z p4 _ _ hp4 (.inl rfl) ((vl_t key).mono (by omega) (by omega))
          · repeat trivial
            refine op_sub ⟨_, rfl⟩ ?_
            repeat trivial
            refine ⟨_, _, _, at_.toNat, rfl, rfl, rfl, ixN_int a1 a2, ?_⟩
            repeat trivial
            exact z p4 _ _ hp4 (.inl rfl) ((vl_t key).mono (by omega) (by omega))
        · repeat trivial
          refine fw_pick (some_ := odd1) hp1 ne1 ol.2 fun p' x hp' hx => ?_
          repeat trivial
          exact pick p' x hp' hx
      · repeat trivial
        refine fw_pick (some_ := odd1) hp ne1 ol.2 fun p' x hp' hx => ?_
        repeat trivial
        exact pick p' x hp' hx
    | none => exact absurd hn (by simp [smD])
    | bool _ => exact absurd hn (by simp [smD])
    | dict kvs => exact absurd hn (by simp [smD])
    | _ =>
      repeat trivial
      refine fw_pick (some_ := odd1) hp ne1 ol.2 fun p' x hp' hx => ?_
      repeat trivial
      exact pick p' x hp' hx
def barP (r s : List Int) : PD := match firstL (headsL r) (headsL s) with
  | none => .none
  | some b => .int ((b : Int) + 1)
theorem fw_bar_of {r s : List Int} {Q : RV → List Val → Prop} (hr : RowOk r) (hs : RowOk s) (hl : r.length = s.length) (z : Q (.dat (barP r s)) [.dat (rowD r), .dat (rowD s)]) : Fw m_bar_of [.dat (rowD r), .dat (rowD s)] Q := by
  have rl := hr.le
  have sl := hs.le
  refine fb_bar_of ?_
  unfold b_bar_of
  repeat trivial
  refine w_ez ?_
  repeat trivial
  rw [ez_rows (by rw [headsL_len, headsL_len]; omega), headsL_len]
  refine and_lk (by simp; omega) ?_
  repeat trivial
  refine w_lc_tf (enc := fun k : Nat => PyData.tuple [.int (k : Int), .tuple [.int (gI (headsL r) k), .int (gI (headsL s) k)]]) (l := List.range r.length) (fun k : Nat => decide (gI (headsL s) k < gI (headsL r) k)) (fun k => .int ((k : Int) + 1)) rfl (fun k hk => ?_) ?_
  · repeat trivial
    exact ⟨fun e => (by repeat trivial), fun _ => rfl⟩
  repeat trivial
  refine op_neNilA ?_
  unfold barP firstL at z
  rw [headsL_len] at z
  cases e : (List.range r.length).filter fun k : Nat => decide (gI (headsL s) k < gI (headsL r) k) with
  | nil => rw [e] at z; repeat trivial
  | cons k t =>
    rw [e] at z
    repeat trivial
    refine op_ixL (d := .int ((k : Int) + 1)) (atI_nat (k := 0) rfl) ?_
    repeat trivial
theorem fw_richest {r : List Int} {m : Int} {Q : RV → List Val → Prop} (hr : RowOk r) (hm : 0 ≤ m) (z : ∀ ls : List Int, ls.length ≤ 6 → (∀ x ∈ ls, 0 ≤ x ∧ x < 6) → Q (.dat (rowD ls)) [.dat (rowD r), .dat (.int m)]) : Fw m_richest [.dat (rowD r), .dat (.int m)] Q := by
  have rl := hr.le
  have h6 := hr.l2
  have lo := ordL_len r
  refine fb_richest ?_
  unfold b_richest
  repeat trivial
  refine w_fallR ?_
  repeat trivial
  refine op_sortedRL (by simp; omega) ?_
  repeat trivial
  refine z _ ?_ fun x hx => ?_
  · rw [(sortI_perm _).length_eq, List.length_take]; omega
  · have hx := List.mem_of_mem_take ((sortI_perm _).subset hx)
    obtain ⟨i, hi, rfl⟩ := List.mem_map.mp hx
    have := List.mem_range.mp ((fallL_perm r).subset hi)
    omega
theorem fw_evener_paper {r s : List Int} {Q : RV → List Val → Prop} (hr : RowOk r) (hs : RowOk s) (hl : r.length = s.length) (he : r.sum = s.sum) (z : ∀ ds, Gd 2 300 (.tuple ds) → smD (.tuple ds) = true → Q (.dat (.tuple ds)) [.dat (rowD r), .dat (rowD s)]) : Fw m_evener_paper [.dat (rowD r), .dat (rowD s)] Q := by
  have rl := hr.le
  have sl := hs.le
  have smN : ∀ ls : List Int, (∀ x ∈ ls, 0 ≤ x ∧ x ≤ 360) → smL (numL ls) = true := fun ls h => smL_mem.mpr fun x hx => by
    obtain ⟨v, hv, rfl⟩ := numL_mem hx
    have := h v hv
    exact decide_eq_true (by omega)
  refine fb_evener_paper ?_
  unfold b_evener_paper
  repeat trivial
  refine fw_bar_of hr hs hl ?_
  unfold barP
  cases e : firstL (headsL r) (headsL s) with
  | none =>
    repeat trivial
    refine z _ ?_ ?_
    · have g1 : Gd 1 126 (rowD (headsL r)) := gd_ints (n := 6) (fun x hx => by have := heads_bd hr x hx; omega) (by rw [headsL_len]; exact hr.l2)
      have g2 : Gd 1 126 (rowD (headsL s)) := gd_ints (n := 6) (fun x hx => by have := heads_bd hs x hx; omega) (by rw [headsL_len]; exact hs.l2)
      exact (gd_t (gl_cons (gd_str (x := "heads")) (gl_cons g1 (gl_cons g2 gl_nil)))).mono (by decide) (by decide +kernel)
    · show (smD (.str "heads") && (smL (numL (headsL r)) && (smL (numL (headsL s)) && true))) = true
      rw [smN _ (heads_bd hr), smN _ (heads_bd hs)]; rfl
  | some b =>
    repeat trivial
    refine fw_richest hr (by omega) fun ls h1 h2 => ?_
    repeat trivial
    refine z _ ?_ ?_
    · have g : Gd 1 126 (rowD ls) := gd_ints (n := 6) (fun x hx => by have := h2 x hx; omega) h1
      exact (gd_t (gl_cons (gd_str (x := "sides")) (gl_cons g gl_nil))).mono (by decide) (by decide +kernel)
    · show (smD (.str "sides") && (smL (numL ls) && true)) = true
      rw [smN _ fun x hx => by have := h2 x hx; omega]; rfl
end HD
namespace HD
open PySem L2 DL
local macro_rules | `(tactic| trivial) => `(tactic| first
  | ((with_reducible refine gRV ?_); first
    | (with_reducible refine w_c ?_)
    | ((with_reducible refine w_var (d := ?_) ?_ ?_); rotate_left; · exact rfl)
    | ((with_reducible refine w_varO (ds := ?_) ?_ ?_); rotate_left; · exact rfl)
    | ((with_reducible refine w_varR (ds := ?_) ?_ ?_); rotate_left; · exact rfl)
    | (with_reducible refine w_bin ?_)
    | (with_reducible refine w_blt ?_)
    | (with_reducible refine w_un ?_)
    | (with_reducible refine w_tup ?_)
    | (with_reducible refine w_lst ?_)
    | (with_reducible refine w_if ?_)
    | (with_reducible refine w_mut rfl ?_)
    | (with_reducible refine w_comp ?_)
    | (with_reducible refine w_slice ?_)
    | (with_reducible refine w_chain ?_)
    | (with_reducible refine w_andV ?_)
    | (with_reducible refine w_orV ?_)
    | (with_reducible refine w_notV ?_)
    | (with_reducible refine w_ofB ?_)
    | ((with_reducible refine w_varS (ds := ?_) ?_ ?_); rotate_left; · exact rfl)
    | ((with_reducible refine w_lenScr (ds := ?_) ?_ ?_); rotate_left; · exact rfl)
    | ((with_reducible refine w_ixScr (ds := ?_) ?_ ?_); rotate_left; · exact rfl)
    | (with_reducible refine w_rg1 ?_)
    | (with_reducible refine w_rg2 ?_)
    | (with_reducible refine w_read ?_)
    | ((with_reducible refine w_slScr (ds := ?_) ?_ ?_); rotate_left; · exact rfl)
    | ((with_reducible refine w_call ?_ ?_); rotate_left; (· exact hand_of _ _ _))
    | ((with_reducible refine w_callP ?_ ?_); rotate_left; (· exact hand_of _ _ _))
    | ((with_reducible refine w_callK ?_ ?_); rotate_left; (· exact hand_of _ _ _))
    | (with_reducible refine w_callN ?_))
  | ((with_reducible refine gRL ?_); first
    | (with_reducible refine w_cons ?_)
    | (with_reducible refine w_nil ?_))
  | ((with_reducible refine gFl ?_); first
    | (with_reducible refine w_seq ?_)
    | (with_reducible refine w_set ?_)
    | (with_reducible refine w_ifS ?_)
    | (with_reducible refine w_ret ?_)
    | (with_reducible refine w_asg ?_)
    | (with_reducible refine w_drop ?_)
    | (with_reducible refine w_par ?_)
    | (with_reducible refine w_for ?_)
    | (with_reducible refine w_next ?_))
  | ((with_reducible refine gBo ?_); first
    | (with_reducible refine w_truth ?_)
    | (with_reducible refine w_not ?_)
    | (with_reducible refine w_and ?_)
    | (with_reducible refine w_or ?_)
    | (with_reducible refine w_if ?_)
    | (with_reducible refine w_thawT ?_)
    | (with_reducible refine w_yes ?_))
  | ((with_reducible refine gPL ?_); first
    | (with_reducible refine w_args ?_)
    | (with_reducible refine w_items ?_)
    | (with_reducible refine w_range1 ?_)
    | (with_reducible refine w_range2 ?_)
    | (with_reducible refine w_enum ?_)
    | (with_reducible refine w_zip ?_))
  | ((with_reducible refine gOI ?_); first
    | (with_reducible refine w_partN ?_)
    | (with_reducible refine w_partS ?_))
  | ((with_reducible refine gO2 ?_); first
    | (with_reducible refine op2_tdC ?_)
    | (with_reducible refine op2_tdN ?_)
    | (with_reducible refine op2_tvC ?_)
    | (with_reducible refine op2_tvN ?_)
    | (refine op2_of rfl ?_))
  | ((with_reducible refine gOp ?_); first
    | (with_reducible refine op_bName ?_)
    | (with_reducible refine op_bTup rfl ?_)
    | (with_reducible refine op_bTup2 rfl ?_)
    | (with_reducible refine op_bTup2L rfl ?_)
    | (with_reducible refine op_bCons ?_)
    | (with_reducible refine op_bNil ?_)
    | ((with_reducible refine op_subR (r := ?_) ?_ ?_); rotate_left; · exact rfl)
    | (with_reducible refine op_resC ?_)
    | (with_reducible refine op_resN ?_)
    | (with_reducible refine op_addI ?_)
    | (with_reducible refine op_subI ?_)
    | (with_reducible refine op_lt ?_)
    | (with_reducible refine op_le ?_)
    | (with_reducible refine op_gt ?_)
    | (with_reducible refine op_ge ?_)
    | (with_reducible refine op_eqI ?_)
    | (with_reducible refine op_neI ?_)
    | (with_reducible refine op_int ?_)
    | (with_reducible refine op_eqB ?_)
    | (with_reducible refine op_neB ?_)
    | (with_reducible refine op_isB ?_)
    | (with_reducible refine op_notB ?_)
    | (with_reducible refine op_neSS ?_)
    | (with_reducible refine op_eqSS ?_)
    | (with_reducible refine op_eqSx (by decide +kernel) ?_)
    | (with_reducible refine op_neSx (by decide +kernel) ?_)
    | (with_reducible refine op_max2 ?_)
    | (with_reducible refine op_min2 ?_)
    | (with_reducible refine op_abs ?_)
    | (with_reducible refine op_lenR ?_)
    | (with_reducible refine op_lenRL ?_)
    | (with_reducible refine op_rev2R ?_)
    | (with_reducible refine op_rev2T ?_)
    | (with_reducible refine op_listR ?_)
    | (with_reducible refine op_sumR ?_)
    | (with_reducible refine op_sumRL ?_)
    | (with_reducible refine op_takeRL (by omega) ?_)
    | (with_reducible refine op_takeR (by omega) ?_)
    | (with_reducible refine op_dropRL (by omega) ?_)
    | (with_reducible refine op_dropR (by omega) ?_)
    | (with_reducible refine op_takePL (by omega) ?_)
    | (with_reducible refine op_dropPL (by omega) ?_)
    | (with_reducible refine op_takePT (by omega) ?_)
    | (with_reducible refine op_dropPT (by omega) ?_)
    | (with_reducible refine op_ixR (by first | omega | (simp only [List.length_set]; omega)) ?_)
    | (with_reducible refine op_ixRL (by first | omega | (simp only [List.length_set]; omega)) ?_)
    | (with_reducible refine op_mod (by first | decide | omega) ?_)
    | (with_reducible refine op_fdiv (by first | decide | omega) ?_)
    | (with_reducible refine op_mulI (by first | decide | omega) ?_)
    | (with_reducible refine op_mul2I (by first | decide | omega) ?_)
    | (with_reducible refine op_mul3I (by first | decide | omega) ?_)
    | (with_reducible refine op_divmod (by first | decide | omega) ?_)
    | (with_reducible refine op_divmod3 (by first | decide | omega) ?_)
    | (with_reducible refine op_pow (by first | decide | omega) ?_)
    | ((with_reducible apply op_reprG); (· (repeat (first | assumption | exact gl_nil | exact gd_none | exact gd_bool _ | exact gd_int (by omega) | exact gd_str | apply gl_cons | apply gd_l | apply gd_t))); (· decide); (· decide))
    | (with_reducible refine op_dbl ?_)
    | (with_reducible refine op_numT ?_)
    | (refine op_of rfl ?_))
  | ((with_reducible refine gBr ?_); first
    | (with_reducible refine br_tt ?_)
    | (with_reducible refine br_ff ?_)
    | (with_reducible refine br_f bne_self ?_)
    | (with_reducible refine br_not ?_)
    | (with_reducible refine br_yes (by first | decide | omega) ?_)
    | (with_reducible refine br_no (by first | decide | omega) ?_)
    | (with_reducible refine br_t (isW_t (by omega)) ?_)
    | (refine br_t (by rfl) ?_)
    | (refine br_f (by rfl) ?_))
  | ((with_reducible refine go_nx (w_norm (ρ' := ?_) ?_ ?_)); rotate_left; · first | (dsimp only [List.set, back, Val.put, List.getElem?_cons_zero, List.getElem?_cons_succ, wipeE, backE]; exact rfl) | exact rfl)
  | ((with_reducible refine nm_of (ρ' := ?_) ?_ ?_); rotate_left; · first | (dsimp only [List.set, back, Val.put, List.getElem?_cons_zero, List.getElem?_cons_succ, wipeE, backE]; exact rfl) | exact rfl)
  | ((with_reducible refine fwN (ys := ?_) ?_ ?_); rotate_left; · (dsimp only [List.filterMap_cons, List.filterMap_nil, List.getElem?_cons_zero, List.getElem?_cons_succ]; exact rfl))
  | (with_reducible refine go_rt ?_)
  | (with_reducible refine and_bd (by omega) (by omega) ?_)
  | (with_reducible refine and_rg (by omega) (by omega) ?_)
  | (with_reducible refine and_lk (by first | omega | (simp only [rangeD_len, List.length_map, List.length_cons, List.length_nil]; omega)) ?_)
  | (with_reducible refine and_ix (by first | omega | (simp only [List.length_set]; omega)) ?_)
  | (with_reducible refine tr_of ?_)
  | (with_reducible refine end_dat ?_)
  | (with_reducible refine end_own ?_)
  | (with_reducible refine end_nx ?_)
  | (with_reducible refine turn_nx ?_)
  | (with_reducible refine turn_rt ?_)
  | ((with_reducible refine gEx ?_); first | (refine ⟨_, _, rfl, ?_⟩) | (refine ⟨_, rfl, ?_⟩) | (refine ⟨_, _, rfl, rfl, ?_⟩))
  | ((with_reducible refine gAn ?_); first | (refine ⟨Nat.le_of_ble_eq_true rfl, ?_⟩) | (refine ⟨rfl, ?_⟩))
  | (with_reducible refine w_pl ?_)
  | (with_reducible refine w_seqX ?_)
  | (with_reducible refine w_ifX ?_)
  | (with_reducible refine w_forX ?_)
  | (with_reducible refine w_raise ?_)
  | (with_reducible refine w_setX ?_)
  | (with_reducible refine w_lst2X ?_)
  | (with_reducible refine w_try ?_)
  | (with_reducible refine w_callE ?_)
  | (with_reducible refine gox_rt ?_)
  | (with_reducible refine gox_ex ?_)
  | (with_reducible refine endx_dat ?_)
  | (with_reducible refine endx_own ?_)
  | (with_reducible refine endx_nx ?_)
  | (with_reducible refine endx_ex ?_)
  | (with_reducible refine turnx_ex ?_)
  | (with_reducible refine turnx_nx ?_)
  | (with_reducible refine tryo_ex ?_)
  | (with_reducible refine tryo_fl ?_)
  | (with_reducible refine seto_v ?_)
  | (with_reducible refine seto_x ?_)
  | (with_reducible refine lst2_d ?_)
  | (with_reducible refine lst2_o ?_)
  | (with_reducible refine lst2_x ?_)
  | (with_reducible refine w_told ⟨Nat.le_of_ble_eq_true rfl, by decide⟩ ?_)
  | ((with_reducible refine gox_nx (w_norm (ρ' := ?_) ?_ ?_)); rotate_left; · first | (dsimp only [List.set, back, Val.put, List.getElem?_cons_zero, List.getElem?_cons_succ, wipeE, backE]; exact rfl) | exact rfl))
local macro_rules | `(tactic| trivial) => `(tactic| ((with_reducible refine gFw ?_); first
  | (with_reducible refine fw_is_integer ?_)
  | (with_reducible refine fw_is_within ?_)
  | (with_reducible refine fw_want_row (by assumption) ?_)
  | (with_reducible refine fw_want_as_many (by first | assumption | omega) ?_)
  | (with_reducible refine fw_want_like (by assumption) (by assumption) (by first | assumption | omega) (by first | assumption | omega) ?_)
  | (with_reducible refine fw_shape_of (by first | assumption | exact RowOk.le (by assumption) | omega) ?_)
  | (with_reducible refine fw_heads_of (by first | assumption | exact RowOk.le (by assumption) | omega) ?_)
  | (with_reducible refine fw_law_shape (by first | assumption | exact RowOk.le (by assumption) | omega) ?_)
  | (with_reducible refine fw_law_heads (by first | assumption | exact RowOk.le (by assumption) | omega) ?_)
  | (with_reducible refine fw_law_is_evener (by first | assumption | exact RowOk.le (by assumption) | omega) (by first | assumption | omega) ?_)
  ))
def AllV (acc : List PD) : Prop := ∀ x ∈ acc, Vl 7 3000 x
theorem allV_of {k w : Nat} {ds : List PD} (h : VL k w ds) (hk : k ≤ 7) (hw : w ≤ 3000) : AllV ds := fun x hx => (h.mem hx).mono hk hw
theorem allV_snoc {acc : List PD} {k w : Nat} {d : PD} (h : AllV acc) (g : Vl k w d) (hk : k ≤ 7) (hw : w ≤ 3000) : AllV (acc ++ [d]) := fun x hx => by
  rcases List.mem_append.mp hx with hx | hx
  · exact h x hx
  · have : x = d := by simpa using hx
    rw [this]; exact g.mono hk hw
theorem allV_app {a b : List PD} (h : AllV a) (g : AllV b) : AllV (a ++ b) := fun x hx => (List.mem_append.mp hx).elim (h x) (g x)
/-- a chain from s's shape -/
structure CH (s : List Int) (C : List (List Int)) : Prop where
  el : ∀ q ∈ C, RowOk q ∧ q.length = s.length ∧ q.sum = s.sum ∧ q = shapeL q
  hd : C.head? = some (shapeL s)
  pr : pairsV C = true
theorem dn_sum {r : List Int} {a b : Nat} (ha : a < r.length) (hb : b < r.length) (ne : a ≠ b) : (dnL r a b).sum = r.sum := by
  have h1 : a < r.length := ha
  have h2 : b < (r.set a (gI r a - 1)).length := by simpa using hb
  unfold dnL
  have e1 := gI_get ha
  have e2 := gI_get hb
  rw [DL.sum_set h2, DL.sum_set h1, List.getElem_set, if_neg ne]
  omega
theorem pairs_snoc {C : List (List Int)} {q x : List Int} (h : pairsV C = true) (hl : C.getLast? = some x) (hs : stepB x q = true) : pairsV (C ++ [q]) = true := by
  induction C with
  | nil => cases hl
  | cons c C ih =>
    cases C with
    | nil =>
      have e : c = x := by simpa using hl
      subst e
      simp [pairsV, hs]
    | cons d C =>
      have h' : (stepB c d && pairsV (d :: C)) = true := h
      rw [Bool.and_eq_true] at h'
      have := ih h'.2 (by simpa using hl)
      show (stepB c d && pairsV (d :: (C ++ [q]))) = true
      rw [h'.1, Bool.true_and]
      exact this
theorem stepped {s x q : List Int} (hx : RowOk x ∧ x.length = s.length ∧ x.sum = s.sum ∧ x = shapeL x) (h : stepB x q = true) : RowOk q ∧ q.length = s.length ∧ q.sum = s.sum ∧ q = shapeL q := by
  obtain ⟨g1, g2⟩ := step_ok hx.1 h
  obtain ⟨a, b, h1, hb, e, h3, _⟩ := stepB_iff.mp h
  have hs : q.sum = x.sum := by rw [e]; exact dn_sum (by omega) hb (by omega)
  have l1 := hx.1.l1
  have l2 := hx.1.l2
  refine ⟨⟨by omega, by omega, fun v hv => ⟨(g2 v hv).1, ?_⟩⟩, by omega, by omega, h3⟩
  have hle : v ≤ 60 := by
    obtain ⟨k, hk, rfl⟩ := List.getElem_of_mem hv
    have gk := gI_dn (r := x) (a := a) (b := b) (k := k) (by omega) hb (by omega)
    rw [← e] at gk
    rw [← gI_get hk, gk]
    have bd : ∀ k : Nat, k < x.length → 0 ≤ gI x k ∧ gI x k ≤ 60 := fun k hk => by
      rw [gI_get hk]; exact hx.1.el _ (List.getElem_mem hk)
    have b1 := bd k (by omega)
    have b2 := bd a (by omega)
    have b3 := bd b hb
    by_cases k1 : k = b
    · rw [if_pos k1]
      have hn := shape_anti (r := x) (i := a) (j := b) (by omega) hb
      rw [← hx.2.2.2] at hn
      have ga := gI_dn (r := x) (a := a) (b := b) (k := a) (by omega) hb (by omega)
      rw [← e, if_neg (by omega), if_pos rfl] at ga
      have gb := gI_dn (r := x) (a := a) (b := b) (k := b) (by omega) hb (by omega)
      rw [← e, if_pos rfl] at gb
      have hq := shape_anti (r := q) (i := a) (j := b) (by omega) (by omega)
      rw [← h3] at hq
      omega
    · rw [if_neg k1]
      by_cases k2 : k = a
      · rw [if_pos k2]; omega
      · rw [if_neg k2]; omega
  exact hle
theorem smN2 {ls : List Int} (h : ∀ x ∈ ls, 0 ≤ x ∧ x ≤ 360) : smL (numL ls) = true := smL_mem.mpr fun x hx => by
  obtain ⟨v, hv, rfl⟩ := numL_mem hx
  have := h v hv
  exact decide_eq_true (by omega)
theorem elemV_row {q : List Int} {n : Nat} (h : RowOk q) (hn : q.length = n) : elemV n (rowD q) = true := by
  have l1 := h.l1
  have l2 := h.l2
  show ((decide (1 ≤ ((numL q).length : Int)) && decide (((numL q).length : Int) ≤ 6) && (numL q).all fun x => isW x 0 60) && decide (((numL q).length : Int) = n)) = true
  rw [List.length_map, decide_eq_true (show 1 ≤ (q.length : Int) by omega), decide_eq_true (show (q.length : Int) ≤ 6 by omega), decide_eq_true (show (q.length : Int) = n by omega), Bool.and_true, Bool.true_and, Bool.true_and]
  rw [List.all_eq_true]
  intro d hd
  obtain ⟨v, hv, rfl⟩ := numL_mem hd
  exact isW_t (h.el v hv)
theorem ch_true {s x : List Int} {C : List (List Int)} (ch : CH s C) (hx : C.getLast? = some x) : chainV x s (.list (C.map rowD)) = true := by
  have xe := ch.el x (List.mem_of_getLast? hx)
  have h1 : (C.map rowD).isEmpty = false := by
    cases C with
    | nil => cases hx
    | cons _ _ => rfl
  have h2 : (C.map rowD).all (elemV x.length) = true := List.all_eq_true.mpr fun d hd => by
    obtain ⟨q, hq, rfl⟩ := List.mem_map.mp hd
    have := ch.el q hq
    exact elemV_row this.1 (by omega)
  show (!(C.map rowD).isEmpty && (C.map rowD).all (elemV x.length) && rowsV x s ((C.map rowD).map toR)) = true
  rw [h1, h2, toR_rows]
  simp only [rowsV, ch.hd, hx, ch.pr, Bool.not_false, Bool.true_and, Bool.and_true, Bool.and_eq_true, decide_eq_true_eq, Option.some.injEq, true_and]
  exact xe.2.2.2
def chVals (C : List (List Int)) (x : List Int) : List PD := [.list (C.map rowD), .tuple (C.map rowD), .list (C.map rowD).reverse, .list (cutD (C.map rowD) none (some (-1))), .list (C.map rowD ++ cutD (C.map rowD) (some (-1)) none), .list [], .none, .int 0, .dict [], .list [rowD x], .list (C.map fun q => .list (numL q)), .list ((C.map rowD).take 1)]
def b_tail : Ms := mSeq (mSet 4 (mLst (mCons (mCall m__law_shape (mCons (mVar 10) (mNil))) (mNil)))) <| mSeq (mForS (mRange1 (mCons (mCallP m__law_draw (mCons (mVar 0) (mCons (mC (.int 6)) (mNil)))) (mNil))) (bName 5) (mSeq (mSet 14 (mBin ixD (mVar 4) (mUn negD (mC (.int 1))))) <| mSeq (mSet 15 (mLst (mNil))) <| mSeq (mForS (mRange1 (mCons (mVar 7) (mNil))) (bName 16) (mForS (mRange2 (mCons (mBin addD (mVar 16) (mC (.int 1))) (mCons (mVar 7) (mNil)))) (bName 18) (mSeq (mSet 19 (mBlt listF (mCons (mVar 14) (mNil)))) <| mSeq (mAsg (mTup (mCons (mBin subD (mBin ixD (mVar 19) (mVar 16)) (mC (.int 1))) (mCons (mBin addD (mBin ixD (mVar 19) (mVar 18)) (mC (.int 1))) (mNil)))) (bTup2 2 (bCons (bSub 19 (mVar 16)) (bCons (bSub 19 (mVar 18)) (bNil))))) <| mDrop (mMut 15 extendF (mCons (mIf (mTruth (mCall m__law_is_step (mCons (mVar 14) (mCons (mBlt tupleF (mCons (mVar 19) (mNil))) (mNil))))) (mLst (mCons (mBlt tupleF (mCons (mVar 19) (mNil))) (mNil))) (mLst (mNil))) (mNil)))))) <| mSet 4 (mBin addD (mVar 4) (mIf (mTruth (mBin neqD (mVar 15) (mLst (mNil)))) (mLst (mCons (mCallP m__law_pick (mCons (mVar 0) (mCons (mVar 15) (mNil)))) (mNil))) (mLst (mNil)))))) <| mSeq (mSet 6 (mBin ixD (mVar 4) (mUn negD (mC (.int 1))))) <| mSeq (mForS (mItems (mBin addD (mLst (mCons (mVar 4) (mCons (mBlt tupleF (mCons (mVar 4) (mNil))) (mCons (mUn revD2 (mVar 4)) (mCons (mSlice (mVar 4) none (some (mUn negD (mC (.int 1))))) (mCons (mBin addD (mVar 4) (mSlice (mVar 4) (some (mUn negD (mC (.int 1)))) none)) (mCons (mLst (mNil)) (mCons (mC .none) (mCons (mC (.int 0)) (mCons (mC (.dict [])) (mCons (mLst (mCons (mVar 6) (mNil))) (mCons (mComp [16] (mItems (mVar 4)) (bName 16) (mYes) (mBlt listF (mCons (mVar 16) (mNil)))) (mCons (mSlice (mVar 4) none (some (mC (.int 1)))) (mNil)))))))))))))) (mComp [5] (mRange1 (mCons (mC (.int 6)) (mNil))) (bName 5) (mYes) (mCallP m__law_bent (mCons (mVar 0) (mCons (mVar 4) (mNil))))))) (bName 1) (mSeq (mSet 11 (mCall m__law_is_chain (mCons (mVar 6) (mCons (mVar 10) (mCons (mVar 1) (mNil)))))) <| mIfS (mTruth (mBin neqD (mBlt reprF (mCons (mLst (mCons (mCall m_is_chain (mCons (mVar 6) (mCons (mVar 10) (mCons (mVar 1) (mNil))))) (mCons (mCallK m_is_chain 0 3 [2, 1, 0] mNil (mCons (mVar 1) (mCons (mVar 10) (mCons (mVar 6) (mNil))))) (mNil)))) (mNil))) (mBlt reprF (mCons (mLst (mCons (mVar 11) (mCons (mVar 11) (mNil)))) (mNil))))) (mRet (mC (.bool false))) (mNext))) <| mRet (mBin (isBD id) (mCall m_is_chain (mCons (mVar 6) (mCons (mVar 10) (mCons (mVar 4) (mNil))))) (mC (.bool true)))
theorem fw_right2 {p : List PD} {r s : List Int} {q : Fl → Ev → Prop} {o1 o3 o8 o11 o17 h2 t12 l13 : Option Val} (hp : Pot p) (sok : RowOk s)
    (z : ∀ (p : List PD) (o1 c4 o5 l6 o11 o14 o15 o16 o18 o19 : Option Val), Pot p → q (.rt (.dat (.bool true))) [some (.ref p), o1, h2, o3, c4, o5, l6, some (.dat (.int (s.length : Nat))), o8, some (.dat (rowD r)), some (.dat (rowD s)), o11, t12, l13, o14, o15, o16, o17, o18, o19, none]) : W b_tail [some (.ref p), o1, h2, o3, none, none, none, some (.dat (.int (s.length : Nat))), o8, some (.dat (rowD r)), some (.dat (rowD s)), o11, t12, l13, none, none, none, o17, none, none, none] q := by
  have sl := sok.le
  have l1 := sok.l1
  have l6 := sok.l2
  have shok := sok.shape
  have shl := shapeL_len s
  have sh2 : shapeL s = shapeL (shapeL s) := shapeL_uniq (List.Perm.refl _) (shapeL_sorted s)
  have shs : (shapeL s).sum = s.sum := by
    have h := topK_all (r := s)
    unfold topK at h
    rwa [List.take_of_length_le (by rw [shapeL_len]; exact Nat.le_refl _)] at h
  unfold b_tail
  refine w_then (fun ρ' => ρ' = [some (.ref p), o1, h2, o3, some (.own [rowD (shapeL s)]), none, none, some (.dat (.int (s.length : Nat))), o8, some (.dat (rowD r)), some (.dat (rowD s)), o11, t12, l13, none, none, none, o17, none, none, none]) ?_ ?_
  · repeat trivial
  rintro ρ' rfl
  refine w_then (fun ρ' => ∃ (p : List PD) (C : List (List Int)) (o5 o14 o15 o16 o18 o19 : Option Val), Pot p ∧ CH s C ∧ C.length ≤ 10 ∧ ρ' = [some (.ref p), o1, h2, o3, some (.own (C.map rowD)), o5, none, some (.dat (.int (s.length : Nat))), o8, some (.dat (rowD r)), some (.dat (rowD s)), o11, t12, l13, o14, o15, o16, o17, o18, o19, none]) ?_ ?_
  · repeat trivial
    refine fw_draw hp (by omega) (by omega) fun p2 m hp2 m1 m2 => ?_
    repeat trivial
    refine w_for_at (fun i ρ => ∃ (p : List PD) (C : List (List Int)) (o5 o14 o15 o16 o18 o19 : Option Val), Pot p ∧ CH s C ∧ C.length ≤ i + 1 ∧ ρ = [some (.ref p), o1, h2, o3, some (.own (C.map rowD)), o5, none, some (.dat (.int (s.length : Nat))), o8, some (.dat (rowD r)), some (.dat (rowD s)), o11, t12, l13, o14, o15, o16, o17, o18, o19, none]) ⟨p2, [shapeL s], _, _, _, _, _, _, hp2, ⟨fun q hq => by
      have e : q = shapeL s := by simpa using hq
      subst e
      exact ⟨shok, shl, shs, sh2⟩, rfl, rfl⟩, Nat.le_refl _, rfl⟩ ?_ ?_
    · rintro i x ρ hx ⟨p, C, o5, o14, o15, o16, o18, o19, hp, ch, cl, rfl⟩
      obtain ⟨hi, rfl⟩ := rangeD_get0 hx
      obtain ⟨x, hxl⟩ : ∃ x, C.getLast? = some x := by
        have : C ≠ [] := fun e => by have := ch.hd; rw [e] at this; cases this
        exact ⟨C.getLast this, List.getLast?_eq_some_getLast this⟩
      have xe := ch.el x (List.mem_of_getLast? hxl)
      have xl := xe.1.le
      have xn := xe.2.1
      repeat ((fail_if_success (with_reducible refine w_seq ?_)); trivial)
      refine w_then (fun ρ' => ρ' = [some (.ref p), o1, h2, o3, some (.own (C.map rowD)), some (.dat (.int (i : Nat))), none, some (.dat (.int (s.length : Nat))), o8, some (.dat (rowD r)), some (.dat (rowD s)), o11, t12, l13, some (.dat (rowD x)), o15, o16, o17, o18, o19, none]) ?_ ?_
      · repeat trivial
        refine op_ixL (d := rowD x) (atI_last (by rw [List.getLast?_map, hxl]; rfl)) ?_
        repeat trivial
      rintro ρ' rfl
      refine w_then (fun ρ' => ρ' = [some (.ref p), o1, h2, o3, some (.own (C.map rowD)), some (.dat (.int (i : Nat))), none, some (.dat (.int (s.length : Nat))), o8, some (.dat (rowD r)), some (.dat (rowD s)), o11, t12, l13, some (.dat (rowD x)), some (.own []), o16, o17, o18, o19, none]) ?_ ?_
      · repeat trivial
      rintro ρ' rfl
      refine w_then (fun ρ' => ∃ (fl : List (List Int)) (o16 o18 o19 : Option Val), fl.length ≤ 36 ∧ (∀ q ∈ fl, stepB x q = true) ∧ ρ' = [some (.ref p), o1, h2, o3, some (.own (C.map rowD)), some (.dat (.int (i : Nat))), none, some (.dat (.int (s.length : Nat))), o8, some (.dat (rowD r)), some (.dat (rowD s)), o11, t12, l13, some (.dat (rowD x)), some (.own (fl.map rowD)), o16, o17, o18, o19, none]) ?_ ?_
      · repeat trivial
        refine w_for_at (fun k ρ => ∃ (fl : List (List Int)) (o16 o18 o19 : Option Val), fl.length ≤ 6 * k ∧ (∀ q ∈ fl, stepB x q = true) ∧ ρ = [some (.ref p), o1, h2, o3, some (.own (C.map rowD)), some (.dat (.int (i : Nat))), none, some (.dat (.int (s.length : Nat))), o8, some (.dat (rowD r)), some (.dat (rowD s)), o11, t12, l13, some (.dat (rowD x)), some (.own (fl.map rowD)), o16, o17, o18, o19, none]) ⟨[], _, _, _, Nat.le_refl _, fun q h => (List.not_mem_nil h).elim, rfl⟩ ?_ ?_
        · rintro k y ρ hy ⟨fl, o16, o18, o19, fl1, fl2, rfl⟩
          obtain ⟨hk, rfl⟩ := rangeD_get0 hy
          repeat trivial
          refine w_for_at (fun j ρ => ∃ (gl : List (List Int)) (o18 o19 : Option Val), gl.length ≤ 6 * k + j ∧ (∀ q ∈ gl, stepB x q = true) ∧ ρ = [some (.ref p), o1, h2, o3, some (.own (C.map rowD)), some (.dat (.int (i : Nat))), none, some (.dat (.int (s.length : Nat))), o8, some (.dat (rowD r)), some (.dat (rowD s)), o11, t12, l13, some (.dat (rowD x)), some (.own (gl.map rowD)), some (.dat (.int (k : Nat))), o17, o18, o19, none]) ⟨fl, _, _, by omega, fl2, rfl⟩ ?_ ?_
          · rintro j y ρ hy ⟨gl, o18, o19, gl1, gl2, rfl⟩
            obtain ⟨hj, rfl⟩ := rangeD_getN hy
            have hb : k + 1 + j < x.length := by omega
            rw [show ((k : Nat) : Int) + 1 + (j : Nat) = ((k + 1 + j : Nat) : Int) by omega]
            have gll : gl.length ≤ 36 := by omega
            generalize hbb : k + 1 + j = b at *
            have ed : (x.set ((k : Nat) : Int).toNat (gI x k - 1)).set ((b : Nat) : Int).toNat (gI x b + 1) = dnL x k b := by simp only [Int.toNat_natCast, dnL]
            repeat trivial
            rw [ed]
            have dl := dnL_len x k b
            refine fw_law_is_step xe.1 (by omega) ?_
            refine tr_of ?_
            refine br_bool (fun c => ?_) (fun c => ?_)
            · repeat trivial
              refine op_extend (by simp; omega) ?_
              repeat trivial
              refine ⟨gl ++ [dnL x k b], _, _, by simp; omega, fun q hq => ?_, by rw [List.map_append]; rfl⟩
              rcases List.mem_append.mp hq with hq | hq
              · exact gl2 q hq
              · have : q = dnL x k b := by simpa using hq
                rw [this]; exact c
            · repeat trivial
              refine op_extend (by simp; omega) ?_
              repeat trivial
              exact ⟨gl, _, _, by omega, gl2, by rw [List.append_nil]; rfl⟩
          · rintro ρ ⟨gl, o18, o19, gl1, gl2, rfl⟩
            rw [rangeD_len] at gl1
            exact ⟨gl, _, _, _, by omega, gl2, rfl⟩
        · rintro ρ ⟨fl, o16, o18, o19, fl1, fl2, rfl⟩
          rw [rangeD_len] at fl1
          exact ⟨rfl, fl, _, _, _, by omega, fl2, rfl⟩
      clear o16 o18 o19
      rintro ρ' ⟨fl, o16, o18, o19, fl1, fl2, rfl⟩
      repeat trivial
      refine op_neNilA ?_
      cases fl with
      | nil =>
        repeat trivial
        refine op_addL (by simp; omega) ?_
        repeat trivial
        exact ⟨p, C, _, _, _, _, _, _, hp, ch, by omega, by rw [List.append_nil]; rfl⟩
      | cons q0 fl =>
        repeat trivial
        refine fw_pick hp (by simp) (by simp only [List.length_map, List.length_cons] at fl1 ⊢; omega) fun p2 y hp2 hy => ?_
        obtain ⟨q1, hq1, rfl⟩ := List.mem_map.mp hy
        have st := fl2 q1 hq1
        have qe := stepped xe st
        repeat trivial
        refine op_addL (by simp; omega) ?_
        repeat trivial
        refine ⟨p2, C ++ [q1], _, _, _, _, _, _, hp2, ⟨fun q hq => ?_, ?_, pairs_snoc ch.pr hxl st⟩, by simp; omega, by rw [List.map_append]; rfl⟩
        · rcases List.mem_append.mp hq with hq | hq
          · exact ch.el q hq
          · have : q = q1 := by simpa using hq
            rw [this]; exact qe
        · rw [List.head?_append, ch.hd]; rfl
    · rintro ρ ⟨p, C, o5, o14, o15, o16, o18, o19, hp, ch, cl, rfl⟩
      rw [rangeD_len] at cl
      exact ⟨rfl, p, C, _, _, _, _, _, _, hp, ch, by omega, rfl⟩
  clear hp p
  rintro ρ' ⟨p, C, o5, o14, o15, o16, o18, o19, hp, ch, cl, rfl⟩
  obtain ⟨x, hxl⟩ : ∃ x, C.getLast? = some x := by
    have : C ≠ [] := fun e => by have := ch.hd; rw [e] at this; cases this
    exact ⟨C.getLast this, List.getLast?_eq_some_getLast this⟩
  have xe := ch.el x (List.mem_of_getLast? hxl)
  have gx := xe.1.gd
  have gC : GL 1 (10 * 127) (C.map rowD) := gl_all (k := 1) (w := 126) (fun d hd => by
    obtain ⟨q, hq, rfl⟩ := List.mem_map.mp hd
    exact (ch.el q hq).1.gd) (by simpa using cl)
  have smC : smD (.list (C.map rowD)) = true := smL_mem.mpr fun d hd => by
    obtain ⟨q, hq, rfl⟩ := List.mem_map.mp hd
    exact smN2 fun v hv => by have := (ch.el q hq).1.el v hv; omega
  refine w_then (fun ρ' => ρ' = [some (.ref p), o1, h2, o3, some (.own (C.map rowD)), o5, some (.dat (rowD x)), some (.dat (.int (s.length : Nat))), o8, some (.dat (rowD r)), some (.dat (rowD s)), o11, t12, l13, o14, o15, o16, o17, o18, o19, none]) ?_ ?_
  · repeat trivial
    refine op_ixL (d := rowD x) (atI_last (by rw [List.getLast?_map, hxl]; rfl)) ?_
    repeat trivial
  rintro ρ' rfl
  refine w_then (fun ρ' => ∃ (p : List PD) (o1 o5 o11 o16 : Option Val), Pot p ∧ ρ' = [some (.ref p), o1, h2, o3, some (.dat (.list (C.map rowD))), o5, some (.dat (rowD x)), some (.dat (.int (s.length : Nat))), o8, some (.dat (rowD r)), some (.dat (rowD s)), o11, t12, l13, o14, o15, o16, o17, o18, o19, none]) ?_ ?_
  · refine w_for ?_
    refine w_items ?_
    refine w_bin ?_
    refine w_mid (fun r' ρ' => ∃ o16 : Option Val, r' = .own (chVals C x) ∧ ρ' = [some (.ref p), o1, h2, o3, some (.dat (.list (C.map rowD))), o5, some (.dat (rowD x)), some (.dat (.int (s.length : Nat))), o8, some (.dat (rowD r)), some (.dat (rowD s)), o11, t12, l13, o14, o15, o16, o17, o18, o19, none]) ?_ ?_
    · have lc : (cutD (C.map rowD) (some (-1)) none).length ≤ 10 := by
        have h1 : (cutD (C.map rowD) (some (-1)) none).length ≤ (C.map rowD).length := List.Sublist.length_le ((List.take_sublist _ _).trans (List.drop_sublist _ _))
        have h2 : (C.map rowD).length = C.length := List.length_map _
        omega
      repeat trivial
      refine op_addL (by rw [List.length_map]; omega) ?_
      repeat trivial
      refine w_lc_t (enc := rowD) (l := C) (fun q => .list (numL q)) rfl (fun q hq => ?_) ?_
      · repeat trivial
      repeat trivial
      exact ⟨_, rfl, rfl⟩
    clear o16
    rintro r' ρ' ⟨o16, rfl, rfl⟩
    have vC := gC.vl
    have sub1 : (cutD (C.map rowD) none (some (-1))).Sublist (C.map rowD) := (List.take_sublist _ _).trans (List.drop_sublist _ _)
    have sub2 : (cutD (C.map rowD) (some (-1)) none).Sublist (C.map rowD) := (List.take_sublist _ _).trans (List.drop_sublist _ _)
    have gN : GL 1 (10 * 127) (C.map fun q => PyData.list (numL q)) := gl_all (k := 1) (w := 126) (fun d hd => by
      obtain ⟨q, hq, rfl⟩ := List.mem_map.mp hd
      have h1 := (ch.el q hq).1
      exact gd_l (gl_ints (n := 6) (fun v hv => by have := h1.el v hv; omega) h1.l2)) (by simpa using cl)
    have hlv : AllV (chVals C x) := fun d hd => by
      simp only [chVals, List.mem_cons, List.not_mem_nil, or_false] at hd
      rcases hd with rfl | rfl | rfl | rfl | rfl | rfl | rfl | rfl | rfl | rfl | rfl | rfl
      · exact (vl_l vC).mono (by decide) (by decide)
      · exact (vl_t vC).mono (by decide) (by decide)
      · exact (vl_l vC.reverse).mono (by decide) (by decide)
      · exact (vl_l (vC.sub sub1)).mono (by decide) (by decide)
      · exact (vl_l (vL_append vC (vC.sub sub2))).mono (by decide) (by decide)
      · exact (vl_l vL_nil).mono (by decide) (by decide)
      · exact gd_none.vl.mono (by decide) (by decide)
      · exact (gd_int (i := 0) (by decide)).vl.mono (by decide) (by decide)
      · exact vl_dict0.mono (by decide) (by decide)
      · exact (vl_l (vL_cons gx.vl vL_nil)).mono (by decide) (by decide)
      · exact (vl_l gN.vl).mono (by decide) (by decide)
      · exact (vl_l (vC.take 1)).mono (by decide) (by decide)
    have hll : (chVals C x).length = 12 := rfl
    have gL : Gd 2 1270 (.list (C.map rowD)) := gd_l gC
    generalize chVals C x = V at hlv hll ⊢
    repeat trivial
    refine w_lc_inv (fun i acc ρ => ∃ p, Pot p ∧ acc.length = i ∧ AllV acc ∧ ρ = [some (.ref p), o1, h2, o3, some (.dat (.list (C.map rowD))), none, some (.dat (rowD x)), some (.dat (.int (s.length : Nat))), o8, some (.dat (rowD r)), some (.dat (rowD s)), o11, t12, l13, o14, o15, o16, o17, o18, o19, none]) ⟨p, hp, rfl, fun x hx => (List.not_mem_nil hx).elim, rfl⟩ ?_ ?_
    · rintro i x' acc ρ hx ⟨p, hp, hl2, hac, rfl⟩
      repeat trivial
      refine fw_law_bentV 24 (k := 2) (w := 1270) (by decide) hp gL.vl smC (by decide) fun p2 v d' hp2 hv hd' => ?_
      rcases hv with rfl | ⟨es, rfl, rfl⟩
      · repeat trivial
        exact ⟨p2, hp2, by simp [hl2], allV_snoc hac hd' (by decide) (by decide), rfl⟩
      · repeat trivial
        exact ⟨p2, hp2, by simp [hl2], allV_snoc hac hd' (by decide) (by decide), rfl⟩
    · rintro acc ρ ⟨p, hp, hl2, hac, rfl⟩
      rw [rangeD_len] at hl2
      have hl2 : acc.length = 6 := hl2
      repeat trivial
      refine op_addL (by omega) ?_
      repeat trivial
      have al := allV_app hlv hac
      generalize V ++ acc = vals at *
      refine w_for_at (fun i ρ => ∃ (o1 o5 o11 : Option Val), ρ = [some (.ref p), o1, h2, o3, some (.dat (.list (C.map rowD))), o5, some (.dat (rowD x)), some (.dat (.int (s.length : Nat))), o8, some (.dat (rowD r)), some (.dat (rowD s)), o11, t12, l13, o14, o15, o16, o17, o18, o19, none]) ⟨_, _, _, rfl⟩ ?_ ?_
      · rintro i x' ρ hx ⟨o1, o5, o11, rfl⟩
        have hv := al x' (List.mem_of_getElem? hx)
        have hw : x'.weight ≤ 100000 := Nat.le_trans hv.wt (by decide)
        repeat trivial
        refine fw_law_is_chainV xe.1 sok xe.2.1 hw ?_
        repeat trivial
        refine fw_is_chainV xe.1 sok xe.2.1 xe.2.2.1 hw ?_
        repeat trivial
        refine fw_is_chainV xe.1 sok xe.2.1 xe.2.2.1 hw ?_
        repeat trivial
        exact ⟨_, _, _, rfl⟩
      · rintro ρ ⟨o1, o5, o11, rfl⟩
        exact ⟨rfl, p, _, _, _, _, hp, rfl⟩
  clear hp p
  rintro ρ' ⟨p, o1, o5, o11, o16, hp, rfl⟩
  have hc : chainV x s (.list (C.map rowD)) = true := ch_true ch hxl
  repeat trivial
  refine fw_is_chainV xe.1 sok xe.2.1 xe.2.2.1 (Nat.le_trans (gd_l gC).wt (by decide)) ?_
  rw [hc]
  repeat trivial
  exact z p _ _ _ _ _ _ _ _ _ _ hp
end HD
namespace HD
open PySem L2 DL
local macro_rules | `(tactic| trivial) => `(tactic| first
  | ((with_reducible refine gRV ?_); first
    | (with_reducible refine w_c ?_)
    | ((with_reducible refine w_var (d := ?_) ?_ ?_); rotate_left; · exact rfl)
    | ((with_reducible refine w_varO (ds := ?_) ?_ ?_); rotate_left; · exact rfl)
    | ((with_reducible refine w_varR (ds := ?_) ?_ ?_); rotate_left; · exact rfl)
    | (with_reducible refine w_bin ?_)
    | (with_reducible refine w_blt ?_)
    | (with_reducible refine w_un ?_)
    | (with_reducible refine w_tup ?_)
    | (with_reducible refine w_lst ?_)
    | (with_reducible refine w_if ?_)
    | (with_reducible refine w_mut rfl ?_)
    | (with_reducible refine w_comp ?_)
    | (with_reducible refine w_slice ?_)
    | (with_reducible refine w_chain ?_)
    | (with_reducible refine w_andV ?_)
    | (with_reducible refine w_orV ?_)
    | (with_reducible refine w_notV ?_)
    | (with_reducible refine w_ofB ?_)
    | ((with_reducible refine w_varS (ds := ?_) ?_ ?_); rotate_left; · exact rfl)
    | ((with_reducible refine w_lenScr (ds := ?_) ?_ ?_); rotate_left; · exact rfl)
    | ((with_reducible refine w_ixScr (ds := ?_) ?_ ?_); rotate_left; · exact rfl)
    | (with_reducible refine w_rg1 ?_)
    | (with_reducible refine w_rg2 ?_)
    | (with_reducible refine w_read ?_)
    | ((with_reducible refine w_slScr (ds := ?_) ?_ ?_); rotate_left; · exact rfl)
    | ((with_reducible refine w_call ?_ ?_); rotate_left; (· exact hand_of _ _ _))
    | ((with_reducible refine w_callP ?_ ?_); rotate_left; (· exact hand_of _ _ _))
    | ((with_reducible refine w_callK ?_ ?_); rotate_left; (· exact hand_of _ _ _))
    | (with_reducible refine w_callN ?_))
  | ((with_reducible refine gRL ?_); first
    | (with_reducible refine w_cons ?_)
    | (with_reducible refine w_nil ?_))
  | ((with_reducible refine gFl ?_); first
    | (with_reducible refine w_seq ?_)
    | (with_reducible refine w_set ?_)
    | (with_reducible refine w_ifS ?_)
    | (with_reducible refine w_ret ?_)
    | (with_reducible refine w_asg ?_)
    | (with_reducible refine w_drop ?_)
    | (with_reducible refine w_par ?_)
    | (with_reducible refine w_for ?_)
    | (with_reducible refine w_next ?_))
  | ((with_reducible refine gBo ?_); first
    | (with_reducible refine w_truth ?_)
    | (with_reducible refine w_not ?_)
    | (with_reducible refine w_and ?_)
    | (with_reducible refine w_or ?_)
    | (with_reducible refine w_if ?_)
    | (with_reducible refine w_thawT ?_)
    | (with_reducible refine w_yes ?_))
  | ((with_reducible refine gPL ?_); first
    | (with_reducible refine w_args ?_)
    | (with_reducible refine w_items ?_)
    | (with_reducible refine w_range1 ?_)
    | (with_reducible refine w_range2 ?_)
    | (with_reducible refine w_enum ?_)
    | (with_reducible refine w_zip ?_))
  | ((with_reducible refine gOI ?_); first
    | (with_reducible refine w_partN ?_)
    | (with_reducible refine w_partS ?_))
  | ((with_reducible refine gO2 ?_); first
    | (with_reducible refine op2_tdC ?_)
    | (with_reducible refine op2_tdN ?_)
    | (with_reducible refine op2_tvC ?_)
    | (with_reducible refine op2_tvN ?_)
    | (refine op2_of rfl ?_))
  | ((with_reducible refine gOp ?_); first
    | (with_reducible refine op_bName ?_)
    | (with_reducible refine op_bTup rfl ?_)
    | (with_reducible refine op_bTup2 rfl ?_)
    | (with_reducible refine op_bTup2L rfl ?_)
    | (with_reducible refine op_bCons ?_)
    | (with_reducible refine op_bNil ?_)
    | ((with_reducible refine op_subR (r := ?_) ?_ ?_); rotate_left; · exact rfl)
    | (with_reducible refine op_resC ?_)
    | (with_reducible refine op_resN ?_)
    | (with_reducible refine op_addI ?_)
    | (with_reducible refine op_subI ?_)
    | (with_reducible refine op_lt ?_)
    | (with_reducible refine op_le ?_)
    | (with_reducible refine op_gt ?_)
    | (with_reducible refine op_ge ?_)
    | (with_reducible refine op_eqI ?_)
    | (with_reducible refine op_neI ?_)
    | (with_reducible refine op_int ?_)
    | (with_reducible refine op_eqB ?_)
    | (with_reducible refine op_neB ?_)
    | (with_reducible refine op_isB ?_)
    | (with_reducible refine op_notB ?_)
    | (with_reducible refine op_neSS ?_)
    | (with_reducible refine op_eqSS ?_)
    | (with_reducible refine op_eqSx (by decide +kernel) ?_)
    | (with_reducible refine op_neSx (by decide +kernel) ?_)
    | (with_reducible refine op_max2 ?_)
    | (with_reducible refine op_min2 ?_)
    | (with_reducible refine op_abs ?_)
    | (with_reducible refine op_lenR ?_)
    | (with_reducible refine op_lenRL ?_)
    | (with_reducible refine op_rev2R ?_)
    | (with_reducible refine op_rev2T ?_)
    | (with_reducible refine op_listR ?_)
    | (with_reducible refine op_sumR ?_)
    | (with_reducible refine op_sumRL ?_)
    | (with_reducible refine op_takeRL (by omega) ?_)
    | (with_reducible refine op_takeR (by omega) ?_)
    | (with_reducible refine op_dropRL (by omega) ?_)
    | (with_reducible refine op_dropR (by omega) ?_)
    | (with_reducible refine op_takePL (by omega) ?_)
    | (with_reducible refine op_dropPL (by omega) ?_)
    | (with_reducible refine op_takePT (by omega) ?_)
    | (with_reducible refine op_dropPT (by omega) ?_)
    | (with_reducible refine op_ixR (by first | omega | (simp only [List.length_set]; omega)) ?_)
    | (with_reducible refine op_ixRL (by first | omega | (simp only [List.length_set]; omega)) ?_)
    | (with_reducible refine op_mod (by first | decide | omega) ?_)
    | (with_reducible refine op_fdiv (by first | decide | omega) ?_)
    | (with_reducible refine op_mulI (by first | decide | omega) ?_)
    | (with_reducible refine op_mul2I (by first | decide | omega) ?_)
    | (with_reducible refine op_mul3I (by first | decide | omega) ?_)
    | (with_reducible refine op_divmod (by first | decide | omega) ?_)
    | (with_reducible refine op_divmod3 (by first | decide | omega) ?_)
    | (with_reducible refine op_pow (by first | decide | omega) ?_)
    | ((with_reducible apply op_reprG); (· (repeat (first | assumption | exact gl_nil | exact gd_none | exact gd_bool _ | exact gd_int (by omega) | exact gd_str | apply gl_cons | apply gd_l | apply gd_t))); (· decide); (· decide))
    | (with_reducible refine op_dbl ?_)
    | (with_reducible refine op_numT ?_)
    | (refine op_of rfl ?_))
  | ((with_reducible refine gBr ?_); first
    | (with_reducible refine br_tt ?_)
    | (with_reducible refine br_ff ?_)
    | (with_reducible refine br_f bne_self ?_)
    | (with_reducible refine br_not ?_)
    | (with_reducible refine br_yes (by first | decide | omega) ?_)
    | (with_reducible refine br_no (by first | decide | omega) ?_)
    | (with_reducible refine br_t (isW_t (by omega)) ?_)
    | (refine br_t (by rfl) ?_)
    | (refine br_f (by rfl) ?_))
  | ((with_reducible refine go_nx (w_norm (ρ' := ?_) ?_ ?_)); rotate_left; · first | (dsimp only [List.set, back, Val.put, List.getElem?_cons_zero, List.getElem?_cons_succ, wipeE, backE]; exact rfl) | exact rfl)
  | ((with_reducible refine nm_of (ρ' := ?_) ?_ ?_); rotate_left; · first | (dsimp only [List.set, back, Val.put, List.getElem?_cons_zero, List.getElem?_cons_succ, wipeE, backE]; exact rfl) | exact rfl)
  | ((with_reducible refine fwN (ys := ?_) ?_ ?_); rotate_left; · (dsimp only [List.filterMap_cons, List.filterMap_nil, List.getElem?_cons_zero, List.getElem?_cons_succ]; exact rfl))
  | (with_reducible refine go_rt ?_)
  | (with_reducible refine and_bd (by omega) (by omega) ?_)
  | (with_reducible refine and_rg (by omega) (by omega) ?_)
  | (with_reducible refine and_lk (by first | omega | (simp only [rangeD_len, List.length_map, List.length_cons, List.length_nil]; omega)) ?_)
  | (with_reducible refine and_ix (by first | omega | (simp only [List.length_set]; omega)) ?_)
  | (with_reducible refine tr_of ?_)
  | (with_reducible refine end_dat ?_)
  | (with_reducible refine end_own ?_)
  | (with_reducible refine end_nx ?_)
  | (with_reducible refine turn_nx ?_)
  | (with_reducible refine turn_rt ?_)
  | ((with_reducible refine gEx ?_); first | (refine ⟨_, _, rfl, ?_⟩) | (refine ⟨_, rfl, ?_⟩) | (refine ⟨_, _, rfl, rfl, ?_⟩))
  | ((with_reducible refine gAn ?_); first | (refine ⟨Nat.le_of_ble_eq_true rfl, ?_⟩) | (refine ⟨rfl, ?_⟩))
  | (with_reducible refine w_pl ?_)
  | (with_reducible refine w_seqX ?_)
  | (with_reducible refine w_ifX ?_)
  | (with_reducible refine w_forX ?_)
  | (with_reducible refine w_raise ?_)
  | (with_reducible refine w_setX ?_)
  | (with_reducible refine w_lst2X ?_)
  | (with_reducible refine w_try ?_)
  | (with_reducible refine w_callE ?_)
  | (with_reducible refine gox_rt ?_)
  | (with_reducible refine gox_ex ?_)
  | (with_reducible refine endx_dat ?_)
  | (with_reducible refine endx_own ?_)
  | (with_reducible refine endx_nx ?_)
  | (with_reducible refine endx_ex ?_)
  | (with_reducible refine turnx_ex ?_)
  | (with_reducible refine turnx_nx ?_)
  | (with_reducible refine tryo_ex ?_)
  | (with_reducible refine tryo_fl ?_)
  | (with_reducible refine seto_v ?_)
  | (with_reducible refine seto_x ?_)
  | (with_reducible refine lst2_d ?_)
  | (with_reducible refine lst2_o ?_)
  | (with_reducible refine lst2_x ?_)
  | (with_reducible refine w_told ⟨Nat.le_of_ble_eq_true rfl, by decide⟩ ?_)
  | ((with_reducible refine gox_nx (w_norm (ρ' := ?_) ?_ ?_)); rotate_left; · first | (dsimp only [List.set, back, Val.put, List.getElem?_cons_zero, List.getElem?_cons_succ, wipeE, backE]; exact rfl) | exact rfl))
local macro_rules | `(tactic| trivial) => `(tactic| ((with_reducible refine gFw ?_); first
  | (with_reducible refine fw_is_integer ?_)
  | (with_reducible refine fw_is_within ?_)
  | (with_reducible refine fw_want_row (by assumption) ?_)
  | (with_reducible refine fw_want_as_many (by first | assumption | omega) ?_)
  | (with_reducible refine fw_want_like (by assumption) (by assumption) (by first | assumption | omega) (by first | assumption | omega) ?_)
  | (with_reducible refine fw_shape_of (by first | assumption | exact RowOk.le (by assumption) | omega) ?_)
  | (with_reducible refine fw_heads_of (by first | assumption | exact RowOk.le (by assumption) | omega) ?_)
  | (with_reducible refine fw_law_shape (by first | assumption | exact RowOk.le (by assumption) | omega) ?_)
  | (with_reducible refine fw_law_heads (by first | assumption | exact RowOk.le (by assumption) | omega) ?_)
  | (with_reducible refine fw_law_is_evener (by first | assumption | exact RowOk.le (by assumption) | omega) (by first | assumption | omega) ?_)
  ))
theorem smN {ls : List Int} (h : ∀ x ∈ ls, 0 ≤ x ∧ x ≤ 360) : smL (numL ls) = true := smL_mem.mpr fun x hx => by
  obtain ⟨v, hv, rfl⟩ := numL_mem hx
  have := h v hv
  exact decide_eq_true (by omega)
theorem fw_is_row {d : PD} {Q : RV → List Val → Prop} (hn : d.weight ≤ 1000000) (z : Q (.dat (.bool (isRV d))) [.dat d]) : Fw m_is_row [.dat d] Q := by
  refine fb_is_row ?_
  unfold b_is_row
  repeat trivial
  refine fw_is_row_valueV hn ?_
  repeat trivial
def rowVals (r : List Int) : List PD := [rowD r, .list (numL r), .tuple [], .tuple [.int 60], .tuple [.int 61], .tuple [.int 0, .int 0, .int 0, .int 0, .int 0, .int 0], .tuple [.int 0, .int 0, .int 0, .int 0, .int 0, .int 0, .int 0], .tuple [.int (-1)], .none, .int 0, .str "1", .dict [], .tuple [.bool true]]
theorem w_lc_st {vs : List Nat} {b : Bd PD} {mc : Mr Bool} {me : Mr RV} {q : List PD → Ev → Prop} {items : List PD} {ρ : Ev} (I : Nat → List PD → Ev → Prop) (h0 : I 0 [] ρ)
    (hs : ∀ i x acc ρ, items[i]? = some x → I i acc ρ → Op (b x ρ) fun ρ1 => W mc ρ1 fun t ρ2 => Br t (W me ρ2 fun r ρ3 => Op2 (toDat r ρ3) fun d ρ4 => I (i + 1) (acc ++ [d]) (wipeE ρ4 vs)) (I (i + 1) acc (wipeE ρ2 vs)))
    (he : ∀ acc ρ, I items.length acc ρ → q acc ρ) : W (mLc vs b mc me items) ρ q := by
  have key := w_lc_at (q := q) I h0 hs he
  simpa using key
def headsD (r s : List Int) : PD := .tuple [.str "heads", rowD (headsL r), rowD (headsL s)]
def papVals (r s : List Int) (ds : List PD) (ls : List Int) (n : Int) : List PD := [.tuple ds, headsD r s, .tuple [.str "sides", rowD ls], .tuple [.str "sides", .tuple []], .tuple [.str "heads", rowD (headsL r)], .tuple [.str "heads", rowD (headsL r), rowD (headsL s), .tuple []], .tuple [.str "sides", .tuple [.int n]], .tuple [.str "sides", .tuple [.int 0, .int 0]], .list ds, .none, .tuple [], .int 0, .tuple [.str "Heads", rowD (headsL r), rowD (headsL s)]]
theorem fw_right {p : List PD} {Q : RV → List Val → Prop} (hp : Pot p) (z : ∀ p', Pot p' → Q (.dat (.bool true)) [.ref p']) : Fw m__law_right [.ref p] Q := by
  refine fb__law_right ?_
  unfold b__law_right
  repeat trivial
  refine fw_draw hp (by omega) (by omega) fun p1 n hp1 n1 n2 => ?_
  repeat trivial
  refine fw_draw hp1 (by omega) (by omega) fun p2 T hp2 t1 t2 => ?_
  repeat trivial
  refine fw_row hp2 ⟨by omega, by omega⟩ ⟨by omega, by omega⟩ fun p3 r hp3 r1 r2 r3 => ?_
  repeat trivial
  refine fw_row hp3 ⟨by omega, by omega⟩ ⟨by omega, by omega⟩ fun p4 s hp4 s1 s2 s3 => ?_
  have ok : RowOk r := ⟨by omega, by omega, fun x hx => by have := r2 x hx; omega⟩
  have sok : RowOk s := ⟨by omega, by omega, fun x hx => by have := s2 x hx; omega⟩
  have hl : r.length = s.length := by omega
  have he : r.sum = s.sum := by omega
  have g0 := ok.gd
  have g1 := sok.gd
  have rl := ok.le
  have sl := sok.le
  have sm0 : smD (rowD r) = true := smN fun x hx => by have := ok.el x hx; omega
  repeat ((fail_if_success (with_reducible refine w_seq ?_)); trivial)
  refine w_then (fun ρ' => ∃ (p : List PD) (o1 o11 : Option Val), Pot p ∧ ρ' = [some (.ref p), o1, none, none, none, none, none, some (.dat (.int (1 + n))), some (.dat (.int T)), some (.dat (rowD r)), some (.dat (rowD s)), o11, none, none, none, none, none, none, none, none, none]) ?_ ?_
  · refine w_for ?_
    refine w_items ?_
    refine w_bin ?_
    refine w_mid (fun r' ρ' => r' = .own (rowVals r) ∧ ρ' = [some (.ref p4), none, none, none, none, none, none, some (.dat (.int (1 + n))), some (.dat (.int T)), some (.dat (rowD r)), some (.dat (rowD s)), none, none, none, none, none, none, none, none, none, none]) ?_ ?_
    · repeat trivial
    rintro r' ρ' ⟨rfl, rfl⟩
    have gv := g0.vl
    have gnl : VL 0 126 (numL r) := (gl_ints (n := 6) (fun x hx => by have := ok.el x hx; omega) ok.l2).vl
    have gb := (gd_bool true).vl
    have hlv : AllV (rowVals r) := by
      unfold rowVals
      apply allV_of
      · repeat (first | assumption | exact vL_nil | exact vl_dict0 | exact gd_none.vl | exact (gd_int (by omega)).vl | exact (gd_str (by decide +kernel)).vl | apply vL_cons | apply vl_t | apply vl_l)
      · decide
      · decide +kernel
    have hll : (rowVals r).length = 13 := rfl
    repeat trivial
    refine w_lc_inv (fun i acc ρ => ∃ p, Pot p ∧ acc.length = i ∧ AllV acc ∧ ρ = [some (.ref p), none, none, none, none, none, none, some (.dat (.int (1 + n))), some (.dat (.int T)), some (.dat (rowD r)), some (.dat (rowD s)), none, none, none, none, none, none, none, none, none, none]) ⟨p4, hp4, rfl, fun x hx => (List.not_mem_nil hx).elim, rfl⟩ ?_ ?_
    · rintro i x' acc ρ hx ⟨p, hp, hl2, hac, rfl⟩
      repeat trivial
      refine fw_law_bentV 24 (k := 1) (w := 126) (by decide) hp g0.vl sm0 (by decide) fun p2 v d' hp2 hv hd' => ?_
      rcases hv with rfl | ⟨es, rfl, rfl⟩
      · repeat trivial
        exact ⟨p2, hp2, by simp [hl2], allV_snoc hac hd' (by decide) (by decide), rfl⟩
      · repeat trivial
        exact ⟨p2, hp2, by simp [hl2], allV_snoc hac hd' (by decide) (by decide), rfl⟩
    · rintro acc ρ ⟨p, hp, hl2, hac, rfl⟩
      rw [rangeD_len] at hl2
      have hl2 : acc.length = 8 := hl2
      repeat trivial
      refine op_addL (by omega) ?_
      repeat trivial
      have al := allV_app hlv hac
      generalize rowVals r ++ acc = vals at *
      refine w_for_at (fun i ρ => ∃ (o1 o11 : Option Val), ρ = [some (.ref p), o1, none, none, none, none, none, some (.dat (.int (1 + n))), some (.dat (.int T)), some (.dat (rowD r)), some (.dat (rowD s)), o11, none, none, none, none, none, none, none, none, none]) ⟨_, _, rfl⟩ ?_ ?_
      · rintro i x' ρ hx ⟨o1, o11, rfl⟩
        have hv := al x' (List.mem_of_getElem? hx)
        have hw : x'.weight ≤ 1000000 := Nat.le_trans hv.wt (by decide)
        repeat ((fail_if_success (with_reducible refine w_seq ?_)); trivial)
        refine w_then (fun ρ' => ρ' = [some (.ref p), some (.dat x'), none, none, none, none, none, some (.dat (.int (1 + n))), some (.dat (.int T)), some (.dat (rowD r)), some (.dat (rowD s)), some (.dat (.bool (isRV x'))), none, none, none, none, none, none, none, none, none]) ?_ ?_
        · cases x' with
          | tuple a =>
            have ha : a.length ≤ 100000 := by
              have h3 := weightAll_len a
              simp only [PyData.weight] at hw
              have := hv.wt
              simp only [PyData.weight] at this
              omega
            have e : isRV (.tuple a) = (decide (1 ≤ (a.length : Int)) && decide ((a.length : Int) ≤ 6) && a.all fun x => isW x 0 60) := rfl
            repeat trivial
            refine br_dec (fun h1 => ?_) (fun h1 => ?_)
            · rw [decide_eq_true h1, Bool.true_and] at e
              repeat trivial
              refine br_dec (fun h2 => ?_) (fun h2 => ?_)
              · rw [decide_eq_true h2, Bool.true_and] at e
                rw [e]
                repeat trivial
                refine w_lc_t (enc := id) (l := a) (fun e => .bool (isW e 0 60)) (by simp) (fun e he => ?_) ?_
                · cases e with
                  | int i =>
                    repeat trivial
                    refine br_dec (fun c => ?_) (fun c => ?_)
                    · repeat trivial
                      refine ⟨congrArg PyData.bool ?_, rfl⟩
                      show decide (i ≤ 60) = (decide (0 ≤ i) && decide (i ≤ 60))
                      rw [decide_eq_true c, Bool.true_and]
                    · repeat trivial
                      refine ⟨congrArg PyData.bool ?_, rfl⟩
                      show false = (decide (0 ≤ i) && _)
                      rw [decide_eq_false c]; rfl
                  | _ => repeat trivial
                repeat trivial
                refine op_all ?_
                repeat trivial
              · rw [decide_eq_false h2, Bool.false_and] at e
                rw [e]
                repeat trivial
            · rw [decide_eq_false h1, Bool.false_and, Bool.false_and] at e
              rw [e]
              repeat trivial
          | _ => repeat trivial
        rintro ρ' rfl
        repeat trivial
        refine fw_is_row hw ?_
        repeat trivial
        refine fw_is_row hw ?_
        repeat trivial
        exact ⟨_, _, rfl⟩
      · rintro ρ ⟨o1, o11, rfl⟩
        repeat trivial
        exact ⟨p, _, _, hp, rfl⟩
  clear hp4
  rintro ρ' ⟨p, o1, o11, hp, rfl⟩
  refine w_then (fun ρ' => ∃ (p : List PD) (ds : List PD) (ls : List Int), Pot p ∧ Gd 2 300 (.tuple ds) ∧ smD (.tuple ds) = true ∧ ls.length ≤ 6 ∧ (∀ x ∈ ls, 0 ≤ x ∧ x < 6) ∧ ρ' = [some (.ref p), o1, none, none, none, none, none, some (.dat (.int (1 + n))), some (.dat (.int T)), some (.dat (rowD r)), some (.dat (rowD s)), o11, some (.dat (.tuple ds)), some (.dat (rowD ls)), none, none, none, none, none, none, none]) ?_ ?_
  · repeat trivial
    refine fw_evener_paper ok sok hl he fun ds gd sm => ?_
    repeat trivial
    refine w_lc_st (fun i acc ρ => ∃ (p : List PD) (ls : List Int), Pot p ∧ ls.length ≤ i ∧ (∀ x ∈ ls, 0 ≤ x ∧ x < 6) ∧ acc = numL ls ∧ ρ = [some (.ref p), o1, none, none, none, none, none, some (.dat (.int (1 + n))), some (.dat (.int T)), some (.dat (rowD r)), some (.dat (rowD s)), o11, none, none, none, none, none, none, none, none, none]) ⟨p, [], hp, Nat.le_refl _, fun _ h => (List.not_mem_nil h).elim, rfl, rfl⟩ ?_ ?_
    · rintro i x acc ρ hx ⟨p, ls, hp, l6, lb, rfl, rfl⟩
      obtain ⟨hi, rfl⟩ := rangeD_get0 hx
      repeat trivial
      refine fw_draw hp (by omega) (by omega) fun p2 m hp2 m1 m2 => ?_
      repeat trivial
      refine br_dec (fun c => ?_) (fun c => ?_)
      · repeat trivial
        refine ⟨p2, ls ++ [(i : Int)], hp2, by simp; omega, fun x hx => ?_, by simp [numL], rfl⟩
        rcases List.mem_append.mp hx with hx | hx
        · exact lb x hx
        · have : x = (i : Int) := by simpa using hx
          omega
      · exact ⟨p2, ls, hp2, by omega, lb, rfl, rfl⟩
    · rintro acc ρ ⟨p, ls, hp, l6, lb, rfl, rfl⟩
      rw [rangeD_len] at l6
      repeat trivial
      exact ⟨p, ds, ls, hp, gd, sm, by omega, lb, rfl⟩
  clear hp p
  rintro ρ' ⟨p, ds, ls, hp, gd, sm, l6, lb, rfl⟩
  refine w_then (fun ρ' => ρ' = [some (.ref p), o1, some (.dat (headsD r s)), none, none, none, none, some (.dat (.int (1 + n))), some (.dat (.int T)), some (.dat (rowD r)), some (.dat (rowD s)), o11, some (.dat (.tuple ds)), some (.dat (rowD ls)), none, none, none, none, none, none, none]) ?_ ?_
  · repeat trivial
  rintro ρ' rfl
  refine w_then (fun ρ' => ρ' = [some (.ref p), o1, some (.dat (headsD r s)), some (.own (papVals r s ds ls (1 + n))), none, none, none, some (.dat (.int (1 + n))), some (.dat (.int T)), some (.dat (rowD r)), some (.dat (rowD s)), o11, some (.dat (.tuple ds)), some (.dat (rowD ls)), none, none, none, none, none, none, none]) ?_ ?_
  · repeat trivial
  rintro ρ' rfl
  have hb1 := heads_bd ok
  have hb2 := heads_bd sok
  have hh1 := headsL_len r
  have hh2 := headsL_len s
  have gh1 : Gd 1 126 (rowD (headsL r)) := gd_ints (n := 6) (fun x hx => by have := hb1 x hx; omega) (by omega)
  have gh2 : Gd 1 126 (rowD (headsL s)) := gd_ints (n := 6) (fun x hx => by have := hb2 x hx; omega) (by omega)
  have gls : Gd 1 126 (rowD ls) := gd_ints (n := 6) (fun x hx => by have := lb x hx; omega) l6
  have gH : Gd 2 300 (headsD r s) := (gd_t (gl_cons (gd_str (x := "heads")) (gl_cons gh1 (gl_cons gh2 gl_nil)))).mono (by decide) (by decide +kernel)
  have gS : Gd 2 300 (.tuple [.str "sides", rowD ls]) := (gd_t (gl_cons (gd_str (x := "sides")) (gl_cons gls gl_nil))).mono (by decide) (by decide +kernel)
  have smH : smD (headsD r s) = true := by
    show (smD (.str "heads") && (smL (numL (headsL r)) && (smL (numL (headsL s)) && true))) = true
    rw [smN hb1, smN hb2]; rfl
  have smS : smD (.tuple [.str "sides", rowD ls]) = true := by
    show (smD (.str "sides") && (smL (numL ls) && true)) = true
    rw [smN fun x hx => by have := lb x hx; omega]; rfl
  have hpv : AllV (papVals r s ds ls (1 + n)) := by
    have v1 := gd.vl
    have v2 := gH.vl
    have v3 := gS.vl
    have v4 := gh1.vl
    have v5 := gh2.vl
    obtain ⟨j, hj, v6⟩ := v1.items (.inr rfl)
    have hj : j = 1 := by omega
    subst hj
    unfold papVals
    apply allV_of
    · repeat (first | assumption | exact vL_nil | exact vl_dict0 | exact gd_none.vl | exact (gd_int (by omega)).vl | exact (gd_str (by decide +kernel)).vl | apply vL_cons | apply vl_t | apply vl_l)
    · decide
    · decide +kernel
  have hpl : (papVals r s ds ls (1 + n)).length = 13 := rfl
  refine w_then (fun ρ' => ∃ (p : List PD) (o1 o3 o11 o17 : Option Val), Pot p ∧ ρ' = [some (.ref p), o1, some (.dat (headsD r s)), o3, none, none, none, some (.dat (.int (1 + n))), some (.dat (.int T)), some (.dat (rowD r)), some (.dat (rowD s)), o11, some (.dat (.tuple ds)), some (.dat (rowD ls)), none, none, none, o17, none, none, none]) ?_ ?_
  · repeat trivial
    refine w_lc_inv (fun i acc ρ => ∃ p, Pot p ∧ acc.length = i ∧ AllV acc ∧ ρ = [some (.ref p), o1, some (.dat (headsD r s)), some (.own (papVals r s ds ls (1 + n))), none, none, none, some (.dat (.int (1 + n))), some (.dat (.int T)), some (.dat (rowD r)), some (.dat (rowD s)), o11, some (.dat (.tuple ds)), some (.dat (rowD ls)), none, none, none, none, none, none, none]) ⟨p, hp, rfl, fun x hx => (List.not_mem_nil hx).elim, rfl⟩ ?_ ?_
    · rintro i x' acc ρ hx ⟨p, hp, hl2, hac, rfl⟩
      repeat trivial
      refine fw_pick hp (by simp) (by simp) fun p2 x hp2 hx => ?_
      have hx2 : Gd 2 300 x ∧ smD x = true := by
        simp only [List.mem_cons, List.not_mem_nil, or_false] at hx
        rcases hx with rfl | rfl | rfl
        · exact ⟨gd, sm⟩
        · exact ⟨gH, smH⟩
        · exact ⟨gS, smS⟩
      repeat trivial
      refine fw_law_bentV 24 (k := 2) (w := 300) (by decide) hp2 hx2.1.vl hx2.2 (by decide) fun p3 v d' hp3 hv hd' => ?_
      rcases hv with rfl | ⟨es, rfl, rfl⟩
      · repeat trivial
        exact ⟨p3, hp3, by simp [hl2], allV_snoc hac hd' (by decide) (by decide), rfl⟩
      · repeat trivial
        exact ⟨p3, hp3, by simp [hl2], allV_snoc hac hd' (by decide) (by decide), rfl⟩
    · rintro acc ρ ⟨p, hp, hl2, hac, rfl⟩
      rw [rangeD_len] at hl2
      have hl2 : acc.length = 8 := hl2
      repeat trivial
      refine op_addL (by omega) ?_
      repeat trivial
      have al := allV_app hpv hac
      generalize hvv : papVals r s ds ls (1 + n) ++ acc = vals at *
      generalize papVals r s ds ls (1 + n) = V3 at *
      refine w_for_at (fun i ρ => ∃ (o1 o3 o11 o17 : Option Val), ρ = [some (.ref p), o1, some (.dat (headsD r s)), o3, none, none, none, some (.dat (.int (1 + n))), some (.dat (.int T)), some (.dat (rowD r)), some (.dat (rowD s)), o11, some (.dat (.tuple ds)), some (.dat (rowD ls)), none, none, none, o17, none, none, none]) ⟨_, _, _, _, rfl⟩ ?_ ?_
      · rintro i x' ρ hx ⟨o1, o3, o11, o17, rfl⟩
        have hv := al x' (List.mem_of_getElem? hx)
        have hw : x'.weight ≤ 4000 := Nat.le_trans hv.wt (by decide)
        repeat trivial
        refine fw_law_is_paper ok sok hl hw ?_
        repeat trivial
        refine op_reprV hv (by decide) (by decide) ?_
        repeat trivial
        refine fw_is_evener_paperV ok sok hl he hw ?_
        repeat trivial
        refine fw_is_evener_paperV ok sok hl he hw ?_
        repeat trivial
        refine op_reprV hv (by decide) (by decide) ?_
        repeat trivial
        exact ⟨_, _, _, _, rfl⟩
      · rintro ρ ⟨o1, o3, o11, o17, rfl⟩
        repeat trivial
        exact ⟨p, _, _, _, _, hp, rfl⟩
  clear hp p
  rintro ρ' ⟨p, o1, o3, o11, o17, hp, rfl⟩
  clear hpv hpl
  have e8 : (1 + n : Int) = (s.length : Nat) := by omega
  rw [e8]
  refine fw_right2 hp sok fun p o1 c4 o5 l6 o11 o14 o15 o16 o18 o19 hp => ?_
  repeat trivial
  exact z p hp
theorem law_true (ns : List Int) (h : ns.length ≤ 63) : ∃ ys, m_law [.scr (numL ns)] = some (.dat (.bool true), ys) := by
  have : Fw m_law [.scr (numL ns)] fun r _ => r = .dat (.bool true) := by
    refine fb_law ?_
    unfold b_law
    repeat trivial
    refine w_lc_each (fun x => .bool true) (fun x hx => ?_) ?_
    · obtain ⟨k, rfl, hk1, hk2⟩ := rangeD_mem0 hx
      have hk3 : k < 1000000 := by
        simp only [List.length_map] at hk2
        omega
      repeat trivial
      refine fw_pot ⟨hk1, hk3⟩ fun p hp => ?_
      repeat trivial
      refine fw_right hp fun p' hp' => ?_
      repeat trivial
    repeat trivial
    refine op_all (p := fun _ => true) ?_
    repeat trivial
    simp
  obtain ⟨r, ys, e, rfl⟩ := this
  exact ⟨ys, e⟩
end HD
section
open PySem PySem.W PySem.Calls PyProof.Rows
theorem PySem.Challenge.cw_evenerrows_k10_any_value_as_row_paper_ch_holds : PySem.Challenge.rw_evenerrows_k10_any_value_as_row_paper_ch.Holds :=
  HD.early (DL.walk_fn (l := PySem.Challenge.rw_evenerrows_k10_any_value_as_row_paper_ch) (n := 63) (k := 29) (st := HD.top 42) (x := "script") (mf := HD.m_law) rfl (by decide) (by kernel_rfl) ⟨rfl, by decide, by decide⟩ (by kernel_rfl) HD.pl_law
      (fun w K mg base c => HD.ok_law c) HD.law_true)
end
